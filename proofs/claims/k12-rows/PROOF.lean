import PyProof.Rows.All
import Wide.All
import OpenK.AllK
import Wide.FinOn
import HandS.Base
import HandS.Call
import HandS.List
import HandS.Comp
import HandS.Dict
import HandS.Iter
import HandS.Text
import HandS.Exc
import HandS.Deep
import HandS.More
import HandS.Defaults
import HandS.HeadHook1
import HandS.TupAny
import HandS.TupMul
import HandS.Codes
import KE.KIntText
import KE.IntTextLaws
import KE.DataFind
import HandS.Flow
import HandS.ExcOwn
import HandS.CallSlots
import HandS.Words
import HandS.WordsExc
import HandS.WordsDict
import HandS.IsInst
import HandS.Style
import HandS.TupLe
import KE.KDictList
import KE.KDictSum
import HandS.SetFor
import HandS.SortInts
import HandS.SortOrd
import PyProof.Rows.SortStr
import PyProof.Rows.SortKeyStr
import KE.KSortTup
import HandS.Head0
import HandS.Head1
import HandS.Head2
import HandS.HeadEnd
import HandS.HeadHook2
import HandS.HeadHook3
import HandS.Ends
import HandS.HeadWalk
import PySem.Challenge.RW_keywire_k12_whole_rows
set_option Elab.async false
set_option linter.all false
set_option maxRecDepth 100000
/-! KwCore: a small language for the Python that is used here, and what it computes. -/
namespace KW

/-- a text: its code points -/
abbrev T := List Nat
abbrev Key := Sum Int T

/-- a value: tuples, and lists and dicts that are not changed any more, by what they hold; ref: a cell of the heap -/
inductive D where
  | non | bl (b : Bool) | int (i : Int) | str (s : T)
  | tup (xs : List D) | lst (xs : List D) | dct (kvs : List (Key × D))
  | ref (i : Nat) | exc (c : String) (fs : List (String × D))
  deriving Inhabited

/-- a list or dict that may still be changed -/
inductive Cont where
  | lst (xs : List D) | dct (kvs : List (Key × D))
  deriving Inhabited
/-- what a place holds -/
inductive SV where
  | val (d : D) | own (c : Cont)
  deriving Inhabited
inductive Cell where
  | ins (c : String) (fs : List (String × SV))
  | lst (xs : List D) | dct (kvs : List (Key × SV))
  deriving Inhabited
/-- a place -/
inductive Pl where
  | slot (j : Nat) | fld (i : Nat) (f : String) | ent (i : Nat) (k : Key)
  deriving DecidableEq, Inhabited
/-- a value behind an expression: own: new, nobody else has it; pk: what stands at a place -/
inductive RV where
  | val (d : D) | own (c : Cont) | pk (p : Pl) (c : Cont)
  deriving Inhabited

structure S where
  σ : List (Option SV)
  h : List Cell
structure Exc where
  cls : String
  fs : List (String × D)

inductive R (α : Type) where
  | ok (a : α) (s : S) | raise (x : Exc) (s : S) | stuck
def R.bind {α β : Type} : R α → (α → S → R β) → R β
  | .ok a s, f => f a s
  | .raise x s, _ => .raise x s
  | .stuck, _ => .stuck
@[simp] theorem bind_ok {α β : Type} (a : α) (s : S) (f : α → S → R β) : (R.ok a s).bind f = f a s := rfl
@[simp] theorem bind_raise {α β : Type} (x : Exc) (s : S) (f : α → S → R β) : (R.raise x s : R α).bind f = .raise x s := rfl
@[simp] theorem bind_stuck {α β : Type} (f : α → S → R β) : (R.stuck : R α).bind f = .stuck := rfl

/-- no exception comes out -/
def R.calm {α : Type} : R α → R α
  | .ok a s => .ok a s
  | _ => .stuck
@[simp] theorem calm_ok {α : Type} (a : α) (s : S) : (R.ok a s).calm = .ok a s := rfl
abbrev sizeLine : Nat := 16777216

/-! ### reading -/
@[simp] def SV.rv (p : Pl) : SV → RV
  | .val d => .val d
  | .own c => .pk p c
@[simp] def Cont.fz : Cont → D
  | .lst xs => .lst xs
  | .dct kvs => .dct kvs
@[simp] def Cell.cont? : Cell → Option Cont
  | .lst xs => some (.lst xs)
  | _ => none
/-- the list that a value is -/
@[simp] def lstOf (h : List Cell) : RV → Option (List D)
  | .val (.lst xs) => some xs
  | .own (.lst xs) => some xs
  | .pk _ (.lst xs) => some xs
  | .val (.ref i) => match h[i]? with
    | some (.lst xs) => some xs
    | _ => none
  | _ => none
@[simp] def tupOf : RV → Option (List D)
  | .val (.tup xs) => some xs
  | _ => none
/-- the list or tuple that a value is -/
@[simp] def seqOf (h : List Cell) (v : RV) : Option (List D) := match v with
  | .val (.tup xs) => some xs
  | v => lstOf h v
@[simp] def plainEs (kvs : List (Key × D)) : List (Key × SV) := kvs.map fun q => (q.1, .val q.2)
/-- a dict's entries, and the cell where it stands -/
@[simp] def dctOf (h : List Cell) : RV → Option (Option Nat × List (Key × SV))
  | .val (.dct kvs) => some (none, plainEs kvs)
  | .own (.dct kvs) => some (none, plainEs kvs)
  | .pk _ (.dct kvs) => some (none, plainEs kvs)
  | .val (.ref i) => match h[i]? with
    | some (.dct kvs) => some (some i, kvs)
    | _ => none
  | _ => none
def kfind {α : Type} (k : Key) : List (Key × α) → Option α
  | [] => none
  | q :: r => if q.1 = k then some q.2 else kfind k r
def tfind {α : Type} (k : T) : List (T × α) → Option α
  | [] => none
  | q :: r => if q.1 = k then some q.2 else tfind k r
def kput {α : Type} (k : Key) (v : α) : List (Key × α) → List (Key × α)
  | [] => [(k, v)]
  | q :: r => if q.1 = k then (q.1, v) :: r else q :: kput k v r
def kdel {α : Type} (k : Key) (l : List (Key × α)) : List (Key × α) := l.filter fun q => !decide (q.1 = k)
@[simp] def keyOf : D → Option Key
  | .int i => some (.inl i)
  | .str s => some (.inr s)
  | _ => none
@[simp] def keyD : Key → D
  | .inl i => .int i
  | .inr s => .str s
@[simp] def ffind {α : Type} (f : String) (l : List (String × α)) : Option α := l.lookup f
def fput {α : Type} (f : String) (v : α) : List (String × α) → List (String × α)
  | [] => [(f, v)]
  | q :: r => if q.1 = f then (f, v) :: r else q :: fput f v r

/-! ### data: equality, order -/
mutual
def isData : D → Bool
  | .non | .bl _ | .int _ | .str _ => true
  | .tup xs | .lst xs => isDatas xs
  | _ => false
def isDatas : List D → Bool
  | [] => true
  | x :: xs => isData x && isDatas xs
end
mutual
def dep : D → Nat
  | .tup xs | .lst xs => deps xs + 1
  | _ => 0
def deps : List D → Nat
  | [] => 0
  | x :: xs => max (dep x) (deps xs)
end
def b2i (b : Bool) : Int := if b then 1 else 0
mutual
def deq : D → D → Bool
  | .non, .non => true
  | .bl a, .bl b => a == b
  | .bl a, .int j => decide (b2i a = j)
  | .int i, .bl b => decide (i = b2i b)
  | .int i, .int j => decide (i = j)
  | .str x, .str y => decide (x = y)
  | .lst xs, .lst ys => deqs xs ys
  | .tup xs, .tup ys => deqs xs ys
  | _, _ => false
def deqs : List D → List D → Bool
  | [], [] => true
  | x :: xs, y :: ys => deq x y && deqs xs ys
  | _, _ => false
end
def Cont.dat : Cont → D := Cont.fz
/-- a value's data -/
def datOf (h : List Cell) : RV → Option D
  | .val (.ref i) => match h[i]? with
    | some (.lst xs) => some (.lst xs)
    | _ => none
  | .val d => some d
  | .own c => some c.fz
  | .pk _ c => some c.fz
def shaped (d : D) : Bool := isData d && decide (dep d ≤ 60)
def flat : D → Bool
  | .non | .bl _ | .int _ | .str _ => true
  | _ => false

/-! ### numbers and texts -/
def digs : Nat → Nat → T
  | 0, _ => []
  | f + 1, n => if n < 10 then [48 + n] else digs f (n / 10) ++ [48 + n % 10]
/-- a number's text -/
def itoa (i : Int) : T := if i < 0 then 45 :: digs (i.natAbs + 1) i.natAbs else digs (i.natAbs + 1) i.natAbs
def isDig (c : Nat) : Bool := decide (48 ≤ c) && decide (c ≤ 57)
def atoN (a : Nat) : T → Nat
  | [] => a
  | c :: r => atoN (10 * a + (c - 48)) r
/-- a text of figures alone, perhaps a minus ahead -/
def atoi (s : T) : Option Int := match s with
  | 45 :: r => if r.isEmpty || !r.all isDig || decide (640 < s.length) then none else some (-(atoN 0 r : Int))
  | r => if r.isEmpty || !r.all isDig || decide (640 < s.length) then none else some (atoN 0 r : Int)
def sIx (n d : Nat) : Option Int → Nat
  | none => d
  | some v => if v < 0 then (v + (n : Int)).toNat else min v.toNat n
def cut {α : Type} (xs : List α) (lo hi : Option Int) : List α :=
  (xs.drop (sIx xs.length 0 lo)).take (sIx xs.length xs.length hi - sIx xs.length 0 lo)
def ixN (n : Nat) (i : Int) : Option Nat := if 0 ≤ i then (if i < n then some i.toNat else none) else if -(n : Int) ≤ i then some (i + n).toNat else none
def atI {α : Type} (xs : List α) (i : Int) : Option α := (ixN xs.length i).bind fun j => xs[j]?
def joinT (sep : T) : List T → T
  | [] => []
  | [x] => x
  | x :: y :: r => x ++ (sep ++ joinT sep (y :: r))
def strsOf : List D → Option (List T)
  | [] => some []
  | .str s :: r => (strsOf r).map (s :: ·)
  | _ :: _ => none
def intsOf : List D → Option (List Int)
  | [] => some []
  | .int i :: r => (intsOf r).map (i :: ·)
  | _ :: _ => none
def boolsOf : List D → Option (List Bool)
  | [] => some []
  | .bl b :: r => (boolsOf r).map (b :: ·)
  | _ :: _ => none
def ltT : T → T → Bool
  | [], [] => false
  | [], _ :: _ => true
  | _ :: _, [] => false
  | a :: r, b :: s => if a < b then true else if b < a then false else ltT r s
/-- what sorted orders here: texts, ints, pairs of these -/
def ltD : D → D → Bool
  | .int i, .int j => decide (i < j)
  | .str a, .str b => ltT a b
  | .tup [a, b], .tup [c, d] => match a, c with
    | .int i, .int j => if i = j then (match b, d with
      | .int i, .int j => decide (i < j)
      | .str x, .str y => ltT x y
      | _, _ => false) else decide (i < j)
    | .str x, .str y => if x = y then (match b, d with
      | .int i, .int j => decide (i < j)
      | .str x, .str y => ltT x y
      | _, _ => false) else ltT x y
    | _, _ => false
  | _, _ => false
inductive Srt where
  | i | s | pii | pis | psi | pss
  deriving DecidableEq
def srtOf : D → Option Srt
  | .int _ => some .i
  | .str _ => some .s
  | .tup [.int _, .int _] => some .pii
  | .tup [.int _, .str _] => some .pis
  | .tup [.str _, .int _] => some .psi
  | .tup [.str _, .str _] => some .pss
  | _ => none
def allSrt (k : Srt) (l : List D) : Bool := l.all fun d => decide (srtOf d = some k)
def insD (x : D) : List D → List D
  | [] => [x]
  | y :: r => if ltD x y then x :: y :: r else y :: insD x r
/-- in order, equal ones in their turns -/
def sortD (l : List D) : List D := l.foldr (fun x acc => insDb x acc) []
where insDb (x : D) : List D → List D
  | [] => [x]
  | y :: r => if ltD y x then y :: insDb x r else x :: y :: r
def sortable (l : List D) : Bool := match l with
  | [] => true
  | x :: _ => match srtOf x with
    | some k => allSrt k l
    | none => false
def dedup : List D → List D
  | [] => []
  | x :: r => if r.any (fun y => deq y x) then dedup r else x :: dedup r

/-! ### the language -/
inductive CmpO where
  | eq | ne | lt | le | gt | ge | isIn | notIn
  deriving DecidableEq
inductive Op1 where
  | len | abs | neg | int | str | ord | list | tuple | sorted | sortedKeys | listKeys | sortedSet | lenSet | sum | all | any | copy | minL
  | isNone | notNone | isFalse | notFalse | rev | isTup
  deriving DecidableEq
inductive Op2 where
  | add | sub | mul | fdiv | mod | cmp (o : CmpO) | idx | slFrom | slTo | startswith | join | index | count | min2 | max2
  deriving DecidableEq
inductive Op3 where
  | dget | slBoth
  deriving DecidableEq
inductive Mu where
  | append | extend | pop | popI | popK | popD | remove | clear
  deriving DecidableEq

mutual
inductive E where
  | var (i : Nat)
  | cst (d : D)
  | glb (x : String) (d : D)
  | p1 (o : Op1) (a : E) | p2 (o : Op2) (a b : E) | p3 (o : Op3) (a b c : E)
  | tup (es : List E) | lst (es : List E) | dct (ks : List D) (es : List E)
  | fld (cs : List String) (e : E) (f : String)
  | and (a b : E) | or (a b : E) | not (a : E) | ife (c a b : E)
  | chain (o₁ o₂ : CmpO) (a b c : E)
  | call (f : String) (es : List E)
  | new (c : String) (es : List E)
  | meth (c m : String) (e : E) (es : List E)
  | comp (is : List Nat) (it : It) (cs : List E) (e : E)
  | mut (o : Mu) (e : E) (es : List E)
  | box (e : E) | frz (e : E)
  | isinst (e : E) (c : String)
  | gIn (x : String) (kvs : List (T × D)) (e : E) | gIdx (x : String) (kvs : List (T × D)) (e : E) | gGet (x : String) (kvs : List (T × D)) (e z : E)
  | inL (x : String) (ts : List T) (e : E)
inductive It where
  | seq (e : E) | rng1 (e : E) | rng2 (a b : E) | rng3 (a b c : E) | enum (e : E) | keys (e : E) | vals (e : E)
end
instance : Inhabited E := ⟨.cst .non⟩
inductive St where
  | asgn (i : Nat) (e : E)
  | unp (is : List Nat) (e : E)
  | par (is : List Nat) (es : List E)
  | fset (cs : List String) (o : E) (f : String) (e : E)
  | iset (o k e : E)
  | expr (e : E)
  | ite (c : E) (a b : List St)
  | whil (c : E) (b : List St)
  | forr (is : List Nat) (it : It) (b : List St)
  | ret (e : E) | retN
  | rais (c : String) (es : List E)
  | tryx (b : List St) (c : String) (n : Option Nat) (suite : List St)
  | brk | pas
structure Fn where
  np : Nat
  ns : Nat
  body : List St
  deriving Inhabited

/-! ### single operations -/
/-- a value handed on for good -/
@[simp] def expo : RV → Option D
  | .val d => some d
  | .own c => some c.fz
  | .pk _ _ => none
def truth (h : List Cell) : RV → Option Bool
  | .val .non => some false
  | .val (.bl b) => some b
  | .val (.int i) => some (decide (i ≠ 0))
  | .val (.str s) => some (!s.isEmpty)
  | .val (.tup xs) => some (!xs.isEmpty)
  | .val (.lst xs) => some (!xs.isEmpty)
  | .val (.ref i) => match h[i]? with
    | some (.lst xs) => some (!xs.isEmpty)
    | _ => none
  | .own (.lst xs) => some (!xs.isEmpty)
  | .pk _ (.lst xs) => some (!xs.isEmpty)
  | _ => none
def okSize (n : Nat) : Bool := decide (n ≤ sizeLine)
def newLst (xs : List D) : Option RV := if okSize xs.length then some (.own (.lst xs)) else none
def newStr (s : T) : Option RV := if okSize s.length then some (.val (.str s)) else none
def oLen (h : List Cell) (v : RV) : Option RV := match v with
  | .val (.str s) => some (.val (.int s.length))
  | v => match seqOf h v with
    | some xs => some (.val (.int xs.length))
    | none => (dctOf h v).map fun q => .val (.int q.2.length)
def oAbs : RV → Option RV
  | .val (.int i) => some (.val (.int (if i < 0 then -i else i)))
  | _ => none
def oNeg : RV → Option RV
  | .val (.int i) => some (.val (.int (-i)))
  | _ => none
def oInt : RV → Option RV
  | .val (.bl b) => some (.val (.int (b2i b)))
  | .val (.int i) => some (.val (.int i))
  | .val (.str s) => (atoi s).map fun i => .val (.int i)
  | _ => none
def oStr : RV → Option RV
  | .val (.int i) => if i.natAbs.log2 < 1920 then some (.val (.str (itoa i))) else none
  | _ => none
def oOrd : RV → Option RV
  | .val (.str [c]) => some (.val (.int c))
  | _ => none
def oKeys (h : List Cell) (v : RV) : Option (List D) := (dctOf h v).map fun q => q.2.map fun e => keyD e.1
def oSort (xs : List D) : Option RV := if sortable xs = true then newLst (sortD xs) else none
def oSet (xs : List D) : Option (List D) := if (sortable xs && xs.all flat) = true then some (dedup xs) else none
def oMin (xs : List D) : Option RV := match xs with
  | .int i :: r => (intsOf r).map fun is => .val (.int (is.foldl min i))
  | _ => none
def oIsNone : RV → Option Bool
  | .val (.exc _ _) => some false
  | .val .non => some true
  | _ => some false
def oIsFalse : RV → Option Bool
  | .val (.bl b) => some (!b)
  | .val (.tup _) => some false
  | .val (.int _) => some false
  | .val (.str _) => some false
  | .val .non => some false
  | _ => none
def oCopy : RV → Option RV
  | .val (.dct kvs) => some (.own (.dct kvs))
  | .own (.dct kvs) => some (.own (.dct kvs))
  | .pk _ (.dct kvs) => some (.own (.dct kvs))
  | _ => none
def oRev (h : List Cell) (v : RV) : Option RV := (lstOf h v).bind fun xs => newLst xs.reverse
def oIsTup : RV → Option RV
  | .val (.tup _) => some (.val (.bl true))
  | .val (.int _) => some (.val (.bl false))
  | .val (.str _) => some (.val (.bl false))
  | .val .non => some (.val (.bl false))
  | .val (.bl _) => some (.val (.bl false))
  | _ => none
def run1 (h : List Cell) (o : Op1) (v : RV) : Option RV := match o with
  | .len => oLen h v
  | .abs => oAbs v
  | .neg => oNeg v
  | .int => oInt v
  | .str => oStr v
  | .ord => oOrd v
  | .list => (seqOf h v).bind newLst
  | .tuple => (seqOf h v).map fun xs => .val (.tup xs)
  | .sorted => (lstOf h v).bind oSort
  | .sortedKeys => (oKeys h v).bind oSort
  | .listKeys => (oKeys h v).bind newLst
  | .sortedSet => (seqOf h v).bind fun xs => (oSet xs).bind fun ys => newLst (sortD ys)
  | .lenSet => (seqOf h v).bind fun xs => (oSet xs).map fun ys => .val (.int ys.length)
  | .sum => (lstOf h v).bind fun xs => (intsOf xs).map fun is => .val (.int is.sum)
  | .all => (lstOf h v).bind fun xs => (boolsOf xs).map fun bs => .val (.bl (bs.all id))
  | .any => (lstOf h v).bind fun xs => (boolsOf xs).map fun bs => .val (.bl (bs.any id))
  | .copy => oCopy v
  | .minL => (lstOf h v).bind oMin
  | .isNone => (oIsNone v).map fun b => .val (.bl b)
  | .notNone => (oIsNone v).map fun b => .val (.bl (!b))
  | .isFalse => (oIsFalse v).map fun b => .val (.bl b)
  | .notFalse => (oIsFalse v).map fun b => .val (.bl (!b))
  | .rev => oRev h v
  | .isTup => oIsTup v
def cmpI (o : CmpO) (i j : Int) : Option Bool := match o with
  | .lt => some (decide (i < j)) | .le => some (decide (i ≤ j)) | .gt => some (decide (j < i)) | .ge => some (decide (j ≤ i))
  | _ => none
def inL (ys : List D) (d : D) : Option Bool := if (shaped d && ys.all shaped) = true then some (ys.any fun z => deq z d) else none
def inT (ys : List D) (d : D) : Option Bool := if (flat d && ys.all flat) = true then some (ys.any fun z => deq z d) else none
def inD (q : Option Nat × List (Key × SV)) : RV → Option Bool
  | .val d => (keyOf d).map fun k => (kfind k q.2).isSome
  | _ => none
def inS (z : T) : RV → Option Bool
  | .val (.str [c]) => some (decide (c ∈ z))
  | _ => none
/-- x in y -/
def runIn (h : List Cell) (x y : RV) : Option Bool := match y with
  | .val (.str z) => inS z x
  | .val (.tup ys) => (datOf h x).bind (inT ys)
  | y => match lstOf h y with
    | some ys => (datOf h x).bind (inL ys)
    | none => (dctOf h y).bind fun q => inD q x
def eqD (a b : D) : Option Bool := if (shaped a && shaped b) = true then some (deq a b) else none
def cmpInt (o : CmpO) : RV → RV → Option Bool
  | .val (.int i), .val (.int j) => cmpI o i j
  | _, _ => none
def runCmp (h : List Cell) (o : CmpO) (x y : RV) : Option Bool := match o with
  | .eq => (datOf h x).bind fun a => (datOf h y).bind fun b => eqD a b
  | .ne => ((datOf h x).bind fun a => (datOf h y).bind fun b => eqD a b).map (!·)
  | .isIn => runIn h x y
  | .notIn => (runIn h x y).map (!·)
  | .lt => cmpInt .lt x y
  | .le => cmpInt .le x y
  | .gt => cmpInt .gt x y
  | .ge => cmpInt .ge x y
def part : RV → Option (Option Int)
  | .val (.int i) => some (some i)
  | _ => none
def runCut (h : List Cell) (v : RV) (lo hi : Option Int) : Option RV := match v with
  | .val (.str s) => some (.val (.str (cut s lo hi)))
  | .val (.tup xs) => some (.val (.tup (cut xs lo hi)))
  | v => (lstOf h v).bind fun xs => newLst (cut xs lo hi)
@[simp] def unSV : SV → D
  | .val d => d
  | .own c => c.fz
def entOf (q : Option Nat × List (Key × SV)) (k : Key) : Option RV := (kfind k q.2).map fun sv => match q.1 with
  | some i => sv.rv (.ent i k)
  | none => .val (unSV sv)
def oIdxS (s : T) : RV → Option RV
  | .val (.int i) => (atI s i).map fun c => .val (.str [c])
  | _ => none
def oIdxL (xs : List D) : RV → Option RV
  | .val (.int i) => (atI xs i).map .val
  | _ => none
def oIdxD (q : Option Nat × List (Key × SV)) : RV → Option RV
  | .val d => (keyOf d).bind (entOf q)
  | _ => none
def runIdx (h : List Cell) (x y : RV) : Option RV := match x with
  | .val (.str s) => oIdxS s y
  | x => match seqOf h x with
    | some xs => oIdxL xs y
    | none => (dctOf h x).bind fun q => oIdxD q y
def oAdd (h : List Cell) (x y : RV) : Option RV := match x, y with
  | .val (.int i), .val (.int j) => some (.val (.int (i + j)))
  | .val (.str a), .val (.str b) => newStr (a ++ b)
  | x, y => (lstOf h x).bind fun xs => (lstOf h y).bind fun ys => newLst (xs ++ ys)
def oSub : RV → RV → Option RV
  | .val (.int i), .val (.int j) => some (.val (.int (i - j)))
  | _, _ => none
def rep {α : Type} (j : Int) (a : List α) : List α := (List.replicate j.toNat a).flatten
def oMul (h : List Cell) (x y : RV) : Option RV := match x, y with
  | .val (.int i), .val (.int j) => if -(2 ^ 64) < i ∧ i < 2 ^ 64 then some (.val (.int (i * j))) else none
  | .val (.str a), .val (.int j) => if 0 ≤ j ∧ a.length ≤ 1000 ∧ j ≤ 1000 then some (.val (.str (rep j a))) else none
  | .val (.tup a), .val (.int j) => if a.isEmpty = false ∧ a.length ≤ 1000 ∧ 2 ≤ j ∧ j ≤ 1000 then some (.val (.tup (rep j a))) else none
  | .own (.lst a), .val (.int j) => if 0 ≤ j ∧ a.length ≤ 1000 ∧ j ≤ 1000 then newLst (rep j a) else none
  | _, _ => none
def oDiv : RV → RV → Option RV
  | .val (.int i), .val (.int j) => if 0 < j ∧ j < 1073741824 then some (.val (.int (i / j))) else none
  | _, _ => none
def oMod : RV → RV → Option RV
  | .val (.int i), .val (.int j) => if 0 < j then some (.val (.int (i % j))) else none
  | _, _ => none
def oStart : RV → RV → Option RV
  | .val (.str a), .val (.str [c]) => some (.val (.bl (a.head? == some c)))
  | _, _ => none
def oJoin (h : List Cell) (x y : RV) : Option RV := match x with
  | .val (.str a) => (seqOf h y).bind fun ys => (strsOf ys).bind fun ts => if okSize ((ts.map List.length).sum + ts.length * a.length) && okSize (joinT a ts).length then some (.val (.str (joinT a ts))) else none
  | _ => none
def oIndex (h : List Cell) (x y : RV) : Option RV := (lstOf h x).bind fun xs => (datOf h y).bind fun d => if (shaped d && xs.all shaped) = true then (xs.findIdx? fun z => deq z d).map fun (j : Nat) => RV.val (.int (j : Int)) else none
def oCount (h : List Cell) (x y : RV) : Option RV := (lstOf h x).bind fun xs => match y with
  | .val (.bl b) => (boolsOf xs).map fun bs => RV.val (.int ((bs.count b : Nat) : Int))
  | _ => none
def oMin2 : RV → RV → Option RV
  | .val (.int i), .val (.int j) => some (.val (.int (if j < i then j else i)))
  | _, _ => none
def oMax2 : RV → RV → Option RV
  | .val (.int i), .val (.int j) => some (.val (.int (if j > i then j else i)))
  | _, _ => none
def run2 (h : List Cell) (o : Op2) (x y : RV) : Option RV := match o with
  | .add => oAdd h x y
  | .sub => oSub x y
  | .mul => oMul h x y
  | .fdiv => oDiv x y
  | .mod => oMod x y
  | .cmp o => (runCmp h o x y).map fun b => .val (.bl b)
  | .idx => runIdx h x y
  | .slFrom => (part y).bind fun i => runCut h x i none
  | .slTo => (part y).bind fun i => runCut h x none i
  | .startswith => oStart x y
  | .join => oJoin h x y
  | .index => oIndex h x y
  | .count => oCount h x y
  | .min2 => oMin2 x y
  | .max2 => oMax2 x y
def oGetD (h : List Cell) (x y : RV) (zd : D) : Option RV := (dctOf h x).bind fun q => match y with
  | .val d => (keyOf d).map fun k => (entOf q k).getD (.val zd)
  | _ => none
def oGet (h : List Cell) (x y z : RV) : Option RV := (expo z).bind fun zd => oGetD h x y zd
def run3 (h : List Cell) (o : Op3) (x y z : RV) : Option RV := match o with
  | .dget => oGet h x y z
  | .slBoth => (part y).bind fun i => (part z).bind fun j => runCut h x i j

/-! ### the state -/
def setCell (h : List Cell) (i : Nat) (c : Cell) : List Cell := h.set i c
/-- a place gets something -/
def putPl (s : S) (p : Pl) (v : SV) : Option S := match p with
  | .slot j => some { s with σ := s.σ.set j (some v) }
  | .fld i f => match s.h[i]? with
    | some (.ins c fs) => some { s with h := s.h.set i (.ins c (fput f v fs)) }
    | _ => none
  | .ent i k => match s.h[i]? with
    | some (.dct kvs) => some { s with h := s.h.set i (.dct (kput k v kvs)) }
    | _ => none
/-- what a place holds -/
def getPl (s : S) (p : Pl) : Option SV := match p with
  | .slot j => match s.σ[j]? with
    | some (some v) => some v
    | _ => none
  | .fld i f => match s.h[i]? with
    | some (.ins _ fs) => ffind f fs
    | _ => none
  | .ent i k => match s.h[i]? with
    | some (.dct kvs) => kfind k kvs
    | _ => none
/-- what is of the right kind for a method -/
def recv2 (h : List Cell) (o : Op2) (x : RV) : Bool := match o with
  | .startswith | .join => (match x with
    | .val (.str _) => true
    | _ => false)
  | .index | .count => (lstOf h x).isSome
  | _ => true
def recv3 (h : List Cell) (o : Op3) (x : RV) : Bool := match o with
  | .dget => (dctOf h x).isSome
  | _ => true
def recv3b (o : Op3) (y : RV) : Bool := match o with
  | .slBoth => (match y with
    | .val (.int _) => true
    | _ => false)
  | _ => true
def recvM (h : List Cell) (o : Mu) (x : RV) : Bool := match o with
  | .popK | .popD => (dctOf h x).isSome
  | _ => (lstOf h x).isSome
@[simp] def toSV : RV → Option SV
  | .val d => some (.val d)
  | .own c => some (.own c)
  | .pk _ _ => none

/-- a list's change: what comes back, the new list -/
def muL (xs : List D) : Mu → List D → Option (D × List D)
  | .append, [d] => if xs.length < sizeLine then some (.non, xs ++ [d]) else none
  | .extend, [.lst ys] => if xs.length + ys.length ≤ sizeLine then some (.non, xs ++ ys) else none
  | .pop, [] => match xs.getLast? with
    | some d => some (d, xs.dropLast)
    | none => none
  | .popI, [.int i] => if -1073741824 < i ∧ i < 1073741824 then (match ixN xs.length i with
    | some j => (xs[j]?).map fun d => (d, xs.eraseIdx j)
    | none => none) else none
  | .remove, [d] => if shaped d && xs.all shaped then (xs.findIdx? fun z => deq z d).map fun j => (.non, xs.eraseIdx j) else none
  | .clear, [] => some (.non, [])
  | _, _ => none
/-- a dict's -/
def muD (kvs : List (Key × SV)) : Mu → List D → Option (SV × List (Key × SV))
  | .popK, [d] => (keyOf d).bind fun k => (kfind k kvs).map fun v => (v, kdel k kvs)
  | .popD, [d, z] => (keyOf d).map fun k => match kfind k kvs with
    | some v => (v, kdel k kvs)
    | none => (.val z, kvs)
  | _, _ => none
def runMu (s : S) (o : Mu) (x : RV) (ds : List D) : R RV := match x with
  | .pk p _ => match getPl s p with
    | some (.own (.lst xs)) => match muL xs o ds with
      | some (d, ys) => match putPl s p (.own (.lst ys)) with
        | some s' => .ok (.val d) s'
        | none => .stuck
      | none => .stuck
    | some (.own (.dct kvs)) => match muD (plainEs kvs) o ds with
      | some (d, ys) => match putPl s p (.own (.dct (ys.map fun q => (q.1, unSV q.2)))) with
        | some s' => .ok (.val (unSV d)) s'
        | none => .stuck
      | none => .stuck
    | _ => .stuck
  | .val (.ref i) => match s.h[i]? with
    | some (.lst xs) => match muL xs o ds with
      | some (d, ys) => .ok (.val d) { s with h := s.h.set i (.lst ys) }
      | none => .stuck
    | some (.dct kvs) => match muD kvs o ds with
      | some (.val d, ys) => .ok (.val d) { s with h := s.h.set i (.dct ys) }
      | _ => .stuck
    | _ => .stuck
  | _ => .stuck
/-- o[k] = v -/
def runISet (s : S) (x : RV) (k : D) (v : RV) : R Unit := match x with
  | .pk p _ => match getPl s p with
    | some (.own (.dct kvs)) => match keyOf k, expo v with
      | some k, some d => match putPl s p (.own (.dct (kput k d kvs))) with
        | some s' => if kvs.length < sizeLine then .ok () s' else .stuck
        | none => .stuck
      | _, _ => .stuck
    | _ => .stuck
  | .val (.ref i) => match s.h[i]? with
    | some (.dct kvs) => match keyOf k, toSV v with
      | some k, some sv => if kvs.length < sizeLine then .ok () { s with h := s.h.set i (.dct (kput k sv kvs)) } else .stuck
      | _, _ => .stuck
    | _ => .stuck
  | _ => .stuck
def boxIt (s : S) : RV → R RV
  | .own (.lst xs) => .ok (.val (.ref s.h.length)) { s with h := s.h ++ [.lst xs] }
  | .own (.dct kvs) => .ok (.val (.ref s.h.length)) { s with h := s.h ++ [.dct (plainEs kvs)] }
  | _ => .stuck
def frzIt (s : S) : RV → R RV
  | .val d => .ok (.val d) s
  | .own c => .ok (.val c.fz) s
  | .pk p _ => match getPl s p with
    | some (.own c) => match putPl s p (.val c.fz) with
      | some s' => .ok (.val c.fz) s'
      | none => .stuck
    | _ => .stuck
@[simp] def opt {α : Type} (s : S) : Option α → R α
  | some a => .ok a s
  | none => .stuck
/-- the names of a target get an item -/
def bindT (is : List Nat) (d : D) (s : S) : Option S := match is with
  | [i] => some { s with σ := s.σ.set i (some (.val d)) }
  | is => match d with
    | .tup xs => if xs.length = is.length then some { s with σ := (is.zip xs).foldl (fun σ q => σ.set q.1 (some (.val q.2))) s.σ } else none
    | _ => none
def oldVal (σ0 : List (Option SV)) (i : Nat) : Option SV := match σ0[i]? with
  | some (some (.val d)) => some (.val d)
  | _ => none
/-- behind a comprehension its own names are what they were -/
def backT (σ0 : List (Option SV)) (is : List Nat) (s : S) : S := { s with σ := is.foldl (fun σ i => σ.set i (oldVal σ0 i)) s.σ }
def range' (a : Int) (c : Int) : Nat → List D
  | 0 => []
  | n + 1 => .int a :: range' (a + c) c n
def enumFrom (k : Int) : List D → List D
  | [] => []
  | d :: r => .tup [.int k, d] :: enumFrom (k + 1) r

inductive Flow where
  | next | ret (v : RV) | brk

/-! ### pure: nothing changes -/
mutual
def pure : E → Bool
  | .var _ | .cst _ | .glb _ _ => true
  | .p1 _ a => pure a
  | .p2 _ a b => pure a && pure b
  | .p3 _ a b c => pure a && pure b && pure c
  | .tup es | .lst es => pures es
  | .dct _ es => pures es
  | .fld _ e _ => pure e
  | .and a b | .or a b => pure a && pure b
  | .not a => pure a
  | .ife c a b => pure c && pure a && pure b
  | .chain _ _ a b c => pure a && pure b && pure c
  | .isinst e _ => pure e
  | .gIn _ _ e | .gIdx _ _ e | .inL _ _ e => pure e
  | .gGet _ _ e z => pure e && pure z
  | _ => false
def pures : List E → Bool
  | [] => true
  | e :: r => pure e && pures r
end

/-- a dict is walked -/
def isK : It → Bool
  | .keys _ => true
  | .vals _ => true
  | _ => false
def calmIf {α : Type} (k : Bool) (r : R α) : R α := if k = true then r.calm else r
@[simp] theorem calmIf_false {α : Type} (r : R α) : calmIf false r = r := rfl
@[simp] theorem calmIf_true {α : Type} (r : R α) : calmIf true r = r.calm := rfl
/-- what holds the items may still be changed -/
def muOf : RV → Bool
  | .pk _ _ => true
  | .val (.ref _) => true
  | _ => false
def isPk : RV → Bool
  | .pk _ _ => true
  | _ => false

/-! ### loops -/
/-- a comprehension's turns -/
def compLoop (is : List Nat) (fc : S → R Bool) (fe : S → R D) : List D → S → List D → R (List D)
  | [], s, acc => .ok acc.reverse s
  | d :: r, s, acc => match bindT is d s with
    | none => .stuck
    | some s1 => (fc s1).bind fun b s2 => if b = true then (fe s2).bind fun x s3 => compLoop is fc fe r s3 (x :: acc) else compLoop is fc fe r s2 acc
def forLoop (is : List Nat) (fb : S → R Flow) : List D → S → R Flow
  | [], s => .ok .next s
  | d :: r, s => match bindT is d s with
    | none => .stuck
    | some s1 => (fb s1).bind fun f s2 => match f with
      | .next => forLoop is fb r s2
      | .ret v => .ok (.ret v) s2
      | .brk => .ok .next s2
def whileLoop (fc : S → R Bool) (fb : S → R Flow) : Nat → S → R Flow
  | 0, _ => .stuck
  | n + 1, s => (fc s).bind fun b s1 => if b = true then (fb s1).bind fun f s2 => match f with
      | .next => whileLoop fc fb n s2
      | .ret v => .ok (.ret v) s2
      | .brk => .ok .next s2
    else .ok .next s1
def wFuel : Nat := 1000000

/-- which class an except clause takes -/
def isSubCls (c d : String) : Bool := c == d || (d == "WireError" && (c == "BadParcel" || c == "BadNumber" || c == "NoLine"))
/-- what an exception of a class bears -/
def excFs (c : String) (ds : List D) : Option (List (String × D)) := if c = "Broken" then (match ds with
    | [d] => some [("place", d)]
    | _ => none) else some []
/-- a call of a def: the values, the heap -/
abbrev CallF := String → List D → List Cell → R RV
def isTruth (r : R RV) : R Bool := r.bind fun v s => opt s (truth s.h v)
def exports (r : R RV) : R D := r.bind fun v s => opt s (expo v)
/-- behind a call: the frame is as it was -/
def back {α : Type} (σ : List (Option SV)) : R α → R α
  | .ok a s => .ok a ⟨σ, s.h⟩
  | .raise x s => .raise x ⟨σ, s.h⟩
  | .stuck => .stuck

mutual
def evalE (C : CallF) : E → S → R RV
  | .var i, s => match s.σ[i]? with
    | some (some sv) => .ok (sv.rv (.slot i)) s
    | _ => .stuck
  | .cst d, s => .ok (.val d) s
  | .glb _ d, s => .ok (.val d) s
  | .p1 o a, s => (evalE C a s).bind fun x s => opt s (run1 s.h o x)
  | .p2 o a b, s => (evalE C a s).bind fun x s => if (isPk x && !pure b) || !recv2 s.h o x then .stuck else (evalE C b s).bind fun y s => opt s (run2 s.h o x y)
  | .p3 o a b c, s => (evalE C a s).bind fun x s => if (isPk x && !(pure b && pure c)) || !recv3 s.h o x then .stuck else
      (evalE C b s).bind fun y s => if (isPk y && !pure c) || !recv3b o y then .stuck else (evalE C c s).bind fun z s => opt s (run3 s.h o x y z)
  | .tup es, s => (evalEs C es s).bind fun ds s => .ok (.val (.tup ds)) s
  | .lst es, s => (evalEs C es s).bind fun ds s => opt s (newLst ds)
  | .dct ks es, s => (evalEs C es s).bind fun ds s => if ds.length = ks.length then opt s (((ks.mapM keyOf).map fun ks => .own (.dct ((ks.zip ds).foldl (fun l q => kput q.1 q.2 l) [])))) else .stuck
  | .fld cs e f, s => (evalE C e s).bind fun x s => match x with
    | .val (.ref i) => match s.h[i]? with
      | some (.ins c fs) => if cs.contains c = true then (match ffind f fs with
        | some sv => .ok (sv.rv (.fld i f)) s
        | none => .stuck) else .stuck
      | _ => .stuck
    | .val (.exc _ fs) => match ffind f fs with
      | some d => .ok (.val d) s
      | none => .stuck
    | _ => .stuck
  | .and a b, s => (evalE C a s).bind fun x s => match truth s.h x with
    | some true => evalE C b s
    | some false => .ok x s
    | none => .stuck
  | .or a b, s => (evalE C a s).bind fun x s => match truth s.h x with
    | some true => .ok x s
    | some false => evalE C b s
    | none => .stuck
  | .not a, s => (evalE C a s).bind fun x s => opt s ((truth s.h x).map fun b => .val (.bl (!b)))
  | .ife c a b, s => (isTruth (evalE C c s)).bind fun t s => if t = true then evalE C a s else evalE C b s
  | .chain o₁ o₂ a b c, s => (evalE C a s).bind fun x s => (evalE C b s).bind fun y s => if isPk x || isPk y then .stuck else match runCmp s.h o₁ x y with
    | some true => (evalE C c s).bind fun z s => opt s ((runCmp s.h o₂ y z).map fun t => .val (.bl t))
    | some false => .ok (.val (.bl false)) s
    | none => .stuck
  | .call f es, s => (evalEs C es s).bind fun ds s => back s.σ (C f ds s.h)
  | .new c es, s => (evalEs C es s).bind fun ds s => (back s.σ (C (c ++ ".__init__") (.ref s.h.length :: ds) (s.h ++ [.ins c []]))).calm.bind fun v s' => match v with
    | .val .non => .ok (.val (.ref s.h.length)) s'
    | _ => .stuck
  | .meth c m e es, s => (evalE C e s).bind fun x s => match x with
    | .val (.ref i) => match s.h[i]? with
      | some (.ins c' fs) => if c' = c ∧ (ffind m fs).isNone = true then (evalEs C es s).bind fun ds s => back s.σ (C (c ++ "." ++ m) (.ref i :: ds) s.h) else .stuck
      | _ => .stuck
    | _ => .stuck
  | .comp is it cs e, s => (evalIt C it s).bind fun ps s0 => if ps.2 && !(pures cs && pure e) then .stuck else
      (compLoop is (fun s => evalCs C cs s) (fun s => exports (evalE C e s)) ps.1 s0 []).calm.bind fun xs s => opt (backT s0.σ is s) (newLst xs)
  | .mut o e es, s => (evalE C e s).bind fun x s => if (isPk x && !pures es) || !recvM s.h o x then .stuck else (evalEs C es s).bind fun ds s => runMu s o x ds
  | .box e, s => (evalE C e s).bind fun x s => boxIt s x
  | .frz e, s => (evalE C e s).bind fun x s => frzIt s x
  | .isinst e c, s => (evalE C e s).bind fun x s => match x with
    | .val (.exc d _) => .ok (.val (.bl (isSubCls d c))) s
    | _ => .stuck
  | .gIn _ kvs e, s => (evalE C e s).bind fun x s => match x with
    | .val (.str t) => .ok (.val (.bl (tfind t kvs).isSome)) s
    | _ => .stuck
  | .gIdx _ kvs e, s => (evalE C e s).bind fun x s => match x with
    | .val (.str t) => opt s ((tfind t kvs).map .val)
    | _ => .stuck
  | .gGet _ kvs e z, s => (evalE C e s).bind fun x s => if isPk x then .stuck else (evalE C z s).bind fun y s => match x, y with
    | .val (.str t), .val d => .ok (.val ((tfind t kvs).getD d)) s
    | _, _ => .stuck
  | .inL _ ts e, s => (evalE C e s).bind fun x s => match x with
    | .val (.str t) => .ok (.val (.bl (decide (t ∈ ts)))) s
    | _ => .stuck
def evalEs (C : CallF) : List E → S → R (List D)
  | [], s => .ok [] s
  | e :: r, s => (exports (evalE C e s)).bind fun d s => (evalEs C r s).bind fun ds s => .ok (d :: ds) s
/-- all tests of a comprehension -/
def evalCs (C : CallF) : List E → S → R Bool
  | [], s => .ok true s
  | e :: r, s => (isTruth (evalE C e s)).bind fun b s => if b = true then evalCs C r s else .ok false s
/-- the items that are walked; whether what holds them may still be changed -/
def evalIt (C : CallF) : It → S → R (List D × Bool)
  | .seq e, s => (evalE C e s).bind fun x s => match x with
    | .val (.str t) => .ok (t.map fun c => .str [c], false) s
    | x => opt s ((seqOf s.h x).map fun xs => (xs, muOf x))
  | .rng1 e, s => (evalE C e s).bind fun x s => match x with
    | .val (.int n) => if -(2 ^ 62) ≤ n ∧ n < 2 ^ 62 then .ok (range' 0 1 n.toNat, false) s else .stuck
    | _ => .stuck
  | .rng2 a b, s => (evalE C a s).bind fun x s => (evalE C b s).bind fun y s => match x, y with
    | .val (.int i), .val (.int j) => if -(2 ^ 62) ≤ i ∧ i < 2 ^ 62 ∧ -(2 ^ 62) ≤ j ∧ j < 2 ^ 62 then .ok (range' i 1 (j - i).toNat, false) s else .stuck
    | _, _ => .stuck
  | .rng3 a b c, s => (evalE C a s).bind fun x s => (evalE C b s).bind fun y s => (evalE C c s).bind fun z s => match x, y, z with
    | .val (.int i), .val (.int j), .val (.int k) => if -(2 ^ 62) ≤ i ∧ i < 2 ^ 62 ∧ -(2 ^ 62) ≤ j ∧ j < 2 ^ 62 ∧ 1 ≤ k ∧ k < 1000 then .ok (range' i k ((j - i + k - 1) / k).toNat, false) s else .stuck
    | _, _, _ => .stuck
  | .enum e, s => (evalE C e s).bind fun x s => opt s ((lstOf s.h x).map fun xs => (enumFrom 0 xs, muOf x))
  | .keys e, s => (evalE C e s).bind fun x s => opt s ((dctOf s.h x).map fun q => (q.2.map fun e => keyD e.1, muOf x))
  | .vals e, s => (evalE C e s).bind fun x s => opt s ((dctOf s.h x).map fun q => (q.2.map fun e => unSV e.2, muOf x))
end

/-- a value that a def hands back: a list of its own goes along -/
def retV : RV → Option RV
  | .val d => some (.val d)
  | .own c => some (.own c)
  | .pk (.slot _) c => some (.own c)
  | .pk _ _ => none
mutual
def execS (C : CallF) : St → S → R Flow
  | .asgn i e, s => (evalE C e s).bind fun x s => match toSV x with
    | some sv => .ok .next { s with σ := s.σ.set i (some sv) }
    | none => .stuck
  | .unp is e, s => (exports (evalE C e s)).bind fun d s => match bindT is d s with
    | some s => .ok .next s
    | none => .stuck
  | .par is es, s => (evalEs C es s).bind fun ds s => if ds.length = is.length then .ok .next { s with σ := (is.zip ds).foldl (fun σ q => σ.set q.1 (some (.val q.2))) s.σ } else .stuck
  | .fset cs o f e, s => (evalE C e s).bind fun v s => (evalE C o s).bind fun x s => match x, toSV v with
    | .val (.ref i), some sv => match s.h[i]? with
      | some (.ins c fs) => if cs.contains c = true ∧ fs.length < 1000 then .ok .next { s with h := s.h.set i (.ins c (fput f sv fs)) } else .stuck
      | _ => .stuck
    | _, _ => .stuck
  | .iset o k e, s => (evalE C e s).bind fun v s => if isPk v then .stuck else (evalE C o s).bind fun x s => if isPk x && !pure k then .stuck else
      (exports (evalE C k s)).bind fun k s => (runISet s x k v).bind fun _ s => .ok .next s
  | .expr e, s => (evalE C e s).bind fun _ s => .ok .next s
  | .ite c a b, s => (isTruth (evalE C c s)).bind fun t s => if t = true then execs C a s else execs C b s
  | .whil c b, s => whileLoop (fun s => isTruth (evalE C c s)) (fun s => execs C b s) wFuel s
  | .forr is it b, s => (evalIt C it s).bind fun ps s => if ps.2 then .stuck else calmIf (isK it) (forLoop is (fun s => execs C b s) ps.1 s)
  | .ret e, s => (evalE C e s).bind fun x s => match retV x with
    | some v => .ok (.ret v) s
    | none => .stuck
  | .retN, s => .ok (.ret (.val .non)) s
  | .rais c es, s => (evalEs C es s).bind fun ds s => (match excFs c ds with
    | some fs => .raise ⟨c, fs⟩ s
    | none => .stuck)
  | .tryx b c n suite, s => match execs C b s with
    | .raise x s => if isSubCls x.cls c = true then (match n with
      | some i => (execs C suite { s with σ := s.σ.set i (some (.val (.exc x.cls x.fs))) }).bind fun f s => .ok f { s with σ := s.σ.set i none }
      | none => execs C suite s) else .raise x s
    | r => r
  | .brk, s => .ok .brk s
  | .pas, s => .ok .next s
def execs (C : CallF) : List St → S → R Flow
  | [], s => .ok .next s
  | st :: r, s => (execS C st s).bind fun f s => match f with
    | .next => execs C r s
    | f => .ok f s
end

/-- the defs by their names -/
abbrev Prog := String → Option Fn
def callF (G : Prog) : Nat → CallF
  | 0 => fun _ _ _ => .stuck
  | d + 1 => fun f ds h => match G f with
    | none => .stuck
    | some fn => if ds.length = fn.np then
        (execs (callF G d) fn.body ⟨(ds.map fun d => some (.val d)) ++ List.replicate (fn.ns - fn.np) none, h⟩).bind fun f s => match f with
          | .next => .ok (.val .non) ⟨[], s.h⟩
          | .ret v => .ok v ⟨[], s.h⟩
          | .brk => .stuck
      else .stuck
end KW
/-! KwRel: how the small language's state lies in the abstract heap of the hand layer. -/
namespace KW
open PySem (Str Addr Value Program World)
open L2 (V Hp HO upd upd_same upd_ne upd_upd SqL SqT Rd RelV Mut)

abbrev Fr := PySem.W.Frag
def mst (t : T) : Str := ⟨t.toArray⟩
def mkey : Key → L2.Key
  | .inl i => .inl i
  | .inr t => .inr (mst t)
theorem mst_inj {a b : T} (h : mst a = mst b) : a = b := by
  unfold mst at h
  injection h with h
  exact List.toArray_inj h
theorem mst_iff {a b : T} : mst a = mst b ↔ a = b := ⟨mst_inj, fun h => by rw [h]⟩
theorem mkey_inj {a b : Key} (h : mkey a = mkey b) : a = b := by
  cases a with
  | inl i => cases b with
    | inl j => unfold mkey at h; injection h with h; rw [h]
    | inr t => cases h
  | inr t => cases b with
    | inl j => cases h
    | inr u => unfold mkey at h; injection h with h; rw [mst_inj h]
theorem mkey_iff {a b : Key} : mkey a = mkey b ↔ a = b := ⟨mkey_inj, fun h => by rw [h]⟩
theorem kV_mkey (k : Key) : L2.kV (mkey k) = match k with
  | .inl i => V.int i
  | .inr t => V.str (mst t) := by cases k <;> rfl
def sst (s : String) : Str := Str.ofString s
theorem toNat_inj {a b : Char} (h : a.toNat = b.toNat) : a = b := by
  have h2 : Char.ofNat a.toNat = Char.ofNat b.toNat := by rw [h]
  simpa using h2
theorem map_inj {α β : Type} {f : α → β} (hf : ∀ a b, f a = f b → a = b) : ∀ {l m : List α}, l.map f = m.map f → l = m
  | [], [], _ => rfl
  | [], _ :: _, h => by simp at h
  | _ :: _, [], h => by simp at h
  | a :: l, b :: m, h => by
    simp only [List.map_cons, List.cons.injEq] at h
    rw [hf a b h.1, map_inj hf h.2]
theorem sst_inj {a b : String} (h : sst a = sst b) : a = b := by
  unfold sst at h
  rw [Str.ofString_eq_toList, Str.ofString_eq_toList] at h
  injection h with h
  have h2 := List.toArray_inj h
  have h3 : a.toList = b.toList := map_inj (fun _ _ => toNat_inj) h2
  rw [← String.ofList_toList (s := a), ← String.ofList_toList (s := b), h3]
theorem sst_iff {a b : String} : sst a = sst b ↔ a = b := ⟨sst_inj, fun h => by rw [h]⟩

/-- whose an object is -/
inductive Lb where
  | cell (i : Nat) | pl (p : Pl) | tmp | oth
  deriving DecidableEq
structure MM where
  loc : Nat → Addr
  who : Addr → Option Lb
  lk : Option Addr
/-- what somebody has: it may be changed; while a walk locks it, it is only read -/
def Mx (lk : Option Addr) (a : Addr) (o : Option HO) : Prop := Mut o ∨ (lk = some a ∧ ∃ ob u, o = some (.frz ob u) ∧ Mut (some u))
theorem Mx.no {lk : Option Addr} {a : Addr} (h : Mx lk a none) : False := by
  rcases h with h | ⟨_, ob, u, h, _⟩
  · exact h
  · cases h
theorem Mx.off {a : Addr} {o : Option HO} (h : Mx none a o) : Mut o := by
  rcases h with h | ⟨h, _⟩
  · exact h
  · cases h
theorem Mx.tup {lk : Option Addr} {a : Addr} {vs : List V} (h : Mx lk a (some (.tup vs))) : False := by
  rcases h with h | ⟨_, ob, u, h, _⟩
  · exact h
  · cases h
theorem Mx.ftup {lk : Option Addr} {a : Addr} {ob : PySem.Obj} {vs : List V} (h : Mx lk a (some (.frz ob (.tup vs)))) : False := by
  rcases h with h | ⟨_, ob, u, h, m⟩
  · exact h
  · cases h; exact m
/-- a class's address -/
abbrev cA (K : Fr) (c : String) : Addr := He.ga K (sst c)
def okT (t : T) : Prop := t.length ≤ sizeLine ∧ ∀ c ∈ t, c < 1114112
def okK : Key → Prop
  | .inl _ => True
  | .inr t => okT t
/-- the keys of a dict -/
structure KOk (ks : List Key) : Prop where
  nd : ks.Nodup
  ok : ∀ k ∈ ks, okK k
theorem KOk.nil : KOk [] := ⟨.nil, fun _ h => by cases h⟩

section
variable (K : Fr) (n : Nat) (M : MM) (H : Hp)
mutual
/-- a value that is handed on -/
inductive RD : D → V → Prop where
  | non : RD .non .non
  | bl (b : Bool) : RD (.bl b) (.bl b)
  | int (i : Int) : RD (.int i) (.int i)
  | str (t : T) : okT t → RD (.str t) (.str (mst t))
  | tup {a : Addr} {vs : List V} {xs : List D} : SqT K H a vs → RDs xs vs → RD (.tup xs) (.ref a)
  | lst {a : Addr} {vs : List V} {xs : List D} : Rd H a (.lst vs) → M.who a = none → RDs xs vs → RD (.lst xs) (.ref a)
  | dct {a : Addr} {kvs : List (Key × D)} {ks : List L2.Key} {vs : List V} : Rd H a (.dK (ks.zip vs)) → M.who a = none → ks = kvs.map (fun q => mkey q.1) → KOk (kvs.map (·.1)) → RDs (kvs.map (·.2)) vs → RD (.dct kvs) (.ref a)
  | ref {i : Nat} : i < n → RD (.ref i) (.ref (M.loc i))
inductive RDs : List D → List V → Prop where
  | nil : RDs [] []
  | cons {d : D} {v : V} {ds : List D} {vs : List V} : RD d v → RDs ds vs → RDs (d :: ds) (v :: vs)
end
/-- what may be changed stands at a -/
inductive RC : Cont → Addr → Prop where
  | lst {a : Addr} {vs : List V} {xs : List D} : H a = some (.lst vs) → RDs K n M H xs vs → RC (.lst xs) a
  | dct {a : Addr} {kvs : List (Key × D)} {ks : List L2.Key} {vs : List V} : Rd H a (.dK (ks.zip vs)) → ks = kvs.map (fun q => mkey q.1) → KOk (kvs.map (·.1)) → RDs K n M H (kvs.map (·.2)) vs → RC (.dct kvs) a
/-- what a place holds -/
inductive RS (p : Pl) : SV → V → Prop where
  | val {d : D} {v : V} : RD K n M H d v → RS p (.val d) v
  | own {c : Cont} {a : Addr} : M.who a = some (.pl p) → RC K n M H c a → RS p (.own c) (.ref a)
inductive RFs (i : Nat) : List (String × SV) → List (Str × V) → Prop where
  | nil : RFs i [] []
  | cons {f : String} {sv : SV} {v : V} {fs : List (String × SV)} {gs : List (Str × V)} : RS K n M H (.fld i f) sv v → RFs i fs gs → RFs i ((f, sv) :: fs) ((sst f, v) :: gs)
inductive REs (i : Nat) : List (Key × SV) → List (L2.Key × V) → Prop where
  | nil : REs i [] []
  | cons {k : Key} {sv : SV} {v : V} {fs : List (Key × SV)} {gs : List (L2.Key × V)} : RS K n M H (.ent i k) sv v → REs i fs gs → REs i ((k, sv) :: fs) ((mkey k, v) :: gs)
inductive RCell (i : Nat) : Cell → Prop where
  | ins {c : String} {fs : List (String × SV)} {gs : List (Str × V)} {dx : Addr} : H (M.loc i) = some (.ins (cA K c) dx gs) → (fs.map (·.1)).Nodup → RFs K n M H i fs gs → RCell i (.ins c fs)
  | lst {xs : List D} {vs : List V} : H (M.loc i) = some (.lst vs) → RDs K n M H xs vs → RCell i (.lst xs)
  | dct {kvs : List (Key × SV)} {gs : List (L2.Key × V)} : Rd H (M.loc i) (.dK gs) → KOk (kvs.map (·.1)) → REs K n M H i kvs gs → RCell i (.dct kvs)
end
/-- the heap -/
structure RH (K : Fr) (M : MM) (H : Hp) (h : List Cell) : Prop where
  wf : ∀ a l, M.who a = some l → Mx M.lk a (H a)
  lb : ∀ i, i < h.length → M.who (M.loc i) = some (.cell i)
  uq : ∀ a b l, l ≠ .tmp → l ≠ .oth → M.who a = some l → M.who b = some l → a = b
  cell : ∀ i c, h[i]? = some c → RCell K h.length M H i c
/-- a state: the slots, the heap -/
structure RT (K : Fr) (M : MM) (H : Hp) (σ : L2.St) (s : S) : Prop where
  hp : RH K M H s.h
  len : s.σ.length = σ.length
  sl : ∀ j sv, s.σ[j]? = some (some sv) → ∃ v, σ[j]? = some (some v) ∧ RS K s.h.length M H (.slot j) sv v

/-- a frame's own -/
def isLoc : Option Lb → Bool
  | some (.pl (.slot _)) => true
  | some .tmp => true
  | _ => false
/-- what stands for good -/
def prot (l : Option Lb) : Prop := l = none ∨ l = some .tmp ∨ l = some .oth
structure Ext (n : Nat) (M : MM) (H : Hp) (n' : Nat) (M' : MM) (H' : Hp) : Prop where
  keep : ∀ a o, H a = some o → prot (M.who a) → H' a = some o ∧ M'.who a = M.who a
  dom : ∀ a, H' a = none → H a = none
  loc : ∀ i, i < n → M'.loc i = M.loc i
  le : n ≤ n'
  nl : ∀ a, isLoc (M'.who a) = true → isLoc (M.who a) = true ∨ H a = none
  lk : M'.lk = M.lk
/-- nothing was changed -/
structure Grow (M : MM) (H : Hp) (M' : MM) (H' : Hp) : Prop where
  keep : ∀ a o, H a = some o → H' a = some o ∧ M'.who a = M.who a
  loc : M'.loc = M.loc
  lk : M'.lk = M.lk

section
variable {K : Fr} {n n' n'' : Nat} {M M' M'' : MM} {H H' H'' : Hp}
theorem Ext.refl : Ext n M H n M H := ⟨fun _ _ h _ => ⟨h, rfl⟩, fun _ h => h, fun _ _ => rfl, Nat.le_refl _, fun _ h => .inl h, rfl⟩
theorem Ext.trans (a : Ext n M H n' M' H') (b : Ext n' M' H' n'' M'' H'') : Ext n M H n'' M'' H'' where
  keep := fun c o h p => by
    obtain ⟨h1, e1⟩ := a.keep c o h p
    obtain ⟨h2, e2⟩ := b.keep c o h1 (by rw [e1]; exact p)
    exact ⟨h2, e2.trans e1⟩
  dom := fun c h => a.dom c (b.dom c h)
  loc := fun i hi => (b.loc i (Nat.lt_of_lt_of_le hi a.le)).trans (a.loc i hi)
  le := Nat.le_trans a.le b.le
  nl := fun c h => (b.nl c h).elim (a.nl c) fun z => .inr (a.dom c z)
  lk := b.lk.trans a.lk
theorem Grow.refl : Grow M H M H := ⟨fun _ _ h => ⟨h, rfl⟩, rfl, rfl⟩
theorem Grow.trans (a : Grow M H M' H') (b : Grow M' H' M'' H'') : Grow M H M'' H'' where
  keep := fun c o h => by
    obtain ⟨h1, e1⟩ := a.keep c o h
    obtain ⟨h2, e2⟩ := b.keep c o h1
    exact ⟨h2, e2.trans e1⟩
  loc := b.loc.trans a.loc
  lk := b.lk.trans a.lk
theorem Grow.ext (g : Grow M H M' H') : Ext n M H n M' H' where
  keep := fun a o h _ => g.keep a o h
  dom := fun a h => by
    cases e : H a with
    | none => rfl
    | some o => rw [(g.keep a o e).1] at h; cases h
  loc := fun i _ => by rw [g.loc]
  le := Nat.le_refl _
  nl := fun a h => by
    cases e : H a with
    | none => exact .inr rfl
    | some o => rw [(g.keep a o e).2] at h; exact .inl h
  lk := g.lk

theorem RD.len_eq : ∀ {xs : List D} {vs : List V}, RDs K n M H xs vs → xs.length = vs.length
  | _, _, .nil => rfl
  | _, _, .cons _ t => by rw [List.length_cons, List.length_cons, RD.len_eq t]
theorem sqt_keep (k : ∀ a o, H a = some o → M.who a = none → H' a = some o) (wf : ∀ a l, M.who a = some l → Mx M.lk a (H a)) {a : Addr} {vs : List V} (h : SqT K H a vs) : SqT K H' a vs := by
  have no : ∀ b o, H b = some o → ¬ Mx M.lk b (some o) → M.who b = none := fun b o q nm => by
    cases e : M.who b with
    | none => rfl
    | some l => exact absurd (by have := wf b l e; rw [q] at this; exact this) nm
  rcases h with (h | ⟨o, h⟩) | h
  · exact .inl (.inl (k _ _ h (no _ _ h Mx.tup)))
  · exact .inl (.inr ⟨o, k _ _ h (no _ _ h Mx.ftup)⟩)
  · exact .inr h
/-- what is kept for good: nobody's objects -/
structure Keep (n : Nat) (M : MM) (H : Hp) (n' : Nat) (M' : MM) (H' : Hp) : Prop where
  wf : ∀ a l, M.who a = some l → Mx M.lk a (H a)
  k : ∀ a o, H a = some o → M.who a = none → H' a = some o ∧ M'.who a = none
  loc : ∀ i, i < n → M'.loc i = M.loc i
  le : n ≤ n'
theorem Keep.rd (e : Keep n M H n' M' H') {a : Addr} {u : HO} (h : Rd H a u) (hw : M.who a = none) : Rd H' a u ∧ M'.who a = none := by
  rcases h with h | ⟨o, h⟩
  · exact ⟨.inl (e.k _ _ h hw).1, (e.k _ _ h hw).2⟩
  · exact ⟨.inr ⟨o, (e.k _ _ h hw).1⟩, (e.k _ _ h hw).2⟩
theorem rd_eq {a : Addr} {u : HO} (h : Rd H a u) (e : H' a = H a) : Rd H' a u := by
  unfold Rd at h ⊢
  rw [e]; exact h
theorem Ext.kept (e : Ext n M H n' M' H') (wf : ∀ a l, M.who a = some l → Mx M.lk a (H a)) : Keep n M H n' M' H' := ⟨wf, fun a o h q => by
    obtain ⟨h1, h2⟩ := e.keep a o h (.inl q)
    exact ⟨h1, h2.trans q⟩, e.loc, e.le⟩
mutual
theorem RD.mono (e : Keep n M H n' M' H') : ∀ {d : D} {v : V}, RD K n M H d v → RD K n' M' H' d v
  | _, _, .non => .non
  | _, _, .bl b => .bl b
  | _, _, .int i => .int i
  | _, _, .str t h => .str t h
  | _, _, .tup h hs => .tup (sqt_keep (fun a o q z => (e.k a o q z).1) e.wf h) (RDs.mono e hs)
  | _, _, .lst h hw hs => .lst (e.rd h hw).1 (e.rd h hw).2 (RDs.mono e hs)
  | _, _, .dct h hw hk hn hs => .dct (e.rd h hw).1 (e.rd h hw).2 hk hn (RDs.mono e hs)
  | _, _, .ref (i := i) h => by
    rw [← e.loc i h]
    exact .ref (Nat.lt_of_lt_of_le h e.le)
theorem RDs.mono (e : Keep n M H n' M' H') : ∀ {d : List D} {v : List V}, RDs K n M H d v → RDs K n' M' H' d v
  | _, _, .nil => .nil
  | _, _, .cons a b => .cons (RD.mono e a) (RDs.mono e b)
end
theorem RDs.get : ∀ {xs : List D} {vs : List V} {i : Nat} {d : D}, RDs K n M H xs vs → xs[i]? = some d → ∃ v, vs[i]? = some v ∧ RD K n M H d v
  | _, _, 0, _, .cons a _, h => by simp at h; subst h; exact ⟨_, rfl, a⟩
  | _, _, i + 1, _, .cons _ b, h => by
    obtain ⟨v, h1, h2⟩ := RDs.get (i := i) b (by simpa using h)
    exact ⟨v, by simpa using h1, h2⟩
theorem RDs.app : ∀ {xs ys : List D} {vs us : List V}, RDs K n M H xs vs → RDs K n M H ys us → RDs K n M H (xs ++ ys) (vs ++ us)
  | _, _, _, _, .nil, h => h
  | _, _, _, _, .cons a b, h => .cons a (RDs.app b h)
theorem RDs.drop : ∀ {xs : List D} {vs : List V} (k : Nat), RDs K n M H xs vs → RDs K n M H (xs.drop k) (vs.drop k)
  | _, _, 0, h => h
  | _, _, _ + 1, .nil => .nil
  | _, _, k + 1, .cons _ b => RDs.drop k b
theorem RDs.take : ∀ {xs : List D} {vs : List V} (k : Nat), RDs K n M H xs vs → RDs K n M H (xs.take k) (vs.take k)
  | _, _, 0, _ => .nil
  | _, _, _ + 1, .nil => .nil
  | _, _, k + 1, .cons a b => .cons a (RDs.take k b)
theorem RDs.rev {xs : List D} {vs : List V} (h : RDs K n M H xs vs) : RDs K n M H xs.reverse vs.reverse := by
  induction xs generalizing vs with
  | nil => cases h; exact .nil
  | cons x r ih =>
    cases h with
    | cons a b => simpa using (ih b).app (.cons a .nil)
theorem RDs.erase : ∀ {xs : List D} {vs : List V} (k : Nat), RDs K n M H xs vs → RDs K n M H (xs.eraseIdx k) (vs.eraseIdx k)
  | _, _, _, .nil => .nil
  | _, _, 0, .cons _ b => b
  | _, _, k + 1, .cons a b => .cons a (RDs.erase k b)
theorem RDs.of_mem : ∀ {xs : List D} {vs : List V}, RDs K n M H xs vs → ∀ d ∈ xs, ∃ v ∈ vs, RD K n M H d v
  | _, _, .nil, _, h => by cases h
  | _, _, .cons a b, d, h => by
    rcases List.mem_cons.mp h with rfl | h
    · exact ⟨_, List.mem_cons_self, a⟩
    · obtain ⟨v, hv, r⟩ := RDs.of_mem b d h
      exact ⟨v, List.mem_cons_of_mem _ hv, r⟩

theorem RC.mono (e : Keep n M H n' M' H') {c : Cont} {a : Addr} (ha : H' a = H a) (h : RC K n M H c a) : RC K n' M' H' c a := by
  cases h with
  | lst h hs => exact .lst (ha.trans h) (RDs.mono e hs)
  | dct h hk hn hs => exact .dct (rd_eq h ha) hk hn (RDs.mono e hs)
theorem RS.mono (e : Keep n M H n' M' H') {p : Pl} {sv : SV} {v : V} (hp : ∀ a, M.who a = some (.pl p) → M'.who a = some (.pl p) ∧ H' a = H a) (h : RS K n M H p sv v) : RS K n' M' H' p sv v := by
  cases h with
  | val h => exact .val (h.mono e)
  | own h hc => exact .own (hp _ h).1 (hc.mono e (hp _ h).2)
theorem RFs.mono (e : Keep n M H n' M' H') {i : Nat} : ∀ {fs : List (String × SV)} {gs : List (Str × V)}, (∀ f ∈ fs.map (·.1), ∀ a, M.who a = some (.pl (.fld i f)) → M'.who a = some (.pl (.fld i f)) ∧ H' a = H a) → RFs K n M H i fs gs → RFs K n' M' H' i fs gs
  | _, _, _, .nil => .nil
  | _, _, hp, .cons a b => .cons (a.mono e (hp _ (by simp))) (RFs.mono e (fun f hf => hp f (by simp at hf ⊢; exact .inr hf)) b)
theorem REs.mono (e : Keep n M H n' M' H') {i : Nat} : ∀ {fs : List (Key × SV)} {gs : List (L2.Key × V)}, (∀ k ∈ fs.map (·.1), ∀ a, M.who a = some (.pl (.ent i k)) → M'.who a = some (.pl (.ent i k)) ∧ H' a = H a) → REs K n M H i fs gs → REs K n' M' H' i fs gs
  | _, _, _, .nil => .nil
  | _, _, hp, .cons a b => .cons (a.mono e (hp _ (by simp))) (REs.mono e (fun f hf => hp f (by simp only [List.map_cons, List.mem_cons]; exact .inr hf)) b)
theorem RCell.mono (e : Keep n M H n' M' H') {i : Nat} (hi : i < n) (hc : H' (M.loc i) = H (M.loc i)) {c : Cell} (hp : ∀ p, (∃ f, p = .fld i f) ∨ (∃ k, p = .ent i k) → ∀ a, M.who a = some (.pl p) → M'.who a = some (.pl p) ∧ H' a = H a) (h : RCell K n M H i c) : RCell K n' M' H' i c := by
  have el := e.loc i hi
  cases h with
  | ins h hn hf => exact .ins (by rw [el, hc]; exact h) hn (RFs.mono e (fun f _ => hp _ (.inl ⟨f, rfl⟩)) hf)
  | lst h hs => exact .lst (by rw [el, hc]; exact h) (RDs.mono e hs)
  | dct h hn hf => exact .dct (by rw [el]; exact rd_eq h hc) hn (REs.mono e (fun k _ => hp _ (.inr ⟨k, rfl⟩)) hf)

/-- a value behind an expression -/
inductive RR (K : Fr) (n : Nat) (M : MM) (H : Hp) : RV → V → Prop where
  | val {d : D} {v : V} : RD K n M H d v → RR K n M H (.val d) v
  | own {c : Cont} {a : Addr} : M.who a = some .tmp → RC K n M H c a → RR K n M H (.own c) (.ref a)
  | pk {c : Cont} {a : Addr} {p : Pl} : M.who a = some (.pl p) → RC K n M H c a → RR K n M H (.pk p c) (.ref a)
/-- a new thing is new -/
def Fresh (H : Hp) (x : RV) (v : V) : Prop := ∀ c, x = .own c → ∀ a, v = .ref a → H a = none
theorem RR.mono {x : RV} {v : V} (wf : ∀ a l, M.who a = some l → Mx M.lk a (H a)) (e : Ext n M H n' M' H') (hx : isPk x = false) (h : RR K n M H x v) : RR K n' M' H' x v := by
  cases h with
  | val h => exact .val (h.mono (e.kept wf))
  | @own c a hw hc =>
    have hm := wf _ _ hw
    cases q : H a with
    | none => rw [q] at hm; exact hm.no.elim
    | some o =>
      obtain ⟨h1, h2⟩ := e.keep _ _ q (by rw [hw]; exact .inr (.inl rfl))
      exact .own (h2.trans hw) (hc.mono (e.kept wf) (h1.trans q.symm))
  | pk _ _ => cases hx
theorem RR.grow {x : RV} {v : V} (wf : ∀ a l, M.who a = some l → Mx M.lk a (H a)) (e : Grow M H M' H') (h : RR K n M H x v) : RR K n M' H' x v := by
  have go : ∀ a l, M.who a = some l → H' a = H a ∧ M'.who a = some l := fun a l hw => by
    have hm := wf _ _ hw
    cases q : H a with
    | none => rw [q] at hm; exact hm.no.elim
    | some o =>
      obtain ⟨h1, h2⟩ := e.keep _ _ q
      exact ⟨h1, h2.trans hw⟩
  cases h with
  | val h => exact .val (h.mono (e.ext.kept wf))
  | own hw hc => exact .own (go _ _ hw).2 (hc.mono (e.ext.kept wf) (go _ _ hw).1)
  | pk hw hc => exact .pk (go _ _ hw).2 (hc.mono (e.ext.kept wf) (go _ _ hw).1)

/-- only additions: the state stands -/
theorem RH.grow {h : List Cell} (r : RH K M H h) (g : Grow M H M' H') (wf : ∀ a l, M'.who a = some l → Mx M'.lk a (H' a)) (uq : ∀ a b l, l ≠ .tmp → l ≠ .oth → M'.who a = some l → M'.who b = some l → a = b) : RH K M' H' h := by
  have go : ∀ a l, M.who a = some l → H' a = H a ∧ M'.who a = some l := fun a l hw => by
    have hm := r.wf _ _ hw
    cases q : H a with
    | none => rw [q] at hm; exact hm.no.elim
    | some o =>
      obtain ⟨h1, h2⟩ := g.keep _ _ q
      exact ⟨h1, h2.trans hw⟩
  refine ⟨wf, fun i hi => ?_, uq, fun i c hc => ?_⟩
  · rw [g.loc]; exact (go _ _ (r.lb i hi)).2
  · have hi : i < h.length := (List.getElem?_eq_some_iff.mp hc).1
    exact (r.cell i c hc).mono (g.ext.kept r.wf) hi (go _ _ (r.lb i hi)).1 fun p _ a ha => ⟨(go _ _ ha).2, (go _ _ ha).1⟩
theorem RT.grow {σ : L2.St} {s : S} (r : RT K M H σ s) (g : Grow M H M' H') (wf : ∀ a l, M'.who a = some l → Mx M'.lk a (H' a)) (uq : ∀ a b l, l ≠ .tmp → l ≠ .oth → M'.who a = some l → M'.who b = some l → a = b) : RT K M' H' σ s := by
  refine ⟨r.hp.grow g wf uq, r.len, fun j sv e => ?_⟩
  obtain ⟨v, h1, h2⟩ := r.sl j sv e
  refine ⟨v, h1, h2.mono (g.ext.kept r.hp.wf) fun a ha => ?_⟩
  have hm := r.hp.wf _ _ ha
  cases q : H a with
  | none => rw [q] at hm; exact hm.no.elim
  | some o =>
    obtain ⟨h1, h2⟩ := g.keep _ _ q
    exact ⟨h2.trans ha, h1⟩
/-- a label is set -/
def MM.set (M : MM) (a : Addr) (l : Option Lb) : MM := { M with who := fun b => if b = a then l else M.who b }
theorem MM.set_same {a : Addr} {l : Option Lb} : (M.set a l).who a = l := by simp [MM.set]
theorem MM.set_ne {a b : Addr} {l : Option Lb} (h : b ≠ a) : (M.set a l).who b = M.who b := by simp [MM.set, h]
theorem nl_set {a : Addr} (e : ∀ b, isLoc (M'.who b) = true → isLoc (M.who b) = true ∨ H b = none) : ∀ b, isLoc ((M'.set a none).who b) = true → isLoc (M.who b) = true ∨ H b = none := fun b h => by
  by_cases z : b = a
  · subst z; rw [MM.set_same] at h; cases h
  · rw [MM.set_ne z] at h; exact e b h
theorem RH.nobody {h : List Cell} (r : RH K M H h) {a : Addr} (ha : H a = none) : M.who a = none := by
  cases e : M.who a with
  | none => rfl
  | some l => have := r.wf a l e; rw [ha] at this; exact this.no.elim
/-- a new object that nobody changes -/
theorem RT.new {σ : L2.St} {s : S} (r : RT K M H σ s) {p : Addr} {o : HO} (hp : H p = none) : RT K M (upd H p o) σ s ∧ Grow M H M (upd H p o) := by
  have g : Grow M H M (upd H p o) := ⟨fun a o' e => ⟨by rw [upd_ne (L2.ne_of_none e hp)]; exact e, rfl⟩, rfl, rfl⟩
  refine ⟨r.grow g (fun a l e => ?_) r.hp.uq, g⟩
  have hm := r.hp.wf a l e
  rw [upd_ne (fun z => by rw [z, hp] at hm; exact hm.no)]
  exact hm
/-- a new object that may be changed -/
theorem RT.tmp {σ : L2.St} {s : S} (r : RT K M H σ s) {p : Addr} {o : HO} (hp : H p = none) (mu : Mut (some o)) : RT K (M.set p (some .tmp)) (upd H p o) σ s ∧ Grow M H (M.set p (some .tmp)) (upd H p o) := by
  have g : Grow M H (M.set p (some .tmp)) (upd H p o) := ⟨fun a o' e => ⟨by rw [upd_ne (L2.ne_of_none e hp)]; exact e, MM.set_ne (L2.ne_of_none e hp)⟩, rfl, rfl⟩
  refine ⟨r.grow g (fun a l e => ?_) (fun a b l h1 h2 ea eb => ?_), g⟩
  · by_cases z : a = p
    · subst z; rw [upd_same]; exact .inl mu
    · rw [MM.set_ne z] at e
      rw [upd_ne z]
      exact r.hp.wf a l e
  · by_cases za : a = p
    · subst za; rw [MM.set_same] at ea; injection ea with ea; exact absurd ea.symm h1
    · by_cases zb : b = p
      · subst zb; rw [MM.set_same] at eb; injection eb with eb; exact absurd eb.symm h1
      · rw [MM.set_ne za] at ea
        rw [MM.set_ne zb] at eb
        exact r.hp.uq a b l h1 h2 ea eb
end
end KW
/-! KwOut: what is wanted of a run of the small language, as a reading of the hand layer. -/
namespace KW
open PySem (Str Addr Value Program World)
open L2 (V Hp HO upd upd_same upd_ne upd_upd SqL SqT Rd RelV Mut TE TT TA TS WX PE PT PA PS PSs Cx Inv)

inductive RXs (K : Fr) (n : Nat) (M : MM) (H : Hp) : List (String × D) → List (Str × V) → Prop where
  | nil : RXs K n M H [] []
  | cons {f : String} {d : D} {v : V} {fs : List (String × D)} {gs : List (Str × V)} : RD K n M H d v → RXs K n M H fs gs → RXs K n M H ((f, d) :: fs) ((sst f, v) :: gs)
/-- an exception: its class, its own dict -/
def RX (K : Fr) (n : Nat) (M : MM) (H : Hp) (x : Exc) (cls : Value) (d : Option Addr) : Prop :=
  cls = .ref (cA K x.cls) ∧ (x.fs = [] ∨ ∃ a gs, d = some a ∧ H a = some (.xd gs) ∧ RXs K n M H x.fs gs)

/-- what a run ends in -/
def OutR {α β : Type} (K : Fr) (W : WX) (rel : Hp → MM → Hp → S → α → β → Prop) (M : MM) (H : Hp) (σ : L2.St) (s : S) (pu : Bool) (r : R α) (Q : β → Hp → Prop) : Prop :=
  (M.lk ≠ none → pu = true) ∧ match r with
  | .ok x s' => ∀ M' H' v, Ext s.h.length M H s'.h.length M' H' → (pu = true → s' = s ∧ Grow M H M' H') → RT K M' H' σ s' → rel H M' H' s' x v → Q v H'
  | .raise x s' => ∀ M' H' cls d, Ext s.h.length M H s'.h.length M' H' → RT K M' H' σ s' → RX K s'.h.length M' H' x cls d → W cls d σ H'
  | .stuck => False
def Anti {α β : Type} (rel : Hp → MM → Hp → S → α → β → Prop) : Prop := ∀ H H1 M' H' s' x v, (∀ a, H1 a = none → H a = none) → rel H1 M' H' s' x v → rel H M' H' s' x v
section
variable {K : Fr} {W : WX} {M M1 : MM} {H H1 : Hp} {σ : L2.St} {s s1 : S}
/-- behind a first part -/
theorem OutR.later {α β : Type} {rel : Hp → MM → Hp → S → α → β → Prop} {pu pu1 : Bool} {r : R α} {Q : β → Hp → Prop} (an : Anti rel) (h : OutR K W rel M H σ s pu r Q) (e : Ext s.h.length M H s1.h.length M1 H1) (hp : pu = true → s1 = s ∧ Grow M H M1 H1) (hpp : pu = true → pu1 = true) : OutR K W rel M1 H1 σ s1 pu1 r Q := by
  refine ⟨fun z => hpp (h.1 (by rw [← e.lk]; exact z)), ?_⟩
  have h := h.2
  cases r with
  | ok x s' => exact fun M' H' v e' p' rt rl => h M' H' v (e.trans e') (fun z => by
      obtain ⟨a, b⟩ := hp z
      obtain ⟨c, d⟩ := p' (hpp z)
      exact ⟨c.trans a, b.trans d⟩) rt (an _ _ _ _ _ _ _ e.dom rl)
  | raise x s' => exact fun M' H' c d e' rt rx => h M' H' c d (e.trans e') rt rx
  | stuck => exact h
/-- a first part, then the rest -/
theorem OutR.bind {α β γ δ : Type} {rel : Hp → MM → Hp → S → α → β → Prop} {rel1 : Hp → MM → Hp → S → γ → δ → Prop} {pu pu1 : Bool} {r : R γ} {f : γ → S → R α} {Q : β → Hp → Prop} {Q1 : δ → Hp → Prop}
    (an : Anti rel) (h : OutR K W rel M H σ s pu (r.bind f) Q) (hpp : pu = true → pu1 = true)
    (k : ∀ x s' M' H' v, r = .ok x s' → Ext s.h.length M H s'.h.length M' H' → (pu1 = true → s' = s ∧ Grow M H M' H') → RT K M' H' σ s' → rel1 H M' H' s' x v → (∀ pu2 : Bool, (pu = true → pu2 = true) → OutR K W rel M' H' σ s' pu2 (f x s') Q) → Q1 v H') : OutR K W rel1 M H σ s pu1 r Q1 := by
  refine ⟨fun z => hpp (h.1 z), ?_⟩
  cases r with
  | ok x s' =>
    rw [bind_ok] at h
    exact fun M' H' v e p rt rl => k x s' M' H' v rfl e p rt rl fun pu2 hp2 => h.later an e (fun z => p (hpp z)) hp2
  | raise x s' => exact h.2
  | stuck => exact h.2
end

/-- a value -/
def relE (K : Fr) : Hp → MM → Hp → S → RV → V → Prop := fun H M' H' s' x v => RR K s'.h.length M' H' x v ∧ Fresh H x v
/-- handed on -/
def relD (K : Fr) : Hp → MM → Hp → S → D → V → Prop := fun _ M' H' s' x v => RD K s'.h.length M' H' x v
def relEs (K : Fr) : Hp → MM → Hp → S → List D → List V → Prop := fun _ M' H' s' x v => RDs K s'.h.length M' H' x v
def relB : Hp → MM → Hp → S → Bool → Bool → Prop := fun _ _ _ _ x v => x = v
theorem anti_relE {K : Fr} : Anti (relE K) := fun _ _ _ _ _ _ _ h r => ⟨r.1, fun c e a z => h a (r.2 c e a z)⟩
theorem anti_relD {K : Fr} : Anti (relD K) := fun _ _ _ _ _ _ _ _ r => r
theorem anti_relEs {K : Fr} : Anti (relEs K) := fun _ _ _ _ _ _ _ _ r => r
theorem anti_relB : Anti relB := fun _ _ _ _ _ _ _ _ r => r

section
variable (K : Fr) (W : WX) (C : CallF)
def tE (e : E) : TE := fun σ H Q => ∃ M s, RT K M H σ s ∧ OutR K W (relE K) M H σ s (pure e) (evalE C e s) Q
def tD (e : E) : TE := fun σ H Q => ∃ M s, RT K M H σ s ∧ OutR K W (relD K) M H σ s (pure e) (exports (evalE C e s)) Q
def tEs (es : List E) : TA := fun σ H Q => ∃ M s, RT K M H σ s ∧ OutR K W (relEs K) M H σ s (pures es) (evalEs C es s) Q
def tT (e : E) : TT := fun σ H Q => ∃ M s, RT K M H σ s ∧ OutR K W relB M H σ s (pure e) (isTruth (evalE C e s)) Q
end
/-- a two-place operation -/
def Ok2 (K : Fr) (o : Op2) (r : L2.R2) : Prop := ∀ (M : MM) (H : Hp) (σ : L2.St) (s : S) (x y : RV) (vx vy : V) (z : RV) (Q : L2.VK), RT K M H σ s → RR K s.h.length M H x vx → RR K s.h.length M H y vy → run2 s.h o x y = some z →
  (∀ M' H' v, Grow M H M' H' → RT K M' H' σ s → RR K s.h.length M' H' z v → Fresh H z v → Q v H') → r vx vy H Q
def Ok1 (K : Fr) (o : Op1) (r : V → Hp → L2.VK → Prop) : Prop := ∀ (M : MM) (H : Hp) (σ : L2.St) (s : S) (x : RV) (vx : V) (z : RV) (Q : L2.VK), RT K M H σ s → RR K s.h.length M H x vx → run1 s.h o x = some z →
  (∀ M' H' v, Grow M H M' H' → RT K M' H' σ s → RR K s.h.length M' H' z v → Fresh H z v → Q v H') → r vx H Q
def Ok3 (K : Fr) (o : Op3) (r : V → V → V → Hp → L2.VK → Prop) : Prop := ∀ (M : MM) (H : Hp) (σ : L2.St) (s : S) (x y u : RV) (vx vy vu : V) (z : RV) (Q : L2.VK), RT K M H σ s → RR K s.h.length M H x vx → RR K s.h.length M H y vy → RR K s.h.length M H u vu → run3 s.h o x y u = some z →
  (∀ M' H' v, Grow M H M' H' → RT K M' H' σ s → RR K s.h.length M' H' z v → Fresh H z v → Q v H') → r vx vy vu H Q

section
variable {K : Fr} {W : WX} {C : CallF} {a b c : E} {σ : L2.St} {H : Hp} {Q : L2.VK}
theorem fresh_grow {H H' : Hp} {x : RV} {v : V} (d : ∀ a, H' a = none → H a = none) (h : Fresh H' x v) : Fresh H x v := fun c e a z => d a (h c e a z)
/-- an operation on what stands -/
theorem OutR.op {M : MM} {s : S} {pu : Bool} {o : Option RV} (h : OutR K W (relE K) M H σ s pu (opt s o) Q) (rt : RT K M H σ s) :
    ∃ z, o = some z ∧ ∀ M' H' v, Grow M H M' H' → RT K M' H' σ s → RR K s.h.length M' H' z v → Fresh H z v → Q v H' := by
  cases o with
  | none => exact h.2.elim
  | some z => exact ⟨z, rfl, fun M' H' v g rt' rr fr => h.2 M' H' v g.ext (fun _ => ⟨rfl, g⟩) rt' ⟨rr, fr⟩⟩
theorem t_p1 {o : Op1} {r : V → Hp → L2.VK → Prop} (hr : Ok1 K o r) (h : tE K W C (.p1 o a) σ H Q) : L2.tUn r (tE K W C a) σ H Q := by
  obtain ⟨M, s, rt, h⟩ := h
  refine ⟨M, s, rt, ?_⟩
  simp only [evalE, pure] at h
  refine h.bind anti_relE (fun z => z) fun x s1 M1 H1 v hx e1 p1 rt1 rl1 h1 => ?_
  obtain ⟨z, ez, hz⟩ := (h1 _ fun z => z).op rt1
  exact hr M1 H1 σ s1 x v z Q rt1 rl1.1 ez hz
theorem t_p2 {o : Op2} {r : L2.R2} (hr : Ok2 K o r) (h : tE K W C (.p2 o a b) σ H Q) : L2.tOp r (tE K W C a) (tE K W C b) σ H Q := by
  obtain ⟨M, s, rt, h⟩ := h
  refine ⟨M, s, rt, ?_⟩
  simp only [evalE, pure] at h
  refine h.bind anti_relE (fun z => (Bool.and_eq_true_iff.mp z).1) fun x s1 M1 H1 v hx e1 p1 rt1 rl1 h1 => ?_
  have h1 := h1 (pure b) fun z => (Bool.and_eq_true_iff.mp z).2
  by_cases g0 : ((isPk x && !pure b) || !recv2 s1.h o x) = true
  · rw [if_pos g0] at h1; exact h1.2.elim
  rw [if_neg g0] at h1
  have g : ¬ (isPk x && !pure b) = true := fun z => g0 (Bool.or_eq_true_iff.mpr (.inl z))
  refine ⟨M1, s1, rt1, h1.bind anti_relE (fun z => z) fun y s2 M2 H2 u hy e2 p2 rt2 rl2 h2 => ?_⟩
  obtain ⟨z, ez, hz⟩ := (h2 _ fun z => z).op rt2
  have rx : RR K s2.h.length M2 H2 x v := by
    cases q : isPk x with
    | false => exact rl1.1.mono rt1.hp.wf e2 q
    | true =>
      have pb : pure b = true := by cases z : pure b with
        | true => rfl
        | false => exact absurd (by rw [q, z]; rfl) g
      obtain ⟨es, gr⟩ := p2 pb
      rw [es]
      exact rl1.1.grow rt1.hp.wf gr
  exact hr M2 H2 σ s2 x y v u z Q rt2 rx rl2.1 ez hz
end
end KW
/-! KwOps: the operations. -/
namespace KW
open PySem (Str Addr Value Program World Heap Operator CmpOp binaryOp compareOp)
open PySem.Spec PyProof.Rows
open L2 (V Hp HO upd upd_same upd_ne upd_upd SqL SqT Rd RelV Mut TE TT TA TS WX PE PT PA PS PSs Cx Inv OpR UnR CallR MtR IxR SlR TruR VK EP rI0)

theorem sizeLine_is : PySem.sizeLine = sizeLine := by decide
section
variable {K : Fr} {M : MM} {H : Hp} {σ : L2.St} {s : S} {n : Nat}
theorem ht_mut {a : Addr} {o : HO} (h : H a = some o) : Rd H a o := .inl h
/-- the list that a value is -/
theorem lst_at {x : RV} {v : V} {xs : List D} (rt : RT K M H σ s) (r : RR K s.h.length M H x v) (h : lstOf s.h x = some xs) : ∃ a vs, v = .ref a ∧ Rd H a (.lst vs) ∧ RDs K s.h.length M H xs vs := by
  cases r with
  | own hw hc => cases hc with
    | lst h1 h2 => simp [lstOf] at h; subst h; exact ⟨_, _, rfl, .inl h1, h2⟩
    | dct _ _ _ _ => simp [lstOf] at h
  | pk hw hc => cases hc with
    | lst h1 h2 => simp [lstOf] at h; subst h; exact ⟨_, _, rfl, .inl h1, h2⟩
    | dct _ _ _ _ => simp [lstOf] at h
  | val r => cases r with
    | lst h1 h2 h3 => simp [lstOf] at h; subst h; exact ⟨_, _, rfl, h1, h3⟩
    | @ref i hi =>
      simp only [lstOf] at h
      cases q : s.h[i]? with
      | none => rw [q] at h; cases h
      | some c =>
        rw [q] at h
        have rc := rt.hp.cell i c q
        cases rc with
        | lst h1 h2 => simp at h; subst h; exact ⟨_, _, rfl, .inl h1, h2⟩
        | ins _ _ _ => cases h
        | dct _ _ _ => cases h
    | _ => simp [lstOf] at h
theorem tup_at {x : RV} {v : V} {xs : List D} (r : RR K n M H (.val (.tup xs)) v) : ∃ a vs, v = .ref a ∧ SqT K H a vs ∧ RDs K n M H xs vs := by
  cases r with
  | val r => cases r with
    | tup h1 h2 => exact ⟨_, _, rfl, h1, h2⟩
theorem seq_at {x : RV} {v : V} {xs : List D} (rt : RT K M H σ s) (r : RR K s.h.length M H x v) (h : seqOf s.h x = some xs) : ∃ a vs, v = .ref a ∧ (SqL K H a vs ∨ SqT K H a vs) ∧ RDs K s.h.length M H xs vs := by
  unfold seqOf at h
  split at h
  · injection h with h; subst h
    obtain ⟨a, vs, e, h1, h2⟩ := tup_at (x := .val .non) r
    exact ⟨a, vs, e, .inr h1, h2⟩
  · obtain ⟨a, vs, e, h1, h2⟩ := lst_at rt r h
    exact ⟨a, vs, e, .inl (.inl h1), h2⟩
theorem int_at {i : Int} {v : V} (r : RR K n M H (.val (.int i)) v) : v = .int i := by
  cases r with
  | val r => cases r; rfl
theorem str_at {t : T} {v : V} (r : RR K n M H (.val (.str t)) v) : v = .str (mst t) ∧ okT t := by
  cases r with
  | val r => cases r with
    | str t h => exact ⟨rfl, h⟩
theorem bl_at {b : Bool} {v : V} (r : RR K n M H (.val (.bl b)) v) : v = .bl b := by
  cases r with
  | val r => cases r; rfl

theorem mst_len (t : T) : (mst t).length = t.length := by simp [mst, Str.length]
theorem mst_cps (t : T) : (mst t).cps.toList = t := by simp [mst]
theorem mst_app (a b : T) : mst a ++ mst b = mst (a ++ b) := by
  show (⟨(mst a).cps ++ (mst b).cps⟩ : Str) = _
  simp [mst]
theorem mst_eta (z : Str) : mst z.cps.toList = z := by simp [mst]
theorem okT_app {a b : T} (ha : okT a) (hb : okT b) (h : a.length + b.length ≤ sizeLine) : okT (a ++ b) :=
  ⟨by rw [List.length_append]; exact h, fun c hc => (List.mem_append.mp hc).elim (ha.2 c) (hb.2 c)⟩

/-- handing a new list on -/
theorem give_lst {xs : List D} {vs : List V} {Q : VK} (rt : RT K M H σ s) (rs : RDs K s.h.length M H xs vs)
    (hz : ∀ M' H' v, Grow M H M' H' → RT K M' H' σ s → RR K s.h.length M' H' (.own (.lst xs)) v → Fresh H (.own (.lst xs)) v → Q v H') : ∀ p, H p = none → Q (.ref p) (upd H p (.lst vs)) := fun p hp => by
  obtain ⟨rt', g⟩ := rt.tmp (o := .lst vs) hp trivial
  refine hz _ _ _ g rt' (.own MM.set_same (.lst upd_same (rs.mono (g.ext.kept rt.hp.wf)))) fun c e a z => ?_
  cases z
  exact hp
theorem give_tup {xs : List D} {vs : List V} {Q : VK} (rt : RT K M H σ s) (rs : RDs K s.h.length M H xs vs)
    (hz : ∀ M' H' v, Grow M H M' H' → RT K M' H' σ s → RR K s.h.length M' H' (.val (.tup xs)) v → Fresh H (.val (.tup xs)) v → Q v H') : ∀ p, H p = none → Q (.ref p) (upd H p (.tup vs)) := fun p hp => by
  obtain ⟨rt', g⟩ := rt.new (o := .tup vs) hp
  exact hz _ _ _ g rt' (.val (.tup (.inl (.inl upd_same)) (rs.mono (g.ext.kept rt.hp.wf)))) fun c e => by cases e
/-- handing a plain value on -/
theorem give {d : D} {v : V} {Q : VK} (rt : RT K M H σ s) (r : RD K s.h.length M H d v)
    (hz : ∀ M' H' v, Grow M H M' H' → RT K M' H' σ s → RR K s.h.length M' H' (.val d) v → Fresh H (.val d) v → Q v H') : Q v H :=
  hz M H v .refl rt (.val r) fun c e => by cases e
end

/-! ### + -/
def rCatS (K : Fr) : L2.R2 := fun x y H Q => ∃ l b xs zs, x = .ref l ∧ y = .ref b ∧ Rd H l (.lst xs) ∧ Rd H b (.lst zs) ∧ xs.length + zs.length ≤ PySem.sizeLine ∧ ∀ p, H p = none → Q (.ref p) (upd H p (.lst (xs ++ zs)))
theorem op_catS {X : Cx} : OpR X (binaryOp .Add) (rCatS X.K) := by
  intro pins s σ H x y v u Q I rx ry h
  obtain ⟨l, b, xs, zs, rfl, rfl, hH, hB, hz, q⟩ := h
  cases rx
  cases ry
  obtain ⟨z, its, n, r, e⟩ := hH.ok I.hok
  obtain ⟨z2, its2, n2, r2, e2⟩ := hB.ok I.hok
  have hl := r.length
  have hl2 := r2.length
  refine PySem.P.add_list e e2 ?_ (by rw [List.size_toArray, List.size_toArray]; omega)
  have ea : its.toArray ++ its2.toArray = (its ++ its2).toArray := by simp
  rw [ea]
  exact ⟨.ref _, _, I.lnew (t' := s.toks) (r.append r2) (by rw [List.length_append]; omega), rfl, q _ I.fresh⟩
def rAdd (K : Fr) : L2.R2 := fun x y H Q => (∃ i j, x = .int i ∧ y = .int j ∧ Q (.int (i + j)) H) ∨ ((∃ i j, x = .str i ∧ y = .str j ∧ i.length + j.length ≤ PySem.sizeLine ∧ Q (.str (i ++ j)) H) ∨ rCatS K x y H Q)
theorem op_add {X : Cx} : OpR X (binaryOp .Add) (rAdd X.K) := L2.OpR.or L2.op_add (L2.OpR.or L2.op_add_str op_catS)
theorem oif {α : Type} {c : Prop} [Decidable c] {a : Option α} {z : α} (h : (if c then a else none) = some z) : c ∧ a = some z := by
  by_cases g : c
  · rw [if_pos g] at h; exact ⟨g, h⟩
  · rw [if_neg g] at h; cases h
theorem newLst_some {xs : List D} {z : RV} (h : newLst xs = some z) : z = .own (.lst xs) ∧ xs.length ≤ sizeLine := by
  obtain ⟨g, h⟩ := oif h
  injection h with h
  exact ⟨h.symm, of_decide_eq_true g⟩
theorem newStr_some {t : T} {z : RV} (h : newStr t = some z) : z = .val (.str t) ∧ t.length ≤ sizeLine := by
  obtain ⟨g, h⟩ := oif h
  injection h with h
  exact ⟨h.symm, of_decide_eq_true g⟩
theorem obind {α β : Type} {o : Option α} {f : α → Option β} {z : β} (h : o.bind f = some z) : ∃ a, o = some a ∧ f a = some z := by
  cases o with
  | none => cases h
  | some a => exact ⟨a, rfl, h⟩
theorem omap {α β : Type} {o : Option α} {f : α → β} {z : β} (h : o.map f = some z) : ∃ a, o = some a ∧ f a = z := by
  cases o with
  | none => cases h
  | some a => exact ⟨a, rfl, Option.some.inj h⟩
theorem ok_add {K : Fr} : Ok2 K .add (rAdd K) := by
  intro M H σ s x y vx vy z Q rt rx ry hz hq
  have hz : oAdd s.h x y = some z := hz
  unfold oAdd at hz
  split at hz
  · injection hz with hz; subst hz
    cases int_at rx; cases int_at ry
    exact .inl ⟨_, _, rfl, rfl, give rt (.int _) hq⟩
  · obtain ⟨rfl, ha⟩ := str_at rx
    obtain ⟨rfl, hb⟩ := str_at ry
    obtain ⟨rfl, g⟩ := newStr_some hz
    rw [List.length_append] at g
    refine .inr (.inl ⟨_, _, rfl, rfl, by rw [mst_len, mst_len]; exact g, ?_⟩)
    rw [mst_app]
    exact give rt (.str _ (okT_app ha hb g)) hq
  · obtain ⟨xs, h1, hz⟩ := obind hz
    obtain ⟨ys, h2, hz⟩ := obind hz
    obtain ⟨rfl, g⟩ := newLst_some hz
    obtain ⟨a, vs, rfl, r1, r2⟩ := lst_at rt rx h1
    obtain ⟨b, us, rfl, r3, r4⟩ := lst_at rt ry h2
    refine .inr (.inr ⟨a, b, vs, us, rfl, rfl, r1, r3, ?_, give_lst rt (r2.app r4) hq⟩)
    rw [List.length_append, RD.len_eq r2, RD.len_eq r4] at g
    exact g
/-! ### -, *, //, % -/
theorem ok_sub {K : Fr} : Ok2 K .sub (rI0 fun i j => .int (i - j)) := by
  intro M H σ s x y vx vy z Q rt rx ry hz hq
  have hz : oSub x y = some z := hz
  unfold oSub at hz
  split at hz
  · injection hz with hz; subst hz
    cases int_at rx; cases int_at ry
    exact ⟨_, _, rfl, rfl, give rt (.int _) hq⟩
  · cases hz
theorem ok_div {K : Fr} : Ok2 K .fdiv (L2.rI L2.CDiv fun i j => .int (i / j)) := by
  intro M H σ s x y vx vy z Q rt rx ry hz hq
  have hz : oDiv x y = some z := hz
  unfold oDiv at hz
  split at hz
  · split at hz
    · rename_i g
      injection hz with hz; subst hz
      cases int_at rx; cases int_at ry
      exact ⟨_, _, rfl, rfl, g, give rt (.int _) hq⟩
    · cases hz
  · cases hz
theorem ok_mod {K : Fr} : Ok2 K .mod (L2.rI (fun _ j => 0 < j) fun i j => .int (i % j)) := by
  intro M H σ s x y vx vy z Q rt rx ry hz hq
  have hz : oMod x y = some z := hz
  unfold oMod at hz
  split at hz
  · split at hz
    · rename_i g
      injection hz with hz; subst hz
      cases int_at rx; cases int_at ry
      exact ⟨_, _, rfl, rfl, g, give rt (.int _) hq⟩
    · cases hz
  · cases hz
theorem ok_min2 {K : Fr} : Ok2 K .min2 (fun x y H Q => ∃ i j, x = .int i ∧ y = .int j ∧ Q (.int (if j < i then j else i)) H) := by
  intro M H σ s x y vx vy z Q rt rx ry hz hq
  have hz : oMin2 x y = some z := hz
  unfold oMin2 at hz
  split at hz
  · injection hz with hz; subst hz
    cases int_at rx; cases int_at ry
    exact ⟨_, _, rfl, rfl, give rt (.int _) hq⟩
  · cases hz
theorem ok_max2 {K : Fr} : Ok2 K .max2 (fun x y H Q => ∃ i j, x = .int i ∧ y = .int j ∧ Q (.int (if j > i then j else i)) H) := by
  intro M H σ s x y vx vy z Q rt rx ry hz hq
  have hz : oMax2 x y = some z := hz
  unfold oMax2 at hz
  split at hz
  · injection hz with hz; subst hz
    cases int_at rx; cases int_at ry
    exact ⟨_, _, rfl, rfl, give rt (.int _) hq⟩
  · cases hz
end KW
/-! KwOps2: more operations. -/
namespace KW
open PySem (Str Addr Value Program World Heap Operator CmpOp binaryOp compareOp PyData)
open PySem.Spec PyProof.Rows
open L2 (V Hp HO upd upd_same upd_ne upd_upd SqL SqT Rd RelV Mut TE TT TA TS WX PE PT PA PS PSs Cx Inv OpR UnR CallR MtR IxR SlR TruR VK EP rI0)

/-! ### data -/
mutual
def pyd : D → PyData
  | .non => .none
  | .bl b => .bool b
  | .int i => .int i
  | .str t => .str (mst t)
  | .tup xs => .tuple (pyds xs)
  | .lst xs => .list (pyds xs)
  | .dct _ => .none
  | .ref _ => .none
  | .exc _ _ => .none
def pyds : List D → List PyData
  | [] => []
  | x :: r => pyd x :: pyds r
end
theorem dec_beq {α : Type} [DecidableEq α] (a b : α) : decide (a = b) = (a == b) := by
  by_cases h : a = b <;> simp [h]
theorem dec_str (a b : T) : decide (a = b) = (mst a == mst b) := by
  by_cases h : a = b
  · subst h; simp
  · have h2 : mst a ≠ mst b := fun e => h (mst_inj e)
    simp [h, h2]
theorem b2i_is (b : Bool) : (if b then (1 : Int) else 0) = b2i b := rfl
mutual
theorem deq_eqv : ∀ (a b : D), isData a = true → isData b = true → deq a b = PyData.eqv (pyd a) (pyd b)
  | .non, b, _, h => by cases b <;> simp_all [isData, deq, pyd, PyData.eqv]
  | .bl a, b, _, h => by
    cases b with
    | int j => show decide (b2i a = j) = (b2i a == j); exact dec_beq _ _
    | _ => simp_all [isData, deq, pyd, PyData.eqv]
  | .int a, b, _, h => by
    cases b with
    | int j => show decide (a = j) = (a == j); exact dec_beq _ _
    | bl c => show decide (a = b2i c) = (a == b2i c); exact dec_beq _ _
    | _ => simp_all [isData, deq, pyd, PyData.eqv]
  | .str a, b, _, h => by
    cases b <;> simp_all [isData, deq, pyd, PyData.eqv, dec_str]
  | .tup xs, b, hx, h => by
    cases b <;> simp_all [isData, deq, pyd, PyData.eqv]
    exact deqs_eqv xs _ hx h
  | .lst xs, b, hx, h => by
    cases b <;> simp_all [isData, deq, pyd, PyData.eqv]
    exact deqs_eqv xs _ hx h
  | .dct _, _, h, _ => by simp [isData] at h
  | .ref _, _, h, _ => by simp [isData] at h
  | .exc _ _, _, h, _ => by simp [isData] at h
theorem deqs_eqv : ∀ (a b : List D), isDatas a = true → isDatas b = true → deqs a b = PyData.eqvAll (pyds a) (pyds b)
  | [], b, _, h => by cases b <;> simp [deqs, pyds, PyData.eqvAll]
  | x :: xs, [], _, h => by simp [deqs, pyds, PyData.eqvAll]
  | x :: xs, y :: ys, hx, hy => by
    simp only [isDatas, Bool.and_eq_true] at hx hy
    simp only [deqs, pyds, PyData.eqvAll]
    rw [deq_eqv x y hx.1 hy.1, deqs_eqv xs ys hx.2 hy.2]
end
section
variable {K : Fr} {M : MM} {H : Hp} {σ : L2.St} {s : S} {n : Nat}
mutual
theorem dp_of (wf : ∀ a l, M.who a = some l → Mx M.lk a (H a)) : ∀ (d : D) (v : V), isData d = true → RD K n M H d v → L2.Dp K H v (pyd d)
  | .non, _, _, .non => .non
  | .bl b, _, _, .bl _ => .bl b
  | .int i, _, _, .int _ => .int i
  | .str t, _, _, .str _ _ => .str _
  | .tup xs, _, h, .tup a b => .tup a (dps_of wf xs _ (by simpa [isData] using h) b)
  | .lst xs, _, h, .lst a _ b => .lst (.inl a) (dps_of wf xs _ (by simpa [isData] using h) b)
  | .dct _, _, h, _ => by simp [isData] at h
  | .ref _, _, h, _ => by simp [isData] at h
  | .exc _ _, _, h, _ => by simp [isData] at h
theorem dps_of (wf : ∀ a l, M.who a = some l → Mx M.lk a (H a)) : ∀ (d : List D) (v : List V), isDatas d = true → RDs K n M H d v → L2.DpAll K H v (pyds d)
  | [], _, _, .nil => .nil
  | x :: xs, _, h, .cons a b => by
    simp only [isDatas, Bool.and_eq_true] at h
    exact .cons (dp_of wf x _ h.1 a) (dps_of wf xs _ h.2 b)
end
mutual
theorem lay_of : ∀ (d : D) (v : V), isData d = true → RD K n M H d v → (pyd d).canLay0 = true ∧ (pyd d).depth = dep d
  | .non, _, _, _ => by simp [pyd, PyData.canLay0, PyData.depth, dep]
  | .bl b, _, _, _ => by simp [pyd, PyData.canLay0, PyData.depth, dep]
  | .int i, _, _, _ => by simp [pyd, PyData.canLay0, PyData.depth, dep]
  | .str t, _, _, .str _ h => by
    have h2 := h.2
    simp [pyd, PyData.canLay0, PyData.depth, dep, PyData.strOk, mst]
    intro i hi
    exact h2 _ hi
  | .tup xs, _, h, .tup a b => by
    obtain ⟨h1, h2⟩ := lays_of xs _ (by simpa [isData] using h) b
    simp [pyd, PyData.canLay0, PyData.depth, dep, h1, h2]
  | .lst xs, _, h, .lst a _ b => by
    obtain ⟨h1, h2⟩ := lays_of xs _ (by simpa [isData] using h) b
    simp [pyd, PyData.canLay0, PyData.depth, dep, h1, h2]
  | .dct _, _, h, _ => by simp [isData] at h
  | .ref _, _, h, _ => by simp [isData] at h
  | .exc _ _, _, h, _ => by simp [isData] at h
theorem lays_of : ∀ (d : List D) (v : List V), isDatas d = true → RDs K n M H d v → PyData.canLayAll0 (pyds d) = true ∧ PyData.depthAll (pyds d) = deps d
  | [], _, _, .nil => by simp [pyds, PyData.canLayAll0, PyData.depthAll, deps]
  | x :: xs, _, h, .cons a b => by
    simp only [isDatas, Bool.and_eq_true] at h
    obtain ⟨h1, h2⟩ := lay_of x _ h.1 a
    obtain ⟨h3, h4⟩ := lays_of xs _ h.2 b
    simp [pyds, PyData.canLayAll0, PyData.depthAll, deps, h1, h2, h3, h4]
end
theorem shaped_of {d : D} {v : V} (h : shaped d = true) (r : RD K n M H d v) : isData d = true ∧ PySem.SeqAt.shaped (pyd d) = true := by
  obtain ⟨h1, h2⟩ := Bool.and_eq_true_iff.mp h
  obtain ⟨h3, h4⟩ := lay_of d v h1 r
  refine ⟨h1, Bool.and_eq_true_iff.mpr ⟨h3, decide_eq_true ?_⟩⟩
  rw [h4]
  have := of_decide_eq_true h2
  omega
end
end KW
/-! KwOps3: comparisons, places, parts. -/
namespace KW
open PySem (Str Addr Value Program World Heap Operator CmpOp binaryOp compareOp PyData)
open PySem.Spec PyProof.Rows
open L2 (V Hp HO upd upd_same upd_ne upd_upd SqL SqT Rd RelV Mut TE TT TA TS WX PE PT PA PS PSs Cx Inv OpR UnR CallR MtR IxR SlR TruR VK EP rI0)
section
variable {K : Fr} {M : MM} {H : Hp} {σ : L2.St} {s : S} {n : Nat}
theorem lst_shape {xs : List D} {vs : List V} {a : Addr} (wf : ∀ a l, M.who a = some l → Mx M.lk a (H a)) (h : shaped (.lst xs) = true) (r : Rd H a (.lst vs)) (rs : RDs K n M H xs vs) : L2.Dp K H (.ref a) (pyd (.lst xs)) ∧ PySem.SeqAt.shaped (pyd (.lst xs)) = true := by
  obtain ⟨h1, h2⟩ := Bool.and_eq_true_iff.mp h
  have h1 : isDatas xs = true := by simpa [isData] using h1
  obtain ⟨h3, h4⟩ := lays_of xs vs h1 rs
  refine ⟨.lst (.inl r) (dps_of wf xs vs h1 rs), Bool.and_eq_true_iff.mpr ⟨by simpa [pyd, PyData.canLay0] using h3, decide_eq_true ?_⟩⟩
  have h5 := of_decide_eq_true h2
  simp only [dep] at h5
  simp only [pyd, PyData.depth, h4]
  omega
theorem dp_at {x : RV} {v : V} {d : D} (rt : RT K M H σ s) (r : RR K s.h.length M H x v) (h : datOf s.h x = some d) (sh : shaped d = true) : L2.Dp K H v (pyd d) ∧ PySem.SeqAt.shaped (pyd d) = true := by
  cases r with
  | own hw hc => cases hc with
    | lst h1 h2 => simp [datOf] at h; subst h; exact lst_shape rt.hp.wf sh (.inl h1) h2
    | dct _ _ _ _ => simp [datOf] at h; subst h; simp [shaped, isData] at sh
  | pk hw hc => cases hc with
    | lst h1 h2 => simp [datOf] at h; subst h; exact lst_shape rt.hp.wf sh (.inl h1) h2
    | dct _ _ _ _ => simp [datOf] at h; subst h; simp [shaped, isData] at sh
  | @val d0 v r =>
    cases d0 with
    | ref i =>
      cases r with
      | ref hi =>
        simp only [datOf] at h
        cases q : s.h[i]? with
        | none => rw [q] at h; cases h
        | some c =>
          rw [q] at h
          have rc := rt.hp.cell i c q
          cases rc with
          | lst h1 h2 => simp at h; subst h; exact lst_shape rt.hp.wf sh (.inl h1) h2
          | ins _ _ _ => cases h
          | dct _ _ _ => cases h
    | _ =>
      simp only [datOf, Option.some.injEq] at h
      subst h
      obtain ⟨h1, h2⟩ := shaped_of sh r
      exact ⟨dp_of rt.hp.wf _ _ h1 r, h2⟩
theorem isData_of {d : D} (h : shaped d = true) : isData d = true := (Bool.and_eq_true_iff.mp h).1
end
theorem ok_eq {K : Fr} : Ok2 K (.cmp .eq) (L2.rEqD K) := by
  intro M H σ s x y vx vy z Q rt rx ry hz hq
  obtain ⟨b, e1, rfl⟩ := omap (show (runCmp s.h .eq x y).map (fun b => RV.val (.bl b)) = some z from hz)
  obtain ⟨d, h1, e2⟩ := obind (show ((datOf s.h x).bind fun a => (datOf s.h y).bind fun b => eqD a b) = some b from e1)
  obtain ⟨e, h2, e3⟩ := obind e2
  obtain ⟨g, e4⟩ := oif e3
  injection e4 with e4; subst e4
  obtain ⟨g1, g2⟩ := Bool.and_eq_true_iff.mp g
  obtain ⟨p1, p2⟩ := dp_at rt rx h1 g1
  obtain ⟨p3, p4⟩ := dp_at rt ry h2 g2
  refine ⟨_, _, p1, p3, p2, p4, ?_⟩
  rw [← deq_eqv d e (isData_of g1) (isData_of g2)]
  exact give rt (.bl _) hq
theorem ok_ne {K : Fr} : Ok2 K (.cmp .ne) (L2.rNeD K) := by
  intro M H σ s x y vx vy z Q rt rx ry hz hq
  obtain ⟨b, e1, rfl⟩ := omap (show (runCmp s.h .ne x y).map (fun b => RV.val (.bl b)) = some z from hz)
  obtain ⟨b, e5, rfl⟩ := omap (show ((datOf s.h x).bind fun a => (datOf s.h y).bind fun b => eqD a b).map (!·) = some b from e1)
  obtain ⟨d, h1, e2⟩ := obind e5
  obtain ⟨e, h2, e3⟩ := obind e2
  obtain ⟨g, e4⟩ := oif e3
  injection e4 with e4; subst e4
  obtain ⟨g1, g2⟩ := Bool.and_eq_true_iff.mp g
  obtain ⟨p1, p2⟩ := dp_at rt rx h1 g1
  obtain ⟨p3, p4⟩ := dp_at rt ry h2 g2
  refine ⟨_, _, p1, p3, p2, p4, ?_⟩
  rw [← deq_eqv d e (isData_of g1) (isData_of g2)]
  exact give rt (.bl _) hq
theorem cmpInt_some {o : CmpO} {x y : RV} {b : Bool} (h : cmpInt o x y = some b) : ∃ i j, x = .val (.int i) ∧ y = .val (.int j) ∧ cmpI o i j = some b := by
  unfold cmpInt at h
  split at h
  · exact ⟨_, _, rfl, rfl, h⟩
  · cases h
theorem ok_lt {K : Fr} : Ok2 K (.cmp .lt) (rI0 fun i j => .bl (decide (i < j))) := by
  intro M H σ s x y vx vy z Q rt rx ry hz hq
  obtain ⟨b, e1, rfl⟩ := omap (show (cmpInt .lt x y).map (fun b => RV.val (.bl b)) = some z from hz)
  obtain ⟨i, j, rfl, rfl, e2⟩ := cmpInt_some e1
  cases e2; cases int_at rx; cases int_at ry
  exact ⟨_, _, rfl, rfl, give rt (.bl _) hq⟩
theorem ok_le {K : Fr} : Ok2 K (.cmp .le) (rI0 fun i j => .bl (decide (i ≤ j))) := by
  intro M H σ s x y vx vy z Q rt rx ry hz hq
  obtain ⟨b, e1, rfl⟩ := omap (show (cmpInt .le x y).map (fun b => RV.val (.bl b)) = some z from hz)
  obtain ⟨i, j, rfl, rfl, e2⟩ := cmpInt_some e1
  cases e2; cases int_at rx; cases int_at ry
  exact ⟨_, _, rfl, rfl, give rt (.bl _) hq⟩
theorem ok_gt {K : Fr} : Ok2 K (.cmp .gt) (rI0 fun i j => .bl (decide (j < i))) := by
  intro M H σ s x y vx vy z Q rt rx ry hz hq
  obtain ⟨b, e1, rfl⟩ := omap (show (cmpInt .gt x y).map (fun b => RV.val (.bl b)) = some z from hz)
  obtain ⟨i, j, rfl, rfl, e2⟩ := cmpInt_some e1
  cases e2; cases int_at rx; cases int_at ry
  exact ⟨_, _, rfl, rfl, give rt (.bl _) hq⟩
theorem ok_ge {K : Fr} : Ok2 K (.cmp .ge) (rI0 fun i j => .bl (decide (j ≤ i))) := by
  intro M H σ s x y vx vy z Q rt rx ry hz hq
  obtain ⟨b, e1, rfl⟩ := omap (show (cmpInt .ge x y).map (fun b => RV.val (.bl b)) = some z from hz)
  obtain ⟨i, j, rfl, rfl, e2⟩ := cmpInt_some e1
  cases e2; cases int_at rx; cases int_at ry
  exact ⟨_, _, rfl, rfl, give rt (.bl _) hq⟩

/-! ### dicts -/
section
variable {K : Fr} {M : MM} {H : Hp} {σ : L2.St} {s : S} {n : Nat}
theorem valV_cons (p : L2.Key × V) (r : List (L2.Key × V)) (k : L2.Key) : L2.valV (p :: r) k = if p.1 = k then some p.2 else L2.valV r k := by
  by_cases e : p.1 = k
  · rw [L2.valV_pos e, if_pos e]
  · rw [L2.valV_neg e, if_neg e]
/-- a dict's entries, as they lie -/
inductive RG (K : Fr) (n : Nat) (M : MM) (H : Hp) (P : Key → SV → V → Prop) : List (Key × SV) → List (L2.Key × V) → Prop where
  | nil : RG K n M H P [] []
  | cons {k : Key} {sv : SV} {v : V} {fs : List (Key × SV)} {gs : List (L2.Key × V)} : P k sv v → RG K n M H P fs gs → RG K n M H P ((k, sv) :: fs) ((mkey k, v) :: gs)
theorem RG.find {P : Key → SV → V → Prop} (k : Key) : ∀ {fs : List (Key × SV)} {gs : List (L2.Key × V)}, RG K n M H P fs gs → match kfind k fs with
    | none => L2.valV gs (mkey k) = none
    | some sv => ∃ v, L2.valV gs (mkey k) = some v ∧ P k sv v
  | _, _, .nil => rfl
  | _, _, .cons (k := k') (sv := sv) (v := v) (fs := fs) (gs := gs) p r => by
    have ih := RG.find k r
    simp only [kfind]
    by_cases e : k' = k
    · subst e
      simp only [if_true]
      exact ⟨v, by rw [valV_cons, if_pos rfl], p⟩
    · simp only [if_neg e]
      have e2 : ¬ mkey k' = mkey k := fun z => e (mkey_inj z)
      cases q : kfind k fs with
      | none => rw [q] at ih; simp only; rw [valV_cons, if_neg e2]; exact ih
      | some sv' => rw [q] at ih; obtain ⟨w, h1, h2⟩ := ih; exact ⟨w, by rw [valV_cons, if_neg e2]; exact h1, h2⟩
theorem RG.keys {P : Key → SV → V → Prop} : ∀ {fs : List (Key × SV)} {gs : List (L2.Key × V)}, RG K n M H P fs gs → gs.map (·.1) = fs.map fun q => mkey q.1
  | _, _, .nil => rfl
  | _, _, .cons _ r => by simp [RG.keys r]
theorem REs.rg {i : Nat} : ∀ {fs : List (Key × SV)} {gs : List (L2.Key × V)}, REs K n M H i fs gs → RG K n M H (fun k sv v => RS K n M H (.ent i k) sv v) fs gs
  | _, _, .nil => .nil
  | _, _, .cons a b => .cons a (REs.rg b)
theorem flat_rg : ∀ {kvs : List (Key × D)} {vs : List V}, RDs K n M H (kvs.map (·.2)) vs → RG K n M H (fun _ sv v => RD K n M H (unSV sv) v) (plainEs kvs) ((kvs.map fun q => mkey q.1).zip vs)
  | [], _, .nil => .nil
  | q :: r, _, .cons a b => .cons (K := K) (by simpa using a) (flat_rg b)
/-- the dict that a value is -/
theorem dct_at {x : RV} {v : V} {q : Option Nat × List (Key × SV)} (rt : RT K M H σ s) (r : RR K s.h.length M H x v) (h : dctOf s.h x = some q) : ∃ a gs, v = .ref a ∧ Rd H a (.dK gs) ∧ KOk (q.2.map (·.1)) ∧
    RG K s.h.length M H (fun k sv v => RR K s.h.length M H (match q.1 with
      | some i => sv.rv (.ent i k)
      | none => .val (unSV sv)) v) q.2 gs := by
  have mono : ∀ {P P' : Key → SV → V → Prop} {fs : List (Key × SV)} {gs : List (L2.Key × V)}, (∀ k sv v, P k sv v → P' k sv v) → RG K s.h.length M H P fs gs → RG K s.h.length M H P' fs gs := by
    intro P P' fs gs hp r
    induction r with
    | nil => exact .nil
    | cons p _ ih => exact .cons (hp _ _ _ p) ih
  have nd : ∀ kvs : List (Key × D), ((plainEs kvs).map (·.1)) = kvs.map (·.1) := fun kvs => by simp [plainEs]
  cases r with
  | own hw hc => cases hc with
    | dct h1 h2 h3 h4 =>
      simp [dctOf] at h; subst h h2
      exact ⟨_, _, rfl, h1, (show KOk ((plainEs _).map (·.1)) from by rw [nd]; exact h3), mono (fun k sv v p => .val p) (flat_rg h4)⟩
    | lst _ _ => simp [dctOf] at h
  | pk hw hc => cases hc with
    | dct h1 h2 h3 h4 =>
      simp [dctOf] at h; subst h h2
      exact ⟨_, _, rfl, h1, (show KOk ((plainEs _).map (·.1)) from by rw [nd]; exact h3), mono (fun k sv v p => .val p) (flat_rg h4)⟩
    | lst _ _ => simp [dctOf] at h
  | val r => cases r with
    | dct h1 h0 h2 h3 h4 =>
      simp [dctOf] at h; subst h h2
      exact ⟨_, _, rfl, h1, (show KOk ((plainEs _).map (·.1)) from by rw [nd]; exact h3), mono (fun k sv v p => .val p) (flat_rg h4)⟩
    | @ref i hi =>
      simp only [dctOf] at h
      cases e : s.h[i]? with
      | none => rw [e] at h; cases h
      | some c =>
        rw [e] at h
        have rc := rt.hp.cell i c e
        cases rc with
        | dct h1 h2 h3 =>
          simp at h; subst h
          refine ⟨_, _, rfl, h1, h2, mono (fun k sv v p => ?_) h3.rg⟩
          cases p with
          | val p => exact .val p
          | own p1 p2 => exact .pk p1 p2
        | ins _ _ _ => cases h
        | lst _ _ => cases h
    | _ => simp [dctOf] at h
theorem key_at {d : D} {k : Key} {v : V} (r : RR K n M H (.val d) v) (h : keyOf d = some k) : v = L2.kV (mkey k) := by
  cases r with
  | val r =>
    cases r with
    | int i => simp at h; subst h; rfl
    | str t ht => simp at h; subst h; rfl
    | _ => simp at h
end
/-- what a dict holds, read -/
def rDG : L2.R2 := fun x y H Q => ∃ a v, x = .ref a ∧ L2.DGet H a y (some v) ∧ Q v H
theorem ix_dict {X : Cx} (hu : X.A.units + 1 < PySem.cLine) : IxR X rDG := by
  intro value slice pins s σ H x y v u Q I rx ry ⟨a, w, ex, g, q⟩ hs
  subst ex
  cases rx
  exact tail_any (L2.dict_typeIs I g) PySem.F.slot_dict_getitem.lookup (L2.d_getItem hu I g ry fun w' s3 I3 rw' => ⟨w, H, I3, rw', q⟩) (hs)
end KW
/-! KwOps4: places, parts, membership. -/
namespace KW
open PySem (Str Addr Value Program World Heap Operator CmpOp binaryOp compareOp PyData)
open PySem.Spec PyProof.Rows
open L2 (V Hp HO upd upd_same upd_ne upd_upd SqL SqT Rd RelV Mut TE TT TA TS WX PE PT PA PS PSs Cx Inv OpR UnR CallR MtR IxR SlR TruR VK EP rI0)
theorem atI_is {α : Type} (xs : List α) (i : Int) : L2.atI xs i = atI xs i := rfl
section
variable {K : Fr} {M : MM} {H : Hp} {σ : L2.St} {s : S} {n : Nat}
theorem atI_get {α : Type} {xs : List α} {i : Int} {d : α} (h : atI xs i = some d) : ∃ j, ixN xs.length i = some j ∧ xs[j]? = some d := by
  unfold atI at h
  obtain ⟨j, h1, h2⟩ := obind h
  exact ⟨j, h1, h2⟩
theorem RDs.atI {xs : List D} {vs : List V} {i : Int} {d : D} (rs : RDs K n M H xs vs) (h : atI xs i = some d) : ∃ v, L2.atI vs i = some v ∧ RD K n M H d v := by
  obtain ⟨j, h1, h2⟩ := atI_get h
  obtain ⟨v, h3, h4⟩ := rs.get h2
  refine ⟨v, ?_, h4⟩
  rw [atI_is]
  unfold KW.atI
  rw [← RD.len_eq rs, h1]
  exact h3
theorem no_own_rv {p : Pl} {sv : SV} {c : Cont} (h : sv.rv p = .own c) : False := by cases sv <;> cases h
theorem ent_fresh {q : Option Nat × List (Key × SV)} {k : Key} {z : RV} (h : entOf q k = some z) (c : Cont) : z ≠ .own c := fun e => by
  subst e
  obtain ⟨sv, h1, h2⟩ := omap h
  split at h2
  · exact no_own_rv h2
  · cases h2
theorem ent_at {q : Option Nat × List (Key × SV)} {k : Key} {z : RV} {gs : List (L2.Key × V)} (h : entOf q k = some z)
    (r : RG K n M H (fun k sv v => RR K n M H (match q.1 with
      | some i => sv.rv (.ent i k)
      | none => .val (unSV sv)) v) q.2 gs) : ∃ v, L2.valV gs (mkey k) = some v ∧ RR K n M H z v := by
  obtain ⟨sv, h1, h2⟩ := omap h
  have f := r.find k
  rw [h1] at f
  obtain ⟨v, h3, h4⟩ := f
  refine ⟨v, h3, ?_⟩
  rw [← h2]
  exact h4
theorem dget_rd {a : Addr} {gs : List (L2.Key × V)} {k : L2.Key} (h : Rd H a (.dK gs)) : L2.DGet H a (L2.kV k) (L2.valV gs k) := .inl ⟨gs, k, h, rfl, rfl⟩
end
def rIdx (K : Fr) : L2.R2 := fun x y H Q => L2.rIxS x y H Q ∨ ((L2.rIxL K x y H Q ∨ L2.rIxT K x y H Q) ∨ rDG x y H Q)
theorem ix_all {X : Cx} (hu : X.A.units + 1 < PySem.cLine) : IxR X (rIdx X.K) := L2.IxR.or L2.ix_str (L2.IxR.or (L2.IxR.or L2.ix_list L2.ix_tup) (ix_dict hu))
theorem ok_idx {K : Fr} : Ok2 K .idx (rIdx K) := by
  intro M H σ s x y vx vy z Q rt rx ry hz hq
  have hz : runIdx s.h x y = some z := hz
  unfold runIdx at hz
  split at hz
  · unfold oIdxS at hz
    split at hz
    · obtain ⟨c, h1, rfl⟩ := omap hz
      obtain ⟨rfl, ht⟩ := str_at rx
      cases int_at ry
      refine .inl ⟨_, _, c, rfl, rfl, by rw [mst_len]; exact ht.1, by rw [mst_cps, atI_is]; exact h1, ?_⟩
      have hc : okT [c] := ⟨(show 1 ≤ 16777216 by decide), fun d hd => by
        obtain ⟨j, _, h2⟩ := atI_get h1
        rcases List.mem_singleton.mp hd with rfl
        exact ht.2 _ (List.mem_of_getElem? h2)⟩
      exact give rt (.str _ hc) hq
    · cases hz
  · cases e : seqOf s.h x with
    | some xs =>
      rw [e] at hz
      simp only [oIdxL] at hz
      split at hz
      · obtain ⟨d, h1, rfl⟩ := omap hz
        obtain ⟨a, vs, rfl, r1, r2⟩ := seq_at rt rx e
        cases int_at ry
        obtain ⟨v, h3, h4⟩ := r2.atI h1
        rcases r1 with r1 | r1
        · exact .inr (.inl (.inl ⟨a, vs, _, v, rfl, rfl, r1, h3, give rt h4 hq⟩))
        · exact .inr (.inl (.inr ⟨a, vs, _, v, rfl, rfl, r1, h3, give rt h4 hq⟩))
      · cases hz
    | none =>
      rw [e] at hz
      obtain ⟨q, h1, h2⟩ := obind (show (dctOf s.h x).bind (fun q => oIdxD q y) = some z from hz)
      unfold oIdxD at h2
      split at h2
      · obtain ⟨k, h3, h4⟩ := obind h2
        obtain ⟨a, gs, rfl, r1, _, r2⟩ := dct_at rt rx h1
        cases key_at ry h3
        obtain ⟨v, h5, h6⟩ := ent_at h4 r2
        refine .inr (.inr ⟨a, v, rfl, ?_, hq M H v .refl rt h6 fun c e => absurd e (ent_fresh h4 c)⟩)
        rw [← h5]
        exact dget_rd r1
      · cases h2

/-! ### parts -/
theorem sIx_is (n d : Nat) (o : Option Int) : HT.sIx n d o = sIx n d o := rfl
section
variable {K : Fr} {M : MM} {H : Hp} {σ : L2.St} {s : S} {n : Nat}
theorem RDs.cut {xs : List D} {vs : List V} (rs : RDs K n M H xs vs) (lo hi : Option Int) : RDs K n M H (cut xs lo hi) (L2.cutV vs lo hi) := by
  unfold KW.cut L2.cutV
  rw [sIx_is, sIx_is, ← RD.len_eq rs]
  exact (rs.drop _).take _
theorem cut_whole {α : Type} {xs : List α} {lo hi : Option Int} (h : sIx xs.length 0 lo = 0 ∧ sIx xs.length xs.length hi = xs.length) : cut xs lo hi = xs := by
  unfold cut
  rw [h.1, h.2]
  simp
theorem cut_mem {α : Type} {xs : List α} {lo hi : Option Int} {a : α} (h : a ∈ cut xs lo hi) : a ∈ xs := List.mem_of_mem_drop (List.mem_of_mem_take h)
theorem cut_len {α : Type} (xs : List α) (lo hi : Option Int) : (cut xs lo hi).length ≤ xs.length := by
  unfold cut
  rw [List.length_take, List.length_drop]
  omega
end
def rSl (K : Fr) : V → Option Int → Option Int → Hp → VK → Prop := fun x lo hi H Q => L2.rSlS x lo hi H Q ∨ (L2.rSlL K x lo hi H Q ∨ L2.rSlA K x lo hi H Q)
theorem sl_all {X : Cx} : SlR X (rSl X.K) := L2.SlR.or L2.sl_str (L2.SlR.or L2.sl_list L2.sl_tupA)
theorem ok_cut {K : Fr} {M : MM} {H : Hp} {σ : L2.St} {s : S} {x z : RV} {vx : V} {lo hi : Option Int} {Q : VK} (rt : RT K M H σ s) (rx : RR K s.h.length M H x vx) (hz : runCut s.h x lo hi = some z)
    (hq : ∀ M' H' v, Grow M H M' H' → RT K M' H' σ s → RR K s.h.length M' H' z v → Fresh H z v → Q v H') : rSl K vx lo hi H Q := by
  unfold runCut at hz
  split at hz
  · injection hz with hz; subst hz
    obtain ⟨rfl, ht⟩ := str_at rx
    refine .inl ⟨_, rfl, by rw [mst_len]; exact ht.1, ?_⟩
    rename_i t
    have e : L2.cutS (mst t) lo hi = mst (cut t lo hi) := by
      unfold L2.cutS mst KW.cut
      rw [sIx_is, sIx_is]
      simp [Str.length]
    rw [e]
    exact give rt (.str _ ⟨Nat.le_trans (cut_len _ _ _) ht.1, fun c hc => ht.2 c (cut_mem hc)⟩) hq
  · injection hz with hz; subst hz
    obtain ⟨a, vs, rfl, r1, r2⟩ := tup_at (x := .val .non) rx
    refine .inr (.inr ⟨a, vs, rfl, r1, fun hw => ?_, fun hw => give_tup rt (r2.cut lo hi) hq⟩)
    rw [sIx_is, sIx_is, ← RD.len_eq r2] at hw
    rw [cut_whole hw] at hq
    exact give rt (.tup r1 r2) hq
  · obtain ⟨xs, h1, h2⟩ := obind hz
    obtain ⟨rfl, g⟩ := newLst_some h2
    obtain ⟨a, vs, rfl, r1, r2⟩ := lst_at rt rx h1
    exact .inr (.inl ⟨a, vs, rfl, .inl r1, give_lst rt (r2.cut lo hi) hq⟩)
theorem part_some {x : RV} {i : Option Int} (h : part x = some i) : ∃ k, x = .val (.int k) ∧ i = some k := by
  unfold part at h
  split at h
  · injection h with h; exact ⟨_, rfl, h.symm⟩
  · cases h
section
variable {K : Fr} {W : WX} {C : CallF} {a b c : E} {σ : L2.St} {H : Hp} {Q : L2.VK}
theorem t_slFrom (h : tE K W C (.p2 .slFrom a b) σ H Q) : L2.tSl (rSl K) (tE K W C a) (L2.tPart (tE K W C b)) L2.tNoPart σ H Q := by
  have h := t_p2 (r := fun x y H Q => ∃ i, y = .int i ∧ rSl K x (some i) none H Q) (fun M H σ s x y vx vy z Q rt rx ry hz hq => ?_) h
  · exact h
  · obtain ⟨i, e1, e2⟩ := obind (show (part y).bind (fun i => runCut s.h x i none) = some z from hz)
    obtain ⟨k, rfl, rfl⟩ := part_some e1
    cases int_at ry
    exact ⟨k, rfl, ok_cut rt rx e2 hq⟩
theorem t_slTo (h : tE K W C (.p2 .slTo a b) σ H Q) : L2.tSl (rSl K) (tE K W C a) L2.tNoPart (L2.tPart (tE K W C b)) σ H Q := by
  have h := t_p2 (r := fun x y H Q => ∃ i, y = .int i ∧ rSl K x none (some i) H Q) (fun M H σ s x y vx vy z Q rt rx ry hz hq => ?_) h
  · exact h
  · obtain ⟨i, e1, e2⟩ := obind (show (part y).bind (fun i => runCut s.h x none i) = some z from hz)
    obtain ⟨k, rfl, rfl⟩ := part_some e1
    cases int_at ry
    exact ⟨k, rfl, ok_cut rt rx e2 hq⟩
end
end KW
/-! KwOps5: one-place operations, membership. -/
namespace KW
open PySem (Str Addr Value Program World Heap Operator CmpOp binaryOp compareOp PyData)
open PySem.Spec PyProof.Rows
open L2 (V Hp HO upd upd_same upd_ne upd_upd SqL SqT Rd RelV Mut TE TT TA TS WX PE PT PA PS PSs Cx Inv OpR UnR CallR MtR IxR SlR TruR VK EP rI0)

/-! ### in -/
section
variable {K : Fr} {M : MM} {H : Hp} {σ : L2.St} {s : S} {n : Nat}
theorem flat_flatV {d : D} {v : V} (h : flat d = true) (r : RD K n M H d v) : L2.flatV v = true := by
  cases r <;> first | rfl | (simp [flat] at h)
theorem flats_flatV : ∀ {xs : List D} {vs : List V}, xs.all flat = true → RDs K n M H xs vs → vs.all L2.flatV = true
  | _, _, _, .nil => rfl
  | _, _, h, .cons a b => by
    simp only [List.all_cons, Bool.and_eq_true] at h ⊢
    exact ⟨flat_flatV h.1 a, flats_flatV h.2 b⟩
theorem deq_eqV {d e : D} {v u : V} (hd : flat d = true) (he : flat e = true) (rd : RD K n M H d v) (re : RD K n M H e u) : L2.eqV v u = deq d e := by
  cases rd <;> cases re <;> first
    | (simp [flat] at hd; done)
    | (simp [flat] at he; done)
    | rfl
    | (simp only [L2.eqV, deq, b2i]; first | exact (dec_beq _ _).symm | exact (dec_str _ _).symm | rfl)
theorem any_inV {d : D} {v : V} (hd : flat d = true) (rd : RD K n M H d v) : ∀ {ys : List D} {us : List V}, ys.all flat = true → RDs K n M H ys us → L2.inV v us = ys.any fun z => deq z d
  | _, _, _, .nil => rfl
  | _, _, h, .cons a b => by
    simp only [List.all_cons, Bool.and_eq_true] at h
    have ih := any_inV hd rd h.2 b
    unfold L2.inV at ih ⊢
    simp only [List.any_cons]
    rw [ih, deq_eqV h.1 hd a rd]
theorem pyds_any {ys : List D} {d : D} (hy : isDatas ys = true) (hd : isData d = true) : ((pyds ys).any fun z => PyData.eqv z (pyd d)) = ys.any fun z => deq z d := by
  induction ys with
  | nil => rfl
  | cons y r ih =>
    simp only [isDatas, Bool.and_eq_true] at hy
    simp only [pyds, List.any_cons]
    rw [ih hy.2, deq_eqv y d hy.1 hd]
theorem datas_of_shaped : ∀ {ys : List D}, ys.all shaped = true → isDatas ys = true ∧ deps ys ≤ 60
  | [], _ => ⟨rfl, by simp [deps]⟩
  | y :: r, h => by
    simp only [List.all_cons, Bool.and_eq_true] at h
    obtain ⟨h1, h2⟩ := datas_of_shaped h.2
    obtain ⟨h3, h4⟩ := Bool.and_eq_true_iff.mp h.1
    have h4 := of_decide_eq_true h4
    refine ⟨by simp [isDatas, h3, h1], by simp only [deps]; omega⟩
theorem list_shape {ys : List D} {vs : List V} {a : Addr} (wf : ∀ a l, M.who a = some l → Mx M.lk a (H a)) (h : ys.all shaped = true) (r : Rd H a (.lst vs)) (rs : RDs K n M H ys vs) : L2.Dp K H (.ref a) (.list (pyds ys)) ∧ PySem.SeqAt.shaped (.list (pyds ys)) = true := by
  obtain ⟨h1, h2⟩ := datas_of_shaped h
  obtain ⟨h3, h4⟩ := lays_of ys vs h1 rs
  refine ⟨.lst (.inl r) (dps_of wf ys vs h1 rs), Bool.and_eq_true_iff.mpr ⟨by simpa [PyData.canLay0] using h3, decide_eq_true ?_⟩⟩
  simp only [PyData.depth, h4]
  omega
end
def rInDict : L2.R2 := fun x y H Q => ∃ a o, y = .ref a ∧ L2.DGet H a x o ∧ Q (.bl o.isSome) H
def rNotInDict : L2.R2 := fun x y H Q => ∃ a o, y = .ref a ∧ L2.DGet H a x o ∧ Q (.bl (!o.isSome)) H
theorem op_inDict {X : Cx} (hu : X.A.units + 1 < PySem.cLine) : OpR X (compareOp .In) rInDict := by
  intro pins s σ H x y v u Q I rx ry ⟨a, o, ey, g, q⟩
  subst ey
  cases ry
  exact L2.d_in hu I g rx fun s3 I3 => ⟨.bl o.isSome, H, I3, rfl, q⟩
theorem op_notInDict {X : Cx} (hu : X.A.units + 1 < PySem.cLine) : OpR X (compareOp .NotIn) rNotInDict := by
  intro pins s σ H x y v u Q I rx ry ⟨a, o, ey, g, q⟩
  subst ey
  cases ry
  exact L2.d_notIn hu I g rx fun s3 I3 => ⟨.bl (!o.isSome), H, I3, rfl, q⟩
def rSign (f : Bool → Bool) : L2.R2 := fun x y H Q => ∃ (c : Nat) (z : Str), x = .str ⟨#[c]⟩ ∧ y = .str z ∧ Q (.bl (f (decide (c ∈ z.cps.toList)))) H
def rInAll (K : Fr) : L2.R2 := fun x y H Q => (∃ (c : Nat) (z : Str), x = .str ⟨#[c]⟩ ∧ y = .str z ∧ Q (.bl (decide (c ∈ z.cps.toList))) H) ∨ (L2.rIn K false x y H Q ∨ (L2.rInD K x y H Q ∨ rInDict x y H Q))
def rNotInAll (K : Fr) : L2.R2 := fun x y H Q => (∃ (c : Nat) (z : Str), x = .str ⟨#[c]⟩ ∧ y = .str z ∧ Q (.bl (!decide (c ∈ z.cps.toList))) H) ∨ (L2.rIn K true x y H Q ∨ (L2.rNotInD K x y H Q ∨ rNotInDict x y H Q))
theorem op_inAll {X : Cx} (hu : X.A.units + 65 < PySem.cLine) : OpR X (compareOp .In) (rInAll X.K) := L2.OpR.or L2.op_in_sign (L2.OpR.or L2.op_in_seq (L2.OpR.or (L2.op_inD hu) (op_inDict (by omega))))
theorem op_notInAll {X : Cx} (hu : X.A.units + 65 < PySem.cLine) : OpR X (compareOp .NotIn) (rNotInAll X.K) := L2.OpR.or L2.op_notIn_sign (L2.OpR.or L2.op_notIn_seq (L2.OpR.or (L2.op_notInD hu) (op_notInDict (by omega))))
/-- both words at once -/
theorem in_core {K : Fr} {M : MM} {H : Hp} {σ : L2.St} {s : S} {x y : RV} {vx vy : V} {b : Bool} (rt : RT K M H σ s) (rx : RR K s.h.length M H x vx) (ry : RR K s.h.length M H y vy) (hz : runIn s.h x y = some b) (Q : VK) :
    (Q (.bl b) H → rInAll K vx vy H Q) ∧ (Q (.bl (!b)) H → rNotInAll K vx vy H Q) := by
  unfold runIn at hz
  split at hz
  · unfold inS at hz
    split at hz
    · injection hz with hz; subst hz
      obtain ⟨rfl, _⟩ := str_at rx
      obtain ⟨rfl, _⟩ := str_at ry
      exact ⟨fun q => .inl ⟨_, _, rfl, rfl, by rw [mst_cps]; exact q⟩, fun q => .inl ⟨_, _, rfl, rfl, by rw [mst_cps]; exact q⟩⟩
    · cases hz
  · obtain ⟨d, h1, h2⟩ := obind hz
    obtain ⟨g, h3⟩ := oif h2
    injection h3 with h3; subst h3
    obtain ⟨g1, g2⟩ := Bool.and_eq_true_iff.mp g
    obtain ⟨a, vs, rfl, r1, r2⟩ := tup_at (x := .val .non) ry
    have hx : RD K s.h.length M H d vx := by
      cases rx with
      | val r =>
        rename_i d0
        cases d0 with
        | ref i =>
          simp only [datOf] at h1
          cases q : s.h[i]? with
          | none => rw [q] at h1; cases h1
          | some c => rw [q] at h1; cases c <;> simp at h1; subst h1; simp [flat] at g1
        | _ => simp only [datOf, Option.some.injEq] at h1; subst h1; exact r
      | own _ hc => cases hc <;> (simp [datOf] at h1; subst h1; simp [flat] at g1)
      | pk _ hc => cases hc <;> (simp [datOf] at h1; subst h1; simp [flat] at g1)
    have e := any_inV g1 hx g2 r2
    exact ⟨fun q => .inr (.inl ⟨a, vs, rfl, .inr r1, flat_flatV g1 hx, flats_flatV g2 r2, by rw [e]; exact q⟩), fun q => .inr (.inl ⟨a, vs, rfl, .inr r1, flat_flatV g1 hx, flats_flatV g2 r2, by rw [e]; exact q⟩)⟩
  · split at hz
    · rename_i ys h1
      obtain ⟨d, h2, h3⟩ := obind hz
      obtain ⟨g, h4⟩ := oif h3
      injection h4 with h4; subst h4
      obtain ⟨g1, g2⟩ := Bool.and_eq_true_iff.mp g
      obtain ⟨a, vs, rfl, r1, r2⟩ := lst_at rt ry h1
      obtain ⟨p1, p2⟩ := dp_at rt rx h2 g1
      obtain ⟨p3, p4⟩ := list_shape rt.hp.wf g2 r1 r2
      have e := pyds_any (datas_of_shaped g2).1 (isData_of g1)
      exact ⟨fun q => .inr (.inr (.inl ⟨_, _, p1, p3, p2, p4, by rw [e]; exact q⟩)), fun q => .inr (.inr (.inl ⟨_, _, p1, p3, p2, p4, by rw [e]; exact q⟩))⟩
    · obtain ⟨q, h1, h2⟩ := obind hz
      unfold inD at h2
      split at h2
      · obtain ⟨k, h3, h4⟩ := omap h2
        obtain ⟨a, gs, rfl, r1, _, r2⟩ := dct_at rt ry h1
        cases key_at rx h3
        have f := r2.find k
        have e : (L2.valV gs (mkey k)).isSome = b := by
          rw [← h4]
          cases q2 : kfind k q.2 with
          | none => rw [q2] at f; rw [f]; rfl
          | some sv => rw [q2] at f; obtain ⟨v, f1, _⟩ := f; rw [f1]; rfl
        exact ⟨fun q => .inr (.inr (.inr ⟨a, _, rfl, dget_rd r1, by rw [e]; exact q⟩)), fun q => .inr (.inr (.inr ⟨a, _, rfl, dget_rd r1, by rw [e]; exact q⟩))⟩
      · cases h2
theorem ok_in {K : Fr} : Ok2 K (.cmp .isIn) (rInAll K) := by
  intro M H σ s x y vx vy z Q rt rx ry hz hq
  obtain ⟨b, e1, rfl⟩ := omap (show (runIn s.h x y).map (fun b => RV.val (.bl b)) = some z from hz)
  exact (in_core rt rx ry e1 Q).1 (give rt (.bl _) hq)
theorem ok_notIn {K : Fr} : Ok2 K (.cmp .notIn) (rNotInAll K) := by
  intro M H σ s x y vx vy z Q rt rx ry hz hq
  obtain ⟨b, e1, rfl⟩ := omap (show ((runIn s.h x y).map (!·)).map (fun b => RV.val (.bl b)) = some z from hz)
  obtain ⟨b, e2, rfl⟩ := omap e1
  exact (in_core rt rx ry e2 Q).2 (give rt (.bl _) hq)

/-! ### one-place -/
def rLen (K : Fr) : List V → Hp → VK → Prop := fun xs H Q => (∃ x n, xs = [x] ∧ L2.LenV K x H n ∧ Q (.int n) H) ∨ ∃ a kvs, xs = [V.ref a] ∧ Rd H a (.dK kvs) ∧ Q (.int kvs.length) H
theorem ok_len {K : Fr} : Ok1 K .len (fun x H Q => rLen K [x] H Q) := by
  intro M H σ s x vx z Q rt rx hz hq
  have hz : oLen s.h x = some z := hz
  unfold oLen at hz
  split at hz
  · injection hz with hz; subst hz
    obtain ⟨rfl, ht⟩ := str_at rx
    exact .inl ⟨_, _, rfl, ⟨by rw [mst_len]; exact ht.1, (mst_len _).symm⟩, give rt (.int _) hq⟩
  · split at hz
    · rename_i xs h1
      injection hz with hz; subst hz
      obtain ⟨a, vs, rfl, r1, r2⟩ := seq_at rt rx h1
      refine .inl ⟨_, vs.length, rfl, ?_, by rw [← RD.len_eq r2]; exact give rt (.int _) hq⟩
      rcases r1 with r1 | r1
      · exact .inl ⟨vs, r1, rfl⟩
      · exact .inr ⟨vs, r1, rfl⟩
    · obtain ⟨q, h1, rfl⟩ := omap hz
      obtain ⟨a, gs, rfl, r1, _, r2⟩ := dct_at rt rx h1
      refine .inr ⟨a, gs, rfl, r1, ?_⟩
      have e : gs.length = q.2.length := by
        have := congrArg List.length r2.keys
        simpa using this
      rw [e]
      exact give rt (.int _) hq
theorem ok_abs {K : Fr} : Ok1 K .abs (fun x H Q => ∃ i, [x] = [V.int i] ∧ Q (.int (if i < 0 then -i else i)) H) := by
  intro M H σ s x vx z Q rt rx hz hq
  have hz : oAbs x = some z := hz
  unfold oAbs at hz
  split at hz
  · injection hz with hz; subst hz
    cases int_at rx
    exact ⟨_, rfl, give rt (.int _) hq⟩
  · cases hz
theorem ok_neg {K : Fr} : Ok1 K .neg (L2.rU fun i => .int (-i)) := by
  intro M H σ s x vx z Q rt rx hz hq
  have hz : oNeg x = some z := hz
  unfold oNeg at hz
  split at hz
  · injection hz with hz; subst hz
    cases int_at rx
    exact ⟨_, rfl, give rt (.int _) hq⟩
  · cases hz
theorem ok_ord {K : Fr} : Ok1 K .ord (fun x H Q => ∃ z : Str, [x] = [V.str z] ∧ z.length = 1 ∧ Q (.int (z.cps.getD 0 0 : Nat)) H) := by
  intro M H σ s x vx z Q rt rx hz hq
  have hz : oOrd x = some z := hz
  unfold oOrd at hz
  split at hz
  · injection hz with hz; subst hz
    obtain ⟨rfl, _⟩ := str_at rx
    exact ⟨_, rfl, rfl, give rt (.int _) hq⟩
  · cases hz
theorem ok_list {K : Fr} : Ok1 K .list (fun x H Q => ∃ p ys, [x] = [V.ref p] ∧ (SqL K H p ys ∨ SqT K H p ys) ∧ ∀ l, H l = none → Q (.ref l) (upd H l (.lst ys))) := by
  intro M H σ s x vx z Q rt rx hz hq
  obtain ⟨xs, h1, h2⟩ := obind (show (seqOf s.h x).bind newLst = some z from hz)
  obtain ⟨rfl, g⟩ := newLst_some h2
  obtain ⟨a, vs, rfl, r1, r2⟩ := seq_at rt rx h1
  exact ⟨a, vs, rfl, r1, give_lst rt r2 hq⟩
theorem ok_tuple {K : Fr} : Ok1 K .tuple (fun x H Q => ∃ p ys, [x] = [V.ref p] ∧ ((SqL K H p ys ∧ ∀ l, H l = none → Q (.ref l) (upd H l (.tup ys))) ∨ (SqT K H p ys ∧ Q (.ref p) H))) := by
  intro M H σ s x vx z Q rt rx hz hq
  obtain ⟨xs, h1, rfl⟩ := omap (show (seqOf s.h x).map (fun xs => RV.val (.tup xs)) = some z from hz)
  obtain ⟨a, vs, rfl, r1, r2⟩ := seq_at rt rx h1
  rcases r1 with r1 | r1
  · exact ⟨a, vs, rfl, .inl ⟨r1, give_tup rt r2 hq⟩⟩
  · exact ⟨a, vs, rfl, .inr ⟨r1, give rt (.tup r1 r2) hq⟩⟩
section
variable {K : Fr} {M : MM} {H : Hp} {n : Nat}
theorem bools_at : ∀ {xs : List D} {bs : List Bool} {vs : List V}, boolsOf xs = some bs → RDs K n M H xs vs → vs = bs.map V.bl
  | [], _, _, h, .nil => by cases h; rfl
  | .bl b :: r, bs, _, h, .cons a t => by
    obtain ⟨cs, h1, rfl⟩ := omap h
    cases a
    rw [bools_at h1 t]; rfl
  | .non :: _, _, _, h, _ => by cases h
  | .int _ :: _, _, _, h, _ => by cases h
  | .str _ :: _, _, _, h, _ => by cases h
  | .tup _ :: _, _, _, h, _ => by cases h
  | .lst _ :: _, _, _, h, _ => by cases h
  | .dct _ :: _, _, _, h, _ => by cases h
  | .ref _ :: _, _, _, h, _ => by cases h
  | .exc _ _ :: _, _, _, h, _ => by cases h
theorem ints_at : ∀ {xs : List D} {is : List Int} {vs : List V}, intsOf xs = some is → RDs K n M H xs vs → vs = is.map V.int
  | [], _, _, h, .nil => by cases h; rfl
  | .int b :: r, bs, _, h, .cons a t => by
    obtain ⟨cs, h1, rfl⟩ := omap h
    cases a
    rw [ints_at h1 t]; rfl
  | .bl _ :: _, _, _, h, _ => by cases h
  | .non :: _, _, _, h, _ => by cases h
  | .str _ :: _, _, _, h, _ => by cases h
  | .tup _ :: _, _, _, h, _ => by cases h
  | .lst _ :: _, _, _, h, _ => by cases h
  | .dct _ :: _, _, _, h, _ => by cases h
  | .ref _ :: _, _, _, h, _ => by cases h
  | .exc _ _ :: _, _, _, h, _ => by cases h
theorem strs_at : ∀ {xs : List D} {ts : List T} {vs : List V}, strsOf xs = some ts → RDs K n M H xs vs → vs = (ts.map mst).map V.str ∧ ∀ t ∈ ts, okT t
  | [], _, _, h, .nil => by cases h; exact ⟨rfl, fun t ht => by cases ht⟩
  | .str b :: r, bs, _, h, .cons a t => by
    obtain ⟨cs, h1, rfl⟩ := omap h
    cases a with
    | str _ ha =>
    obtain ⟨e1, e2⟩ := strs_at h1 t
    rw [e1]
    refine ⟨rfl, fun t ht => ?_⟩
    rcases List.mem_cons.mp ht with rfl | ht
    · exact ha
    · exact e2 t ht
  | .bl _ :: _, _, _, h, _ => by cases h
  | .non :: _, _, _, h, _ => by cases h
  | .int _ :: _, _, _, h, _ => by cases h
  | .tup _ :: _, _, _, h, _ => by cases h
  | .lst _ :: _, _, _, h, _ => by cases h
  | .dct _ :: _, _, _, h, _ => by cases h
  | .ref _ :: _, _, _, h, _ => by cases h
  | .exc _ _ :: _, _, _, h, _ => by cases h
end
theorem ok_sum {K : Fr} : Ok1 K .sum (fun x H Q => L2.rSum K [x] H Q) := by
  intro M H σ s x vx z Q rt rx hz hq
  obtain ⟨xs, h1, h2⟩ := obind (show (lstOf s.h x).bind (fun xs => (intsOf xs).map fun is => RV.val (.int is.sum)) = some z from hz)
  obtain ⟨is, h3, rfl⟩ := omap h2
  obtain ⟨a, vs, rfl, r1, r2⟩ := lst_at rt rx h1
  cases ints_at h3 r2
  exact ⟨a, is, rfl, .inl r1, give rt (.int _) hq⟩
theorem ok_all {K : Fr} : Ok1 K .all (fun x H Q => L2.rAll K [x] H Q) := by
  intro M H σ s x vx z Q rt rx hz hq
  obtain ⟨xs, h1, h2⟩ := obind (show (lstOf s.h x).bind (fun xs => (boolsOf xs).map fun bs => RV.val (.bl (bs.all id))) = some z from hz)
  obtain ⟨is, h3, rfl⟩ := omap h2
  obtain ⟨a, vs, rfl, r1, r2⟩ := lst_at rt rx h1
  cases bools_at h3 r2
  exact ⟨a, is, rfl, .inl r1, give rt (.bl _) hq⟩
theorem ok_any {K : Fr} : Ok1 K .any (fun x H Q => L2.rAny K [x] H Q) := by
  intro M H σ s x vx z Q rt rx hz hq
  obtain ⟨xs, h1, h2⟩ := obind (show (lstOf s.h x).bind (fun xs => (boolsOf xs).map fun bs => RV.val (.bl (bs.any id))) = some z from hz)
  obtain ⟨is, h3, rfl⟩ := omap h2
  obtain ⟨a, vs, rfl, r1, r2⟩ := lst_at rt rx h1
  cases bools_at h3 r2
  exact ⟨a, is, rfl, .inl r1, give rt (.bl _) hq⟩
theorem ok_start {K : Fr} : Ok2 K .startswith (fun x y H Q => ∃ a b, x = V.str a ∧ [y] = [V.str b] ∧ Q (.bl (PySem.Txt.startswith a b)) H) := by
  intro M H σ s x y vx vy z Q rt rx ry hz hq
  have hz : oStart x y = some z := hz
  unfold oStart at hz
  split at hz
  · rename_i t c _
    injection hz with hz; subst hz
    obtain ⟨rfl, _⟩ := str_at rx
    obtain ⟨rfl, _⟩ := str_at ry
    refine ⟨_, _, rfl, rfl, ?_⟩
    have e : PySem.Txt.startswith (mst t) (mst [c]) = (t.head? == some c) := by
      unfold PySem.Txt.startswith
      cases t with
      | nil => simp [mst, Str.length]
      | cons d r => simp [mst, Str.length, PySem.Builtin.Str.subAt]
    rw [e]
    exact give rt (.bl _) hq
  · cases hz
theorem ok_isNone {K : Fr} {M : MM} {H : Hp} {σ : L2.St} {s : S} {x : RV} {vx : V} {b : Bool} (rx : RR K s.h.length M H x vx) (hz : oIsNone x = some b) : decide (vx = .non) = b := by
  cases rx with
  | own _ _ => simp [oIsNone] at hz; subst hz; simp
  | pk _ _ => simp [oIsNone] at hz; subst hz; simp
  | val r => cases r <;> (simp [oIsNone] at hz; subst hz; simp)
end KW
/-! KwOps6: times, int, str, join, places, counts. -/
namespace KW
set_option exponentiation.threshold 2000
open PySem (Str Addr Value Program World Heap Operator CmpOp binaryOp compareOp PyData)
open PySem.Spec PyProof.Rows
open L2 (V Hp HO upd upd_same upd_ne upd_upd SqL SqT Rd RelV Mut TE TT TA TS WX PE PT PA PS PSs Cx Inv OpR UnR CallR MtR IxR SlR TruR VK EP rI0)

/-! ### times -/
def rStrT : L2.R2 := fun x y H Q => ∃ (i : Str) (j : Int), x = .str i ∧ y = .int j ∧ 0 ≤ j ∧ j ≤ 1000 ∧ i.length ≤ 1000 ∧ Q (.str (mst (rep j i.cps.toList))) H
theorem fold_app {α : Type} (x : Array α) : ∀ (n : Nat) (acc : Array α), ((List.replicate n x).foldl (· ++ ·) acc).toList = acc.toList ++ (List.replicate n x.toList).flatten
  | 0, acc => by simp
  | n + 1, acc => by
    rw [List.replicate_succ, List.foldl_cons, fold_app x n (acc ++ x), List.replicate_succ, List.flatten_cons]
    simp
theorem rep_len {α : Type} (n : Nat) (a : List α) : (List.replicate n a).flatten.length = n * a.length := PyProof.Rows.lm_len_rep_flat a n
theorem op_strT {X : Cx} : OpR X (binaryOp .Mult) rStrT := by
  intro pins s σ H x y v u Q I rx ry h
  obtain ⟨i, j, rfl, rfl, h0, h1, h2, q⟩ := h
  obtain ⟨t, rfl⟩ := rx
  obtain ⟨t2, rfl⟩ := ry
  refine PySem.P.mul_str ?_ (fun g _ z => ?_) (fun g _ => ?_) ?_
  · have a : ¬ j < -2 ^ 63 := by omega
    have b : ¬ j ≥ 2 ^ 63 := by omega
    rw [decide_eq_false a, decide_eq_false b]; rfl
  · have p : 1 ≤ j := by omega
    have : 9223372036854775 ≤ (2 ^ 63 - 1) / j := Int.le_ediv_of_mul_le (by omega) (by omega)
    omega
  · have : i.length * j.toNat ≤ 1000 * 1000 := Nat.mul_le_mul h2 (by omega)
    show decide (i.length * j.toNat > PySem.sizeLine) = false
    rw [sizeLine_is]
    exact decide_eq_false (by show ¬ _ > 16777216; omega)
  · by_cases g : j < 1
    · rw [if_pos g]
      obtain rfl : j = 0 := by omega
      refine ⟨by decide, ?_⟩
      exact ⟨.str _, H, I.tok _, ⟨_, rfl⟩, by
        have e : mst (rep 0 i.cps.toList) = Str.empty := by simp [rep, mst]; rfl
        rw [← e]; exact q⟩
    · rw [if_neg g]
      by_cases g2 : (j == 1 || i.length == 0) = true
      · rw [if_pos g2]
        refine ⟨.str _, H, I, ⟨t, rfl⟩, ?_⟩
        have e : mst (rep j i.cps.toList) = i := by
          rcases Bool.or_eq_true_iff.mp g2 with e | e
          · obtain rfl : j = 1 := by simpa using e
            simp [rep, mst]
          · have e : i.length = 0 := by simpa using e
            have e2 : i.cps.toList = [] := List.eq_nil_of_length_eq_zero (by rw [Array.length_toList]; exact e)
            rw [e2]
            have : (rep j ([] : T)) = [] := by simp [rep]
            rw [this]
            rw [← e2]; exact mst_eta i
        rw [← e]; exact q
      · rw [if_neg g2]
        refine ⟨?_, ?_⟩
        · have : ((List.replicate j.toNat i.cps).foldl (· ++ ·) #[]).size ≤ 1000000 := by
            rw [← Array.length_toList, fold_app]
            simp only [Array.toList_empty, List.nil_append]
            rw [rep_len, Array.length_toList]
            have := Nat.mul_le_mul (show j.toNat ≤ 1000 by omega) h2
            show j.toNat * i.length ≤ _
            omega
          have e := sizeLine_is
          show ((List.replicate j.toNat i.cps).foldl (· ++ ·) #[]).size ≤ PySem.sizeLine
          rw [e]
          exact Nat.le_trans this (by decide)
        · refine ⟨.str _, H, I.tok _, ⟨_, rfl⟩, ?_⟩
          have e : (⟨(List.replicate j.toNat i.cps).foldl (· ++ ·) #[]⟩ : Str) = mst (rep j i.cps.toList) := by
            have := fold_app i.cps j.toNat #[]
            simp only [Array.toList_empty, List.nil_append] at this
            show (⟨_⟩ : Str) = ⟨_⟩
            congr 1
            apply Array.toList_inj.mp
            rw [this]
            simp [rep]
          rw [e]; exact q
def rMul (K : Fr) : L2.R2 := fun x y H Q => L2.rI L2.CMul (fun i j => .int (i * j)) x y H Q ∨ (rStrT x y H Q ∨ (L2.rRepT K x y H Q ∨ L2.rRep x y H Q))
theorem op_mul {X : Cx} : OpR X (binaryOp .Mult) (rMul X.K) := L2.OpR.or L2.op_mul (L2.OpR.or op_strT (L2.OpR.or L2.op_repT L2.op_rep))
theorem rep_ok {j : Int} {a : T} (h : okT a) (h1 : a.length ≤ 1000) (h2 : j ≤ 1000) : okT (rep j a) := by
  refine ⟨?_, fun c hc => ?_⟩
  · unfold rep
    rw [rep_len]
    have := Nat.mul_le_mul (show j.toNat ≤ 1000 by omega) h1
    show _ ≤ 16777216
    omega
  · obtain ⟨l, h3, h4⟩ := List.mem_flatten.mp hc
    obtain ⟨_, rfl⟩ := List.mem_replicate.mp h3
    exact h.2 c h4
theorem rep_rel {K : Fr} {n : Nat} {M : MM} {H : Hp} {xs : List D} {vs : List V} (h : RDs K n M H xs vs) : ∀ k : Nat, RDs K n M H (List.replicate k xs).flatten (List.replicate k vs).flatten
  | 0 => .nil
  | k + 1 => by rw [List.replicate_succ, List.flatten_cons, List.replicate_succ, List.flatten_cons]; exact h.app (rep_rel h k)
theorem ok_mul {K : Fr} : Ok2 K .mul (rMul K) := by
  intro M H σ s x y vx vy z Q rt rx ry hz hq
  have hz : oMul s.h x y = some z := hz
  unfold oMul at hz
  split at hz
  · obtain ⟨g, hz⟩ := oif hz
    injection hz with hz; subst hz
    cases int_at rx; cases int_at ry
    exact .inl ⟨_, _, rfl, rfl, .inl g, give rt (.int _) hq⟩
  · obtain ⟨⟨g1, g2, g3⟩, hz⟩ := oif hz
    injection hz with hz; subst hz
    obtain ⟨rfl, ht⟩ := str_at rx
    cases int_at ry
    refine .inr (.inl ⟨_, _, rfl, rfl, g1, g3, by rw [mst_len]; exact g2, ?_⟩)
    rw [mst_cps]
    exact give rt (.str _ (rep_ok ht g2 g3)) hq
  · obtain ⟨⟨g1, g2, g3, g4⟩, hz⟩ := oif hz
    injection hz with hz; subst hz
    obtain ⟨a, vs, rfl, r1, r2⟩ := tup_at (x := .val .non) rx
    cases int_at ry
    have hl := RD.len_eq r2
    refine .inr (.inr (.inl ⟨a, _, vs, rfl, rfl, r1, ?_, g3, g4, by omega, ?_⟩))
    · intro e; rw [e] at hl; rename_i xs _
      rw [List.length_nil] at hl
      rw [List.eq_nil_of_length_eq_zero hl] at g1
      cases g1
    · exact give_tup rt (rep_rel r2 _) hq
  · obtain ⟨⟨g1, g2, g3⟩, hz⟩ := oif hz
    obtain ⟨rfl, g4⟩ := newLst_some hz
    cases int_at ry
    cases rx with
    | own hw hc =>
      cases hc with
      | lst h1 h2 =>
        have hl := RD.len_eq h2
        refine .inr (.inr (.inr ⟨_, _, _, rfl, rfl, h1, by omega, by omega, ?_, ?_⟩))
        · rw [sizeLine_is, ← hl]
          have := Nat.mul_le_mul g2 (show (_ : Int).toNat ≤ 1000 from Int.toNat_le.mpr g3)
          show _ ≤ 16777216
          omega
        · exact give_lst rt (rep_rel h2 _) hq
  · cases hz

/-! ### int, str -/
theorem dig_char : ∀ n : Nat, n < 10 → 48 + n = (Nat.digitChar n).toNat := by decide
theorem digs_is : ∀ (n f : Nat), n < f → digs f n = (Nat.toDigits 10 n).map Char.toNat := by
  intro n
  induction n using Nat.strongRecOn with
  | _ n ih =>
    intro f hf
    cases f with
    | zero => omega
    | succ f =>
      unfold digs
      by_cases h : n < 10
      · rw [if_pos h, Nat.toDigits_of_lt_base h, dig_char n h]; rfl
      · rw [if_neg h]
        have hm : n % 10 < 10 := Nat.mod_lt n (by decide)
        have t : Nat.toDigits 10 (n / 10) ++ Nat.toDigits 10 (n % 10) = Nat.toDigits 10 (10 * (n / 10) + n % 10) := Nat.toDigits_append_toDigits (by decide) (by omega) hm
        rw [Nat.div_add_mod] at t
        rw [← t, List.map_append, Nat.toDigits_of_lt_base hm, ih (n / 10) (by omega) f (by omega), dig_char _ hm]; rfl
theorem digs_len : ∀ (k f n : Nat), n < 10 ^ (k + 1) → (digs f n).length ≤ k + 1
  | _, 0, _, _ => Nat.zero_le _
  | k, f + 1, n, h => by
    unfold digs
    split
    · simp
    · rename_i g
      cases k with
      | zero => omega
      | succ k =>
        rw [List.length_append]
        have := digs_len k f (n / 10) (by rw [Nat.pow_succ] at h; omega)
        simp; omega
theorem digs_range : ∀ (f n : Nat), ∀ c ∈ digs f n, 48 ≤ c ∧ c ≤ 57
  | 0, _, c, h => by cases h
  | f + 1, n, c, h => by
    unfold digs at h
    split at h
    · simp at h; omega
    · rcases List.mem_append.mp h with h | h
      · exact digs_range f _ c h
      · simp at h; omega
theorem sst_list (x : String) : (Str.ofString x).cps.toList = x.toList.map Char.toNat := by rw [Str.ofString_eq_toList]
theorem itoa_is (i : Int) : ((toString i : String) : Str) = mst (itoa i) := by
  show Str.ofString (toString i) = _
  rw [← mst_eta (Str.ofString (toString i)), sst_list]
  congr 1
  unfold itoa
  cases i with
  | ofNat m =>
    rw [if_neg (by simp)]
    show (Nat.repr m).toList.map Char.toNat = _
    rw [Nat.toList_repr]
    exact (digs_is m (m + 1) (by omega)).symm
  | negSucc m =>
    rw [if_pos (Int.negSucc_lt_zero m)]
    show ("-" ++ Nat.repr (m + 1)).toList.map Char.toNat = _
    rw [String.toList_append, List.map_append, Nat.toList_repr]
    show 45 :: _ = _
    exact congrArg (45 :: ·) (digs_is (m + 1) (m + 2) (by omega)).symm
theorem itoa_ok {i : Int} (h : i.natAbs.log2 < 1920) : okT (itoa i) := by
  have hb : i.natAbs < 10 ^ (639 + 1) := by
    have h1 : i.natAbs < 2 ^ 1920 := by
      by_cases z : i.natAbs = 0
      · rw [z]; exact Nat.two_pow_pos _
      · exact Nat.lt_of_lt_of_le (Nat.lt_log2_self (n := i.natAbs)) (Nat.pow_le_pow_right (by decide) h)
    have h2 : (2 : Nat) ^ 1920 ≤ 10 ^ (639 + 1) := by decide +kernel
    exact Nat.lt_of_lt_of_le h1 h2
  have hl := digs_len 639 (i.natAbs + 1) i.natAbs hb
  unfold itoa okT
  split
  · refine ⟨by rw [List.length_cons]; show _ ≤ 16777216; omega, fun c hc => ?_⟩
    rcases List.mem_cons.mp hc with rfl | hc
    · decide
    · have := digs_range _ _ c hc; omega
  · exact ⟨by show _ ≤ 16777216; omega, fun c hc => by have := digs_range _ _ c hc; omega⟩
theorem ok_str {K : Fr} : Ok1 K .str (fun x H Q => ∃ i, [x] = [V.int i] ∧ i.natAbs.log2 < 1920 ∧ Q (.str (toString i)) H) := by
  intro M H σ s x vx z Q rt rx hz hq
  have hz : oStr x = some z := hz
  unfold oStr at hz
  split at hz
  · obtain ⟨g, hz⟩ := oif hz
    injection hz with hz; subst hz
    cases int_at rx
    refine ⟨_, rfl, g, ?_⟩
    rw [itoa_is]
    exact give rt (.str _ (itoa_ok g)) hq
  · cases hz
theorem atoN_is : ∀ (cs : List Nat) (a : Nat), atoN a cs = cs.foldl (fun acc c => acc * 10 + (c - 48)) a
  | [], _ => rfl
  | c :: r, a => by
    have e : 10 * a = a * 10 := Nat.mul_comm _ _
    show atoN (10 * a + (c - 48)) r = _
    rw [atoN_is r, e, List.foldl_cons]
theorem allDig {cs : T} (h : cs.all isDig = true) : PySem.NumText.AllDigits cs := fun c hc => by
  have := List.all_eq_true.mp h c hc
  unfold isDig at this
  simpa using this
theorem atoi_is {t : T} {i : Int} (h : atoi t = some i) : PySem.intText? (mst t) = some i ∧ t.length ≤ 640 := by
  unfold atoi at h
  split at h
  · rename_i r
    split at h
    · cases h
    · rename_i g
      injection h with h; subst h
      simp only [Bool.or_eq_true, not_or, Bool.not_eq_true, Bool.not_eq_false', decide_eq_false_iff_not] at g
      obtain ⟨⟨g1, g2⟩, g3⟩ := g
      have g4 : (45 :: r).length ≤ 640 := by omega
      refine ⟨?_, g4⟩
      have := PySem.intText_neg (x := mst (45 :: r)) (cs := r) (mst_cps _) (allDig (by simpa using g2)) (by intro e; subst e; simp at g1) (by rw [mst_len]; omega)
      rw [this]
      unfold PySem.NumText.digitsVal
      rw [atoN_is]
  · split at h
    · cases h
    · rename_i g
      injection h with h; subst h
      simp only [Bool.or_eq_true, not_or, Bool.not_eq_true, Bool.not_eq_false', decide_eq_false_iff_not] at g
      obtain ⟨⟨g1, g2⟩, g3⟩ := g
      have g4 : t.length ≤ 640 := by omega
      refine ⟨?_, g4⟩
      have := PySem.intText_digits (x := mst t) (by rw [mst_cps]; exact allDig (by simpa using g2)) (by rw [mst_cps]; intro e; subst e; simp at g1) (by rw [mst_len]; omega)
      rw [this, mst_cps]
      unfold PySem.NumText.digitsVal
      rw [atoN_is]
def rInt : V → Hp → VK → Prop := fun x H Q => ((∃ i, [x] = [V.int i] ∧ Q (.int i) H) ∨ ∃ k, [x] = [V.bl k] ∧ Q (.int (if k then 1 else 0)) H) ∨ ∃ a n, [x] = [V.str a] ∧ PySem.intText? a = some n ∧ a.length ≤ 640 ∧ Q (.int n) H
theorem ok_int {K : Fr} : Ok1 K .int rInt := by
  intro M H σ s x vx z Q rt rx hz hq
  have hz : oInt x = some z := hz
  unfold oInt at hz
  split at hz
  · injection hz with hz; subst hz
    cases bl_at rx
    exact .inl (.inr ⟨_, rfl, give rt (.int _) hq⟩)
  · injection hz with hz; subst hz
    cases int_at rx
    exact .inl (.inl ⟨_, rfl, give rt (.int _) hq⟩)
  · obtain ⟨i, h1, rfl⟩ := omap hz
    obtain ⟨rfl, ht⟩ := str_at rx
    obtain ⟨h2, h3⟩ := atoi_is h1
    exact .inr ⟨_, _, rfl, h2, by rw [mst_len]; exact h3, give rt (.int _) hq⟩
  · cases hz

/-! ### join -/
theorem joinT_is (a : T) : ∀ ts : List T, joinT a ts = TL.joinL a ts
  | [] => rfl
  | [_] => rfl
  | x :: y :: r => by
    unfold joinT TL.joinL
    rw [joinT_is a (y :: r)]
theorem join_is (a : T) (ts : List T) : PySem.Txt.join (mst a) (ts.map mst) = mst (joinT a ts) := by
  rw [joinT_is]
  exact SX.join_S a ts
theorem joinT_ok {a : T} (ha : okT a) : ∀ {ts : List T}, (∀ t ∈ ts, okT t) → ∀ c ∈ joinT a ts, c < 1114112
  | [], _, c, h => by cases h
  | [x], hx, c, h => (hx x List.mem_cons_self).2 c h
  | x :: y :: r, hx, c, h => by
    unfold joinT at h
    rcases List.mem_append.mp h with h | h
    · exact (hx x List.mem_cons_self).2 c h
    · rcases List.mem_append.mp h with h | h
      · exact ha.2 c h
      · exact joinT_ok ha (fun t ht => hx t (List.mem_cons_of_mem _ ht)) c h
def rJoin (K : Fr) : L2.R2 := fun x y H Q => ∃ a p, ∃ ys : List Str, x = .str a ∧ [y] = [V.ref p] ∧ (SqL K H p (ys.map V.str) ∨ SqT K H p (ys.map V.str)) ∧
    (ys.map (·.length)).sum + ys.length * a.length ≤ 16777216 ∧ Q (.str (PySem.Txt.join a ys)) H
theorem ok_join {K : Fr} : Ok2 K .join (rJoin K) := by
  intro M H σ s x y vx vy z Q rt rx ry hz hq
  have hz : oJoin s.h x y = some z := hz
  unfold oJoin at hz
  split at hz
  · obtain ⟨xs, h1, hz⟩ := obind hz
    obtain ⟨ts, h2, hz⟩ := obind hz
    obtain ⟨g, hz⟩ := oif hz
    injection hz with hz; subst hz
    obtain ⟨rfl, ht⟩ := str_at rx
    obtain ⟨p, vs, rfl, r1, r2⟩ := seq_at rt ry h1
    obtain ⟨rfl, hts⟩ := strs_at h2 r2
    obtain ⟨g, g5⟩ := Bool.and_eq_true_iff.mp g
    have g := of_decide_eq_true g
    refine ⟨_, p, _, rfl, rfl, r1, ?_, ?_⟩
    · rename_i a
      rw [List.map_map, List.length_map, mst_len]
      have e : ((fun x : Str => x.length) ∘ mst) = List.length := by funext u; exact mst_len u
      rw [e]
      exact g
    · rw [join_is]
      exact give rt (.str _ ⟨of_decide_eq_true g5, joinT_ok ht hts⟩) hq
  · cases hz
end KW
/-! KwMatch: when a term of the small language says what a Python text says. -/
namespace KW
open PySem (Str Addr Value Program World Heap Operator CmpOp Const Scope NameKind Pos)
abbrev Py := PySem.Expr
abbrev PyS := PySem.Stmt

def okTB (t : T) : Bool := decide (t.length ≤ sizeLine) && t.all fun c => decide (c < 1114112)
def visB (sc : Scope) (x : Str) : Bool := match sc.names.lookup x with
  | some .local => true
  | some .cell => true
  | some .free => true
  | _ => false
def glB (sc : Scope) (x : Str) : Bool := decide (sc.names.lookup x = some .globalImplicit)
def nameB (x : Str) : Bool := !(x == ("__debug__" : Str)) && !(x == ("__classdict__" : Str)) && !(x == ("__name__" : Str))
def noStarB : Py → Bool
  | .Starred _ _ => false
  | _ => true
def noSliceB : Py → Bool
  | .Slice _ _ _ _ => false
  | _ => true
def noSetB : Py → Bool
  | .Set _ _ _ => false
  | _ => true
/-- the base of an attribute: no call without arguments -/
def baseB : Py → Bool
  | .Call _ [] _ _ => false
  | _ => true
def constB (d : D) (c : Const) : Bool := match d, c with
  | .non, .none => true
  | .bl a, .bool b => a == b
  | .int i, .int j => decide (i = j)
  | .str t, .str x => decide (x = mst t) && okTB t
  | _, _ => false
def cmpB : CmpO → CmpOp → Bool
  | .eq, .Eq => true
  | .ne, .NotEq => true
  | .lt, .Lt => true
  | .le, .LtE => true
  | .gt, .Gt => true
  | .ge, .GtE => true
  | .isIn, .In => true
  | .notIn, .NotIn => true
  | _, _ => false
def op2B : Op2 → Operator → Bool
  | .add, .Add => true
  | .sub, .Sub => true
  | .mul, .Mult => true
  | .fdiv, .FloorDiv => true
  | .mod, .Mod => true
  | _, _ => false
/-- builtin functions of one argument -/
def fn1 : Op1 → Option String
  | .len => some "len" | .abs => some "abs" | .int => some "int" | .str => some "str" | .ord => some "ord" | .list => some "list" | .tuple => some "tuple"
  | .sorted => some "sorted" | .sum => some "sum" | .all => some "all" | .any => some "any" | .minL => some "min"
  | _ => none
/-- the tables that a match leans on: constants of the top -/
structure Tabs where
  gl : List (String × D)
  tb : List (String × List (T × D))
  ls : List (String × List T)
  fs : List String
  cs : List String
  ms : List (String × String)
  fl : List (String × String)
  xs : List String
mutual
def beqD : D → D → Bool
  | .non, .non => true
  | .bl a, .bl b => a == b
  | .int i, .int j => decide (i = j)
  | .str a, .str b => decide (a = b)
  | .tup xs, .tup ys => beqDs xs ys
  | .lst xs, .lst ys => beqDs xs ys
  | _, _ => false
def beqDs : List D → List D → Bool
  | [], [] => true
  | x :: xs, y :: ys => beqD x y && beqDs xs ys
  | _, _ => false
end
mutual
theorem beqD_eq : ∀ a b : D, beqD a b = true → a = b
  | .non, b, h => by cases b <;> simp [beqD] at h <;> rfl
  | .bl a, b, h => by cases b <;> simp [beqD] at h; rw [h]
  | .int a, b, h => by cases b <;> simp [beqD] at h; rw [h]
  | .str a, b, h => by cases b <;> simp [beqD] at h; rw [h]
  | .tup a, b, h => by cases b <;> simp [beqD] at h; rw [beqDs_eq _ _ h]
  | .lst a, b, h => by cases b <;> simp [beqD] at h; rw [beqDs_eq _ _ h]
  | .dct a, b, h => by cases b <;> simp [beqD] at h
  | .ref a, b, h => by cases b <;> simp [beqD] at h
  | .exc _ _, b, h => by cases b <;> simp [beqD] at h
theorem beqDs_eq : ∀ a b : List D, beqDs a b = true → a = b
  | [], b, h => by cases b <;> simp [beqDs] at h; rfl
  | x :: xs, b, h => by
    cases b with
    | nil => simp [beqDs] at h
    | cons y ys =>
      simp [beqDs] at h
      rw [beqD_eq _ _ h.1, beqDs_eq _ _ h.2]
end
def beqTs : List (T × D) → List (T × D) → Bool
  | [], [] => true
  | x :: xs, y :: ys => decide (x.1 = y.1) && beqD x.2 y.2 && beqTs xs ys
  | _, _ => false
theorem beqTs_eq : ∀ a b : List (T × D), beqTs a b = true → a = b
  | [], b, h => by cases b <;> simp [beqTs] at h; rfl
  | x :: xs, b, h => by
    cases b with
    | nil => simp [beqTs] at h
    | cons y ys =>
      simp [beqTs] at h
      obtain ⟨⟨h1, h2⟩, h3⟩ := h
      rw [beqTs_eq _ _ h3]
      obtain ⟨x1, x2⟩ := x
      obtain ⟨y1, y2⟩ := y
      simp at h1 h2
      rw [h1, beqD_eq _ _ h2]

/-- a name is stored here: a local or a cell -/
def locB (sc : Scope) (x : Str) : Bool := match sc.names.lookup x with
  | some .local => true
  | some .cell => true
  | _ => false
/-- the names of a comprehension, their places -/
def ownOf (N : List Str) (is : List Nat) : Option (List (Str × Nat)) := is.mapM fun i => (N[i]?).map fun x => (x, i)

/-! ### views of a Python text -/
def vName : Py → Option Str
  | .Name x _ => some x
  | _ => none
theorem vName_eq {p : Py} {x : Str} (h : vName p = some x) : ∃ q, p = .Name x q := by
  unfold vName at h
  split at h
  · injection h with h; subst h; exact ⟨_, rfl⟩
  · cases h
def vCst : Py → Option Const
  | .Constant c _ _ => some c
  | _ => none
theorem vCst_eq {p : Py} {c : Const} (h : vCst p = some c) : ∃ j q, p = .Constant c j q := by
  unfold vCst at h
  split at h
  · injection h with h; subst h; exact ⟨_, _, rfl⟩
  · cases h
/-- f(..), f a name of the top -/
def vFn (sc : Scope) : Py → Option (Str × List Py)
  | .Call (.Name x _) xs [] _ => if glB sc x && nameB x && xs.all noStarB then some (x, xs) else none
  | _ => none
theorem vFn_eq {sc : Scope} {p : Py} {x : Str} {xs : List Py} (h : vFn sc p = some (x, xs)) : ∃ q r, p = .Call (.Name x q) xs [] r ∧ glB sc x = true ∧ nameB x = true ∧ xs.all noStarB = true := by
  unfold vFn at h
  split at h
  · split at h
    · rename_i g
      injection h with h
      injection h with h1 h2
      subst h1 h2
      simp only [Bool.and_eq_true] at g
      exact ⟨_, _, rfl, g.1.1, g.1.2, g.2⟩
    · cases h
  · cases h
/-- o.m(..) -/
def vAt (p : Py) : Option (Py × Str × List Py) := match p with
  | .Call (.Attribute b m p1) xs [] p2 => if baseB b && decide (p1.endLine = p2.line) && decide (xs.length < 20) && xs.all noStarB then some (b, m, xs) else none
  | _ => none
theorem vAt_eq {p : Py} {b : Py} {m : Str} {xs : List Py} (h : vAt p = some (b, m, xs)) : ∃ p1 p2, p = .Call (.Attribute b m p1) xs [] p2 ∧ baseB b = true ∧ p1.endLine = p2.line ∧ xs.length < 20 ∧ xs.all noStarB = true := by
  unfold vAt at h
  split at h
  · split at h
    · rename_i g
      injection h with h
      injection h with h1 h2
      injection h2 with h2 h3
      subst h1 h2 h3
      simp only [Bool.and_eq_true, decide_eq_true_eq] at g
      exact ⟨_, _, rfl, g.1.1.1, g.1.1.2, g.1.2, g.2⟩
    · cases h
  · cases h
/-- a global name -/
def vGl (sc : Scope) (p : Py) : Option Str := match p with
  | .Name x _ => if glB sc x && nameB x then some x else none
  | _ => none
theorem vGl_eq {sc : Scope} {p : Py} {x : Str} (h : vGl sc p = some x) : ∃ q, p = .Name x q ∧ glB sc x = true ∧ nameB x = true := by
  unfold vGl at h
  split at h
  · split at h
    · rename_i g
      injection h with h
      subst h
      simp only [Bool.and_eq_true] at g
      exact ⟨_, rfl, g.1, g.2⟩
    · cases h
  · cases h
def vCmp : Py → Option (Py × CmpOp × Py)
  | .Compare a [o] [b] _ => if noSetB b then some (a, o, b) else none
  | _ => none
theorem vCmp_eq {p a b : Py} {o : CmpOp} (h : vCmp p = some (a, o, b)) : ∃ q, p = .Compare a [o] [b] q ∧ noSetB b = true := by
  unfold vCmp at h
  split at h
  · split at h
    · rename_i g
      injection h with h
      injection h with h1 h2
      injection h2 with h2 h3
      subst h1 h2 h3
      exact ⟨_, rfl, g⟩
    · cases h
  · cases h
def vSub : Py → Option (Py × Py)
  | .Subscript a b _ => if noSliceB b then some (a, b) else none
  | _ => none
theorem vSub_eq {p a b : Py} (h : vSub p = some (a, b)) : ∃ q, p = .Subscript a b q ∧ noSliceB b = true := by
  unfold vSub at h
  split at h
  · split at h
    · rename_i g
      injection h with h
      injection h with h1 h2
      subst h1 h2
      exact ⟨_, rfl, g⟩
    · cases h
  · cases h
def isM1 : Py → Bool
  | .UnaryOp .USub (.Constant (.int 1) _ _) _ => true
  | _ => false
/-- one operand -/
def v1 (sc : Scope) (o : Op1) (p : Py) : Option Py := match o with
  | .neg => match p with
    | .UnaryOp .USub b _ => some b
    | _ => none
  | .isNone => match vCmp p with
    | some (b, .Is, .Constant .none _ _) => some b
    | _ => none
  | .notNone => match vCmp p with
    | some (b, .IsNot, .Constant .none _ _) => some b
    | _ => none
  | .isFalse | .notFalse | .isTup | .minL | .sortedSet | .lenSet => none
  | .rev => match p with
    | .Subscript b (.Slice none none (some m) _) _ => if isM1 m then some b else none
    | _ => none
  | .copy => match vAt p with
    | some (b, m, []) => if decide (m = sst "copy") then some b else none
    | _ => none
  | .sortedKeys => match vFn sc p with
    | some (x, [b]) => if decide (x = sst "sorted") then (match vAt b with
      | some (c, m, []) => if decide (m = sst "keys") then some c else none
      | _ => none) else none
    | _ => none
  | .listKeys => match vFn sc p with
    | some (x, [b]) => if decide (x = sst "list") then (match vAt b with
      | some (c, m, []) => if decide (m = sst "keys") then some c else none
      | _ => none) else none
    | _ => none
  | o => match fn1 o with
    | some f => (match vFn sc p with
      | some (x, [b]) => if decide (x = sst f) then some b else none
      | _ => none)
    | none => none
def vBin (o : Op2) : Py → Option (Py × Py)
  | .BinOp c q d _ => if op2B o q then some (c, d) else none
  | _ => none
/-- two operands -/
def v2 (sc : Scope) (o : Op2) (p : Py) : Option (Py × Py) := match o with
  | .cmp o => match vCmp p with
    | some (a, q, b) => if cmpB o q then some (a, b) else none
    | none => none
  | .idx => vSub p
  | .slFrom => match p with
    | .Subscript c (.Slice (some d) none none _) _ => some (c, d)
    | _ => none
  | .slTo => match p with
    | .Subscript c (.Slice none (some d) none _) _ => some (c, d)
    | _ => none
  | .startswith => vm2 "startswith"
  | .join => vm2 "join"
  | .index => vm2 "index"
  | .count => vm2 "count"
  | .min2 => vf2 "min"
  | .max2 => vf2 "max"
  | o => vBin o p
where
  vm2 (n : String) : Option (Py × Py) := match vAt p with
    | some (b, m, [d]) => if decide (m = sst n) then some (b, d) else none
    | _ => none
  vf2 (n : String) : Option (Py × Py) := match vFn sc p with
    | some (x, [c, d]) => if decide (x = sst n) then some (c, d) else none
    | _ => none
/-- three operands -/
def v3 (o : Op3) (p : Py) : Option (Py × Py × Py) := match o with
  | .slBoth => match p with
    | .Subscript d (.Slice (some e) (some f) none _) _ => some (d, e, f)
    | _ => none
  | .dget => match vAt p with
    | some (b, m, [e, f]) => if decide (m = sst "get") then some (b, e, f) else none
    | _ => none
def vSeqs : Py → Option (Bool × List Py)
  | .Tuple xs _ _ => if decide (xs.length < 1000) && xs.all noStarB then some (true, xs) else none
  | .List xs _ => if decide (xs.length < 1000) && xs.all noStarB then some (false, xs) else none
  | _ => none
def vAttr : Py → Option (Py × Str)
  | .Attribute b g _ => if baseB b then some (b, g) else none
  | _ => none
def vBool (o : PySem.BoolOp) : Py → Option (Py × Py)
  | .BoolOp p (x :: y :: r) q => if decide (p = o) then some (x, .BoolOp p (y :: r) q) else none
  | _ => none
/-- and, or of one thing -/
def unB (o : PySem.BoolOp) : Py → Py
  | .BoolOp p [x] q => if p = o then x else .BoolOp p [x] q
  | e => e
def vNot : Py → Option Py
  | .UnaryOp .Not b _ => some b
  | _ => none
def vIf : Py → Option (Py × Py × Py)
  | .IfExp x y z _ => some (x, y, z)
  | _ => none
def vChain (o p : CmpO) : Py → Option (Py × Py × Py)
  | .Compare x [q, r] [y, z] _ => if cmpB o q && cmpB p r && noSetB z then some (x, y, z) else none
  | _ => none
def muB (o : Mu) (n : Nat) (m : Str) : Bool := match o, n with
  | .append, 1 => decide (m = sst "append")
  | .extend, 1 => decide (m = sst "extend")
  | .pop, 0 => decide (m = sst "pop")
  | .popI, 1 => decide (m = sst "pop")
  | .popK, 1 => decide (m = sst "pop")
  | .popD, 2 => decide (m = sst "pop")
  | .remove, 1 => decide (m = sst "remove")
  | .clear, 0 => decide (m = sst "clear")
  | _, _ => false
def vDct : Py → Option (List (Option Py) × List Py)
  | .Dict ks vs _ => if decide (ks.length < 16) then some (ks, vs) else none
  | _ => none
def vKs : List D → List (Option Py) → Bool
  | [], [] => true
  | d :: ds, some k :: ks => (match vCst k with
    | some c => constB d c
    | none => false) && vKs ds ks
  | _, _ => false
/-- x in NAME -/
def vIn (sc : Scope) (x : String) (p : Py) : Option Py := match vCmp p with
  | some (b, .In, c) => if decide (vGl sc c = some (sst x)) then some b else none
  | _ => none
def vGIdx (sc : Scope) (x : String) (p : Py) : Option Py := match vSub p with
  | some (c, b) => if decide (vGl sc c = some (sst x)) then some b else none
  | _ => none
def vGGet (sc : Scope) (x : String) (p : Py) : Option (Py × Py) := match vAt p with
  | some (c, m, [d, f]) => if decide (m = sst "get") && decide (vGl sc c = some (sst x)) then some (d, f) else none
  | _ => none
def vIsI (sc : Scope) (c : String) (p : Py) : Option Py := match vFn sc p with
  | some (x, [b, d]) => if decide (x = sst "isinstance") && decide (vGl sc d = some (sst c)) then some b else none
  | _ => none
/-- a written target -/
def tgtB (sc : Scope) (N : List Str) (is : List Nat) (t : Py) : Bool := match is, t with
  | [i], .Name x _ => decide (N[i]? = some x) && decide (sc.names.lookup x = some .local)
  | [i, j], .Tuple [.Name x _, .Name y _] _ _ => decide (N[i]? = some x) && decide (sc.names.lookup x = some .local) && (decide (N[j]? = some y) && decide (sc.names.lookup y = some .local)) && decide (i ≠ j)
  | _, _ => false
def blkB (sc : Scope) (N : List Str) (scope : Scope) (is : List Nat) (t : Py) : Bool := match ownOf N is with
  | some own => L2.blkC N sc scope own && tgtB (L2.relS scope sc) N is t
  | none => false
/-- a comprehension: its item, its walk, its tests, its scope -/
def vComp (sc : Scope) (N : List Str) (is : List Nat) (p : Py) : Option (Py × Py × List Py × Scope) := match p with
  | .ListComp b [⟨t, i, fs, a⟩] scope _ => if decide (a = 0) && noSetB i && blkB sc N scope is t then some (b, i, fs, L2.relS scope sc) else none
  | _ => none
def vRng (sc : Scope) (p : Py) : Option (List Py) := match vFn sc p with
  | some (x, xs) => if decide (x = sst "range") then some xs else none
  | none => none
def vEnum (sc : Scope) (p : Py) : Option Py := match vFn sc p with
  | some (x, [b]) => if decide (x = sst "enumerate") then some b else none
  | _ => none
def vKeys (n : String) (p : Py) : Option Py := match vAt p with
  | some (b, m, []) => if decide (m = sst n) then some b else none
  | _ => none

/-- a term that names a thing -/
def isPath : E → Bool
  | .var _ => true
  | .fld _ (.var _) _ => true
  | _ => false
/-- what is walked without a lock -/
def nk (it : It) : Bool := !isK it
def plainTB : Py → Bool
  | .List _ _ | .Dict _ _ _ | .Name _ _ | .Call _ _ _ _ | .ListComp _ _ _ _ | .Subscript _ _ _ | .Attribute _ _ _ | .BinOp _ _ _ _ | .Tuple _ _ _ | .Constant _ _ _ => true
  | _ => false
mutual
/-- e says what the text says: sc the scope, N the names by slot -/
def mE (G : Tabs) (sc : Scope) (N : List Str) : E → Py → Bool
  | .var i, p => match vName p with
    | some x => decide (N[i]? = some x) && visB sc x && nameB x
    | none => false
  | .cst d, p => match vCst p with
    | some c => constB d c
    | none => false
  | .glb x d, p => decide (vGl sc p = some (sst x)) && G.gl.any fun q => q.1 == x && beqD q.2 d
  | .p1 o a, p => match v1 sc o p with
    | some b => mE G sc N a b
    | none => false
  | .p2 o a b, p => match v2 sc o p with
    | some (c, d) => mE G sc N a c && mE G sc N b d
    | none => false
  | .p3 o a b c, p => match v3 o p with
    | some (d, e, f) => mE G sc N a d && mE G sc N b e && mE G sc N c f
    | none => false
  | .tup es, p => match vSeqs p with
    | some (true, xs) => mEs G sc N es xs
    | _ => false
  | .lst es, p => match vSeqs p with
    | some (false, xs) => mEs G sc N es xs
    | _ => false
  | .dct ks es, p => match vDct p with
    | some (kys, xs) => vKs ks kys && (ks.all fun d => (keyOf d).isSome) && decide (kys.length = xs.length) && mEs G sc N es xs
    | none => false
  | .fld cs e f, p => match vAttr p with
    | some (b, g) => decide (g = sst f) && (cs.all fun c => G.fl.contains (c, f)) && mE G sc N e b
    | none => false
  | .and a b, p => match vBool .And p with
    | some (x, y) => mE G sc N a x && mE G sc N b (unB .And y)
    | none => false
  | .or a b, p => match vBool .Or p with
    | some (x, y) => mE G sc N a x && mE G sc N b (unB .Or y)
    | none => false
  | .not a, p => match vNot p with
    | some b => mE G sc N a b
    | none => false
  | .ife c a b, p => match vIf p with
    | some (x, y, z) => mE G sc N c x && mE G sc N a y && mE G sc N b z
    | none => false
  | .chain o p a b c, q => match vChain o p q with
    | some (x, y, z) => mE G sc N a x && mE G sc N b y && mE G sc N c z
    | none => false
  | .call f es, p => match vFn sc p with
    | some (x, xs) => decide (x = sst f) && G.fs.contains f && mEs G sc N es xs
    | none => false
  | .new c es, p => match vFn sc p with
    | some (x, xs) => decide (x = sst c) && G.cs.contains c && mEs G sc N es xs
    | none => false
  | .meth c m e es, p => match vAt p with
    | some (b, g, xs) => decide (g = sst m) && G.ms.contains (c, m) && mE G sc N e b && mEs G sc N es xs
    | none => false
  | .mut o e es, p => match vAt p with
    | some (b, g, xs) => muB o es.length g && mE G sc N e b && mEs G sc N es xs
    | none => false
  | .box e, p => plainTB p && mE G sc N e p
  | .frz e, p => plainTB p && mE G sc N e p
  | .gIn x kvs e, p => match vIn sc x p with
    | some b => (G.tb.any fun q => q.1 == x && beqTs q.2 kvs) && mE G sc N e b
    | none => false
  | .gIdx x kvs e, p => match vGIdx sc x p with
    | some b => (G.tb.any fun q => q.1 == x && beqTs q.2 kvs) && mE G sc N e b
    | none => false
  | .gGet _ _ _ _, _ => false
  | .inL x ts e, p => match vIn sc x p with
    | some b => (G.ls.any fun q => q.1 == x && decide (q.2 = ts)) && mE G sc N e b
    | none => false
  | .isinst _ _, _ => false
  | .comp is it cs e, p => match vComp sc N is p with
    | some (b, i, fs, s2) => mI G sc N it i && mC G s2 N cs fs && mE G s2 N e b
    | none => false
def mEs (G : Tabs) (sc : Scope) (N : List Str) : List E → List Py → Bool
  | [], p => p.isEmpty
  | e :: es, p => match p with
    | x :: xs => mE G sc N e x && mEs G sc N es xs
    | [] => false
/-- the tests of a comprehension: at most one -/
def mC (G : Tabs) (sc : Scope) (N : List Str) : List E → List Py → Bool
  | [], p => p.isEmpty
  | e :: es, p => match p with
    | [x] => mE G sc N e x && es.isEmpty
    | _ => false
def mI (G : Tabs) (sc : Scope) (N : List Str) : It → Py → Bool
  | .rng1 e, p => match vRng sc p with
    | some [b] => mE G sc N e b
    | _ => false
  | .rng2 e f, p => match vRng sc p with
    | some [b, c] => mE G sc N e b && mE G sc N f c
    | _ => false
  | .rng3 _ _ _, _ => false
  | .keys e, p => match vKeys "keys" p with
    | some b => isPath e && mE G sc N e b
    | none => false
  | .vals _, _ => false
  | .enum _, _ => false
  | .seq e, p => mE G sc N e p
end
end KW
/-! KwExpr: the terms' readings. -/
namespace KW
open PySem (Str Addr Value Program World Heap Operator CmpOp binaryOp compareOp PyData Scope Const)
open PySem.Spec PyProof.Rows
open L2 (V Hp HO upd upd_same upd_ne upd_upd SqL SqT Rd RelV Mut TE TT TA TS WX PE PT PW PA PS PSs Cx Inv OpR UnR CallR MtR IxR SlR TruR VK EP rI0)
section
variable {X : Cx} {K : Fr} {W : WX} {C : CallF} {σ : L2.St} {H : Hp} {Q : VK}
/-- a reading is weakened -/
theorem _root_.L2.PE.imp {X : Cx} {e : Py} {t u : TE} (h : PE X e t) (k : ∀ σ H Q, u σ H Q → t σ H Q) : PE X e u := ⟨fun pins s σ H Q I q => h.run pins s σ H Q I (k σ H Q q)⟩
theorem _root_.L2.PT.imp {X : Cx} {e : Py} {t u : TT} (h : PT X e t) (k : ∀ σ H Q, u σ H Q → t σ H Q) : PT X e u := ⟨fun pins s σ H Q I q => h.run pins s σ H Q I (k σ H Q q)⟩
theorem _root_.L2.PW.imp {X : Cx} {e : Py} {t u : TT} (h : PW X e t) (k : ∀ σ H Q, u σ H Q → t σ H Q) : PW X e u := ⟨fun wh pins s σ H Q I q => h.run wh pins s σ H Q I (k σ H Q q)⟩
theorem _root_.L2.PA.imp {X : Cx} {e : List Py} {t u : TA} (h : PA X e t) (k : ∀ σ H Q, u σ H Q → t σ H Q) : PA X e u := ⟨fun pos pins s σ H Q I q => h.run pos pins s σ H Q I (k σ H Q q)⟩

/-! ### names, constants -/
theorem t_var {i : Nat} (h : tE K W C (.var i) σ H Q) : L2.tVar i σ H Q := by
  obtain ⟨M, s, rt, h⟩ := h
  simp only [evalE] at h
  cases e : s.σ[i]? with
  | none => rw [e] at h; exact h.2.elim
  | some o => cases o with
    | none => rw [e] at h; exact h.2.elim
    | some sv =>
      rw [e] at h
      obtain ⟨v, h1, h2⟩ := rt.sl i sv e
      refine ⟨v, h1, h.2 M H v .refl (fun _ => ⟨rfl, .refl⟩) rt ⟨?_, fun c z => (no_own_rv z).elim⟩⟩
      cases h2 with
      | val r => exact .val r
      | own r1 r2 => exact .pk r1 r2
theorem visB_vis {sc : Scope} {x : Str} (h : visB sc x = true) : L2.Vis sc x := by
  unfold visB at h
  split at h
  · rename_i e; exact .inl e
  · rename_i e; exact .inr (.inl e)
  · rename_i e; exact .inr (.inr e)
  · cases h
theorem nameB_ne {x : Str} (h : nameB x = true) : (x == ("__debug__" : Str)) = false ∧ (x == ("__classdict__" : Str)) = false ∧ x ≠ ("__name__" : Str) := by
  unfold nameB at h
  simp only [Bool.and_eq_true, Bool.not_eq_true'] at h
  exact ⟨h.1.1, h.1.2, by simpa using h.2⟩
theorem p_var {i : Nat} {x : Str} {p : PySem.Pos} (hN : X.N[i]? = some x) (hv : visB X.env.scope x = true) (hn : nameB x = true) : PE X (.Name x p) (tE K W C (.var i)) :=
  (L2.pe_var hN (visB_vis hv) (nameB_ne hn).1 (nameB_ne hn).2.1).imp fun _ _ _ h => t_var h
theorem t_val {d : D} {v : V} {M : MM} {s : S} {pu : Bool} (rt : RT K M H σ s) (h : OutR K W (relE K) M H σ s pu (.ok (.val d) s) Q) (r : RD K s.h.length M H d v) : Q v H :=
  h.2 M H v .refl (fun _ => ⟨rfl, .refl⟩) rt ⟨.val r, fun c z => by cases z⟩
theorem okTB_ok {t : T} (h : okTB t = true) : okT t := by
  obtain ⟨h1, h2⟩ := Bool.and_eq_true_iff.mp h
  exact ⟨of_decide_eq_true h1, fun c hc => of_decide_eq_true (List.all_eq_true.mp h2 c hc)⟩
theorem p_cst {d : D} {c : Const} {j : Nat} {p : PySem.Pos} (h : constB d c = true) : PE X (.Constant c j p) (tE K W C (.cst d)) := by
  unfold constB at h
  split at h
  · exact L2.pe_non.imp fun σ H Q ⟨M, s, rt, q⟩ => t_val rt q .non
  · rename_i a b
    obtain rfl : a = b := by simpa using h
    exact L2.pe_bl.imp fun σ H Q ⟨M, s, rt, q⟩ => t_val rt q (.bl _)
  · rename_i a b
    obtain rfl : a = b := by simpa using h
    exact L2.pe_int.imp fun σ H Q ⟨M, s, rt, q⟩ => t_val rt q (.int _)
  · rename_i t x
    obtain ⟨h1, h2⟩ := Bool.and_eq_true_iff.mp h
    obtain rfl := of_decide_eq_true h1
    exact L2.pe_str.imp fun σ H Q ⟨M, s, rt, q⟩ => t_val rt q (.str _ (okTB_ok h2))
  · cases h
theorem glB_gl {x : Str} (h : glB X.env.scope x = true) : L2.Gl X x := by
  unfold glB at h
  exact (of_decide_eq_true h : X.env.scope.names.lookup x = some .globalImplicit)
/-- a constant of the top -/
def GlobOk (K : Fr) (mg : Str → Option Value) (x : String) (d : D) : Prop := ∃ u v, mg (sst x) = some u ∧ RelV v u ∧ ∀ n M H, RD K n M H d v
theorem p_glb {x : String} {d : D} {p : PySem.Pos} (hg : glB X.env.scope (sst x) = true) (hn : nameB (sst x) = true) (ok : GlobOk K X.mg x d) : PE X (.Name (sst x) p) (tE K W C (.glb x d)) := by
  obtain ⟨u, v, h1, h2, h3⟩ := ok
  exact (L2.pe_glob (glB_gl hg) h1 h2 (nameB_ne hn).1).imp fun σ H Q ⟨M, s, rt, q⟩ => t_val rt q (h3 _ _ _)

/-! ### truth -/
theorem tru_at {M : MM} {s : S} {x : RV} {v : V} {b : Bool} (rt : RT K M H σ s) (r : RR K s.h.length M H x v) (h : truth s.h x = some b) : L2.TruV K v H b := by
  have lc : ∀ {xs : List D} {vs : List V}, RDs K s.h.length M H xs vs → (!xs.isEmpty) = !vs.isEmpty := fun r => by cases r <;> rfl
  cases r with
  | own hw hc => cases hc with
    | lst h1 h2 => cases h; exact .inl ⟨_, .inl (.inl h1), lc h2⟩
    | dct h1 h2 h3 h4 => cases h
  | pk hw hc => cases hc with
    | lst h1 h2 => cases h; exact .inl ⟨_, .inl (.inl h1), lc h2⟩
    | dct h1 h2 h3 h4 => cases h
  | val r => cases r with
    | non => cases h; rfl
    | bl b' => cases h; rfl
    | int i =>
      cases h
      show decide (i ≠ 0) = (i != 0)
      by_cases e : i = 0 <;> simp [e]
    | str t ht =>
      cases h
      refine ⟨by rw [mst_len]; exact ht.1, ?_⟩
      rw [mst_len]
      cases t with
      | nil => rfl
      | cons a r => simp; omega
    | tup h1 h2 => cases h; exact .inr (.inl ⟨_, h1, lc h2⟩)
    | lst h1 h2 h3 => cases h; exact .inl ⟨_, .inl h1, lc h3⟩
    | dct h1 h2 h3 h4 h5 => cases h
    | @ref i hi =>
      simp only [truth] at h
      cases q : s.h[i]? with
      | none => rw [q] at h; cases h
      | some c =>
        rw [q] at h
        have rc := rt.hp.cell i c q
        cases rc with
        | lst h1 h2 => cases h; exact .inl ⟨_, .inl (.inl h1), lc h2⟩
        | ins _ _ _ => cases h
        | dct h1 h2 h3 => cases h
theorem OutR.opt {α β : Type} {rel : Hp → MM → Hp → S → α → β → Prop} {M : MM} {s : S} {pu : Bool} {o : Option α} {Q : β → Hp → Prop} (h : OutR K W rel M H σ s pu (opt s o) Q) (rt : RT K M H σ s) : ∃ z, o = some z ∧ ∀ v, rel H M H s z v → Q v H := by
  cases o with
  | none => exact h.2.elim
  | some z => exact ⟨z, rfl, fun v r => h.2 M H v .refl (fun _ => ⟨rfl, .refl⟩) rt r⟩
/-- a test by a value -/
theorem t_truth {e : E} {Q : Bool → Hp → Prop} (h : tT K W C e σ H Q) : tE K W C e σ H fun v H' => ∃ k, L2.TruV K v H' k ∧ Q k H' := by
  obtain ⟨M, s, rt, h⟩ := h
  refine ⟨M, s, rt, h.bind anti_relB (fun z => z) fun x s1 M1 H1 v hx e1 p1 rt1 rl1 h1 => ?_⟩
  obtain ⟨z, ez, hz⟩ := (h1 (pure e) fun z => z).opt rt1
  exact ⟨z, tru_at rt1 rl1.1 ez, hz z rfl⟩
theorem p_test {e : E} {py : Py} (h : PE X py (tE X.K W C e)) (he : ∀ whole, PySem.isTrue py X.env whole = (do let v ← whole; PySem.standAt py.pos; PySem.holding [v] (PySem.truthy v))) : PT X py (tT X.K W C e) :=
  (L2.pt_truth h he).imp fun _ _ _ h => t_truth h
/-- an operation, as a test, whose value is a truth -/
theorem t_test {e : E} {Q : Bool → Hp → Prop} (hb : ∀ s x s', evalE C e s = .ok x s' → ∃ b, x = .val (.bl b)) (h : tT K W C e σ H Q) : tE K W C e σ H fun v H' => ∃ k, v = .bl k ∧ Q k H' := by
  obtain ⟨M, s, rt, h⟩ := h
  refine ⟨M, s, rt, h.bind anti_relB (fun z => z) fun x s1 M1 H1 v hx e1 p1 rt1 rl1 h1 => ?_⟩
  obtain ⟨z, ez, hz⟩ := (h1 (pure e) fun z => z).opt rt1
  obtain ⟨b, rfl⟩ := hb _ _ _ hx
  cases ez
  exact ⟨z, bl_at rl1.1, hz z rfl⟩
theorem tE_mono {e : E} {Q' : VK} (h : tE K W C e σ H Q) (k : ∀ v H, Q v H → Q' v H) : tE K W C e σ H Q' := by
  obtain ⟨M, s, rt, h⟩ := h
  refine ⟨M, s, rt, h.1, ?_⟩
  cases q : evalE C e s with
  | ok x s' => rw [q] at h; exact fun M' H' v a b c d => k _ _ (h.2 M' H' v a b c d)
  | raise x s' => rw [q] at h; exact h.2
  | stuck => rw [q] at h; exact h.2
theorem opt_ok {α : Type} {s s' : S} {o : Option α} {a : α} (h : opt s o = .ok a s') : o = some a ∧ s' = s := by
  cases o with
  | none => cases h
  | some b => cases h; exact ⟨rfl, rfl⟩
theorem bind_is {α β : Type} {r : R α} {f : α → S → R β} {b : β} {s' : S} (h : r.bind f = .ok b s') : ∃ a s1, r = .ok a s1 ∧ f a s1 = .ok b s' := by
  cases r with
  | ok a s1 => exact ⟨a, s1, rfl, h⟩
  | raise _ _ => cases h
  | stuck => cases h
theorem cmp_bl {o : CmpO} {a b : E} (s : S) (x : RV) (s' : S) (h : evalE C (.p2 (.cmp o) a b) s = .ok x s') : ∃ k, x = .val (.bl k) := by
  simp only [evalE] at h
  obtain ⟨u, s1, _, h⟩ := bind_is h
  by_cases g : ((isPk u && !pure b) || !recv2 s1.h (Op2.cmp o) u) = true
  · rw [if_pos g] at h; cases h
  rw [if_neg g] at h
  obtain ⟨v, s2, _, h⟩ := bind_is h
  obtain ⟨h1, _⟩ := opt_ok h
  obtain ⟨k, _, rfl⟩ := omap h1
  exact ⟨k, rfl⟩

/-! ### and, or, not, if -/
theorem t_or {a b : E} (h : tE K W C (.or a b) σ H Q) : L2.tOrT K (tE K W C a) (tE K W C b) σ H Q := by
  obtain ⟨M, s, rt, h⟩ := h
  simp only [evalE, pure] at h
  refine ⟨M, s, rt, fun z => (Bool.and_eq_true_iff.mp (h.1 z)).1, ?_⟩
  cases q : evalE C a s with
  | stuck => rw [q] at h; exact h.2
  | raise x s1 => rw [q] at h; exact h.2
  | ok x s1 =>
    rw [q, bind_ok] at h
    intro M1 H1 v e1 p1 rt1 rl1
    cases e : truth s1.h x with
    | none => rw [e] at h; exact h.2.elim
    | some k =>
      rw [e] at h
      refine ⟨k, tru_at rt1 rl1.1 e, ?_⟩
      cases k with
      | true => exact L2.iteT (h.2 M1 H1 v e1 (fun z => p1 (Bool.and_eq_true_iff.mp z).1) rt1 rl1)
      | false => exact L2.iteF ⟨M1, s1, rt1, h.later anti_relE e1 (fun z => p1 (Bool.and_eq_true_iff.mp z).1) fun z => (Bool.and_eq_true_iff.mp z).2⟩
theorem t_and {a b : E} (h : tE K W C (.and a b) σ H Q) : L2.tAndT K (tE K W C a) (tE K W C b) σ H Q := by
  obtain ⟨M, s, rt, h⟩ := h
  simp only [evalE, pure] at h
  refine ⟨M, s, rt, fun z => (Bool.and_eq_true_iff.mp (h.1 z)).1, ?_⟩
  cases q : evalE C a s with
  | stuck => rw [q] at h; exact h.2
  | raise x s1 => rw [q] at h; exact h.2
  | ok x s1 =>
    rw [q, bind_ok] at h
    intro M1 H1 v e1 p1 rt1 rl1
    cases e : truth s1.h x with
    | none => rw [e] at h; exact h.2.elim
    | some k =>
      rw [e] at h
      refine ⟨k, tru_at rt1 rl1.1 e, ?_⟩
      cases k with
      | false => exact L2.iteF (h.2 M1 H1 v e1 (fun z => p1 (Bool.and_eq_true_iff.mp z).1) rt1 rl1)
      | true => exact L2.iteT ⟨M1, s1, rt1, h.later anti_relE e1 (fun z => p1 (Bool.and_eq_true_iff.mp z).1) fun z => (Bool.and_eq_true_iff.mp z).2⟩
theorem t_not {a : E} (h : tE K W C (.not a) σ H Q) : L2.tNotT K (tE K W C a) σ H Q := by
  obtain ⟨M, s, rt, h⟩ := h
  refine ⟨M, s, rt, ?_⟩
  simp only [evalE, pure] at h
  refine h.bind anti_relE (fun z => z) fun x s1 M1 H1 v hx e1 p1 rt1 rl1 h1 => ?_
  obtain ⟨z, ez, hz⟩ := (h1 (pure a) fun z => z).op rt1
  obtain ⟨k, ek, rfl⟩ := omap ez
  exact ⟨k, tru_at rt1 rl1.1 ek, hz M1 H1 _ .refl rt1 (.val (.bl _)) fun c z => by cases z⟩
theorem t_ife {c a b : E} (h : tE K W C (.ife c a b) σ H Q) : L2.tIf (tT K W C c) (tE K W C a) (tE K W C b) σ H Q := by
  obtain ⟨M, s, rt, h⟩ := h
  refine ⟨M, s, rt, ?_⟩
  simp only [evalE, pure] at h
  refine h.bind (rel1 := relB) anti_relE (fun z => (Bool.and_eq_true_iff.mp (Bool.and_eq_true_iff.mp z).1).1) fun x s1 M1 H1 v hx e1 p1 rt1 rl1 h1 => ?_
  cases rl1
  cases x with
  | true => exact L2.iteT ⟨M1, s1, rt1, h1 (pure a) fun z => (Bool.and_eq_true_iff.mp (Bool.and_eq_true_iff.mp z).1).2⟩
  | false => exact L2.iteF ⟨M1, s1, rt1, h1 (pure b) fun z => (Bool.and_eq_true_iff.mp z).2⟩
/-- as tests -/
theorem tt_and {a b : E} {Q : Bool → Hp → Prop} (h : tT K W C (.and a b) σ H Q) : L2.tAnd (tT K W C a) (tT K W C b) σ H Q := by
  obtain ⟨M, s, rt, h⟩ := h
  simp only [evalE, pure, isTruth] at h
  refine ⟨M, s, rt, fun z => (Bool.and_eq_true_iff.mp (h.1 z)).1, ?_⟩
  simp only [isTruth]
  cases q : evalE C a s with
  | stuck => rw [q] at h; exact h.2
  | raise x s1 => rw [q] at h; exact h.2
  | ok x s1 =>
    rw [q, bind_ok] at h
    rw [bind_ok]
    cases e : truth s1.h x with
    | none => rw [e] at h; exact h.2.elim
    | some k =>
      rw [e] at h
      intro M1 H1 v e1 p1 rt1 rl1
      cases rl1
      cases k with
      | true => exact ⟨M1, s1, rt1, OutR.later anti_relB h e1 (fun z => p1 (Bool.and_eq_true_iff.mp z).1) fun z => (Bool.and_eq_true_iff.mp z).2⟩
      | false =>
        simp only [bind_ok, e] at h
        exact h.2 M1 H1 false e1 (fun z => p1 (Bool.and_eq_true_iff.mp z).1) rt1 rfl
theorem tt_or {a b : E} {Q : Bool → Hp → Prop} (h : tT K W C (.or a b) σ H Q) : L2.tOr (tT K W C a) (tT K W C b) σ H Q := by
  obtain ⟨M, s, rt, h⟩ := h
  simp only [evalE, pure, isTruth] at h
  refine ⟨M, s, rt, fun z => (Bool.and_eq_true_iff.mp (h.1 z)).1, ?_⟩
  simp only [isTruth]
  cases q : evalE C a s with
  | stuck => rw [q] at h; exact h.2
  | raise x s1 => rw [q] at h; exact h.2
  | ok x s1 =>
    rw [q, bind_ok] at h
    rw [bind_ok]
    cases e : truth s1.h x with
    | none => rw [e] at h; exact h.2.elim
    | some k =>
      rw [e] at h
      intro M1 H1 v e1 p1 rt1 rl1
      cases rl1
      cases k with
      | false => exact ⟨M1, s1, rt1, OutR.later anti_relB h e1 (fun z => p1 (Bool.and_eq_true_iff.mp z).1) fun z => (Bool.and_eq_true_iff.mp z).2⟩
      | true =>
        simp only [bind_ok, e] at h
        exact h.2 M1 H1 true e1 (fun z => p1 (Bool.and_eq_true_iff.mp z).1) rt1 rfl
theorem tt_not {a : E} {Q : Bool → Hp → Prop} (h : tT K W C (.not a) σ H Q) : L2.tNot (tT K W C a) σ H Q := by
  obtain ⟨M, s, rt, h⟩ := h
  simp only [evalE, pure, isTruth] at h
  refine ⟨M, s, rt, fun z => h.1 z, ?_⟩
  simp only [isTruth]
  cases q : evalE C a s with
  | stuck => rw [q] at h; exact h.2
  | raise x s1 => rw [q] at h; exact h.2
  | ok x s1 =>
    rw [q] at h
    simp only [bind_ok] at h ⊢
    cases e : truth s1.h x with
    | none => rw [e] at h; exact h.2.elim
    | some k =>
      rw [e] at h
      intro M1 H1 v e1 p1 rt1 rl1
      cases rl1
      exact h.2 M1 H1 (!k) e1 p1 rt1 rfl
end
end KW
/-! KwCall: a call of a def. -/
namespace KW
open PySem (Str Addr Value Program World Heap Operator CmpOp binaryOp compareOp PyData Scope Const)
open PySem.Spec PyProof.Rows
open L2 (V Hp HO upd upd_same upd_ne upd_upd SqL SqT Rd RelV Mut TE TT TA TS WX PE PT PW PA PS PSs Cx Inv OpR UnR CallR MtR IxR SlR TruR VK EP XK rI0)

/-! ### labels -/
/-- as a callee sees it -/
def MM.call (M : MM) : MM := { M with who := fun a => if isLoc (M.who a) = true then some .oth else M.who a }
/-- behind the call -/
def MM.back (M M' : MM) : MM := { M' with who := fun a => if isLoc (M.who a) = true then M.who a else M'.who a }
def noSlot (M : MM) : Prop := ∀ a j, M.who a ≠ some (.pl (.slot j))
def noLoc (M : MM) : Prop := ∀ a, isLoc (M.who a) = false
section
variable {K : Fr} {M M' : MM} {H H' : Hp} {σ : L2.St} {s : S} {n n' : Nat} {h : List Cell}
theorem call_who {a : Addr} (e : isLoc (M.who a) = false) : M.call.who a = M.who a := by simp [MM.call, e]
theorem call_loc {a : Addr} (e : isLoc (M.who a) = true) : M.call.who a = some .oth := by simp [MM.call, e]
theorem back_loc {a : Addr} (e : isLoc (M.who a) = true) : (M.back M').who a = M.who a := by simp [MM.back, e]
theorem back_who {a : Addr} (e : isLoc (M.who a) = false) : (M.back M').who a = M'.who a := by simp [MM.back, e]
theorem call_none {a : Addr} : M.call.who a = none ↔ M.who a = none := by
  constructor
  · intro e
    cases q : isLoc (M.who a) with
    | true => rw [call_loc q] at e; cases e
    | false => rw [call_who q] at e; exact e
  · intro e
    rw [call_who (by rw [e]; rfl)]; exact e
theorem call_pl {a : Addr} {l : Lb} (e : M.call.who a = some l) (h : l ≠ .oth) : M.who a = some l := by
  cases q : isLoc (M.who a) with
  | true => rw [call_loc q] at e; injection e with e; exact absurd e.symm h
  | false => rw [call_who q] at e; exact e
theorem of_pl {a : Addr} {l : Lb} (e : M.who a = some l) (h : isLoc (some l) = false) : M.call.who a = some l := by
  rw [call_who (by rw [e]; exact h)]; exact e
/-- one state under other labels: what is nobody's stays so, what lies at heap places too -/
theorem RH.relab {h : List Cell} (r : RH K M H h) (el : M'.loc = M.loc) (wf : ∀ a l, M'.who a = some l → Mx M'.lk a (H a)) (uq : ∀ a b l, l ≠ .tmp → l ≠ .oth → M'.who a = some l → M'.who b = some l → a = b)
    (hn : ∀ a, M.who a = none → H a ≠ none → M'.who a = none) (hp : ∀ a l, M.who a = some l → isLoc (some l) = false → l ≠ .oth → M'.who a = some l) : RH K M' H h := by
  have kp : Keep h.length M H h.length M' H := ⟨r.wf, fun a o q z => ⟨q, hn a z (by rw [q]; exact fun e => by cases e)⟩, fun i _ => by rw [el], Nat.le_refl _⟩
  refine ⟨wf, fun i hi => by rw [el]; exact hp _ _ (r.lb i hi) rfl (by intro z; cases z), uq, fun i c hc => ?_⟩
  refine (r.cell i c hc).mono kp (List.getElem?_eq_some_iff.mp hc).1 rfl fun p hpp a ha => ⟨hp a _ ha ?_ (by intro z; cases z), rfl⟩
  rcases hpp with ⟨f, rfl⟩ | ⟨k, rfl⟩ <;> rfl
theorem RH.call {h : List Cell} (r : RH K M H h) : RH K M.call H h ∧ noLoc M.call := by
  constructor
  · refine r.relab rfl (fun a l e => ?_) (fun a b l h1 h2 ea eb => ?_) (fun a e _ => call_none.mpr e) fun a l e h _ => of_pl e h
    · cases q : isLoc (M.who a) with
      | true =>
        cases z : M.who a with
        | none => rw [z] at q; cases q
        | some l' => exact r.wf a l' z
      | false => rw [call_who q] at e; exact r.wf a l e
    · exact r.uq a b l h1 h2 (call_pl ea h2) (call_pl eb h2)
  · intro a
    cases q : isLoc (M.who a) with
    | true => rw [call_loc q]; rfl
    | false => rw [call_who q]; exact q
theorem keep_call {n : Nat} (wf : ∀ a l, M.who a = some l → Mx M.lk a (H a)) : Keep n M H n M.call H := ⟨wf, fun a o q z => ⟨q, call_none.mpr z⟩, fun _ _ => rfl, Nat.le_refl _⟩
theorem keep_back {n : Nat} (wf : ∀ a l, M'.who a = some l → Mx M'.lk a (H' a)) (ho : ∀ a, isLoc (M.who a) = true → M'.who a = some .oth) : Keep n M' H' n (M.back M') H' := ⟨wf, fun a o q z => ⟨q, by
    cases e : isLoc (M.who a) with
    | true => rw [ho a e] at z; cases z
    | false => rw [back_who e]; exact z⟩, fun _ _ => rfl, Nat.le_refl _⟩
/-- behind a call -/
theorem RT.back {h' : List Cell} (r : RT K M H σ s) (e : Ext s.h.length M.call H h'.length M' H') (r' : RH K M' H' h') (ns : noSlot M') :
    RT K (M.back M') H' σ ⟨s.σ, h'⟩ ∧ Ext s.h.length M H h'.length (M.back M') H' ∧ Keep h'.length M' H' h'.length (M.back M') H' := by
  have loc : ∀ a, isLoc (M.who a) = true → M'.who a = some .oth ∧ H' a = H a := fun a q => by
    cases z : M.who a with
    | none => rw [z] at q; cases q
    | some l =>
      have mu := r.hp.wf a l z
      cases y : H a with
      | none => rw [y] at mu; exact mu.no.elim
      | some o =>
        obtain ⟨h1, h2⟩ := e.keep a o y (by rw [call_loc q]; exact .inr (.inr rfl))
        exact ⟨by rw [h2, call_loc q], h1⟩
  have kb : Keep h'.length M' H' h'.length (M.back M') H' := keep_back r'.wf fun a q => (loc a q).1
  have hp : RH K (M.back M') H' h' := by
    refine r'.relab rfl (fun a l q => ?_) (fun a b l h1 h2 ea eb => ?_) (fun a q _ => ?_) fun a l q h1 h2 => ?_
    · cases z : isLoc (M.who a) with
      | true => rw [back_loc z] at q; rw [(loc a z).2]; show Mx M'.lk _ _; rw [e.lk]; exact r.hp.wf a l q
      | false => rw [back_who z] at q; exact r'.wf a l q
    · cases za : isLoc (M.who a) with
      | true =>
        rw [back_loc za] at ea
        cases zb : isLoc (M.who b) with
        | true => rw [back_loc zb] at eb; exact r.hp.uq a b l h1 h2 ea eb
        | false =>
          rw [back_who zb] at eb
          rw [ea] at za
          cases l with
          | pl p => cases p with
            | slot j => exact absurd eb (ns b j)
            | fld _ _ => cases za
            | ent _ _ => cases za
          | cell _ => cases za
          | tmp => exact absurd rfl h1
          | oth => exact absurd rfl h2
      | false =>
        rw [back_who za] at ea
        cases zb : isLoc (M.who b) with
        | true =>
          rw [back_loc zb] at eb
          rw [eb] at zb
          cases l with
          | pl p => cases p with
            | slot j => exact absurd ea (ns a j)
            | fld _ _ => cases zb
            | ent _ _ => cases zb
          | cell _ => cases zb
          | tmp => exact absurd rfl h1
          | oth => exact absurd rfl h2
        | false => rw [back_who zb] at eb; exact r'.uq a b l h1 h2 ea eb
    · cases z : isLoc (M.who a) with
      | true => rw [(loc a z).1] at q; cases q
      | false => rw [back_who z]; exact q
    · cases z : isLoc (M.who a) with
      | true => rw [(loc a z).1] at q; injection q with q; exact absurd q.symm h2
      | false => rw [back_who z]; exact q
  have ex : Ext s.h.length M H h'.length (M.back M') H' := by
    refine ⟨fun a o q p => ?_, e.dom, e.loc, e.le, fun a h => ?_, e.lk⟩
    rotate_left
    · cases z : isLoc (M.who a) with
      | true => exact .inl rfl
      | false =>
        rw [back_who z] at h
        rcases e.nl a h with k | k
        · rw [call_who z, z] at k; cases k
        · exact .inr k
    cases z : isLoc (M.who a) with
    | true => rw [back_loc z]; exact ⟨(loc a z).2.trans q, rfl⟩
    | false =>
      rw [back_who z]
      obtain ⟨h1, h2⟩ := e.keep a o q (by rw [call_who z]; exact p)
      exact ⟨h1, h2.trans (call_who z)⟩
  refine ⟨⟨hp, r.len, fun j sv q => ?_⟩, ex, kb⟩
  obtain ⟨v, h1, h2⟩ := r.sl j sv q
  refine ⟨v, h1, h2.mono (ex.kept r.hp.wf) fun a ha => ?_⟩
  have z : isLoc (M.who a) = true := by rw [ha]; rfl
  exact ⟨by rw [back_loc z]; exact ha, (loc a z).2⟩
theorem RDs.keep (k : Keep n M H n' M' H') {xs : List D} {vs : List V} (r : RDs K n M H xs vs) : RDs K n' M' H' xs vs := r.mono k
theorem RXs.mono (k : Keep n M H n' M' H') : ∀ {fs : List (String × D)} {gs : List (Str × V)}, RXs K n M H fs gs → RXs K n' M' H' fs gs
  | _, _, .nil => .nil
  | _, _, .cons a b => .cons (a.mono k) (RXs.mono k b)
end

/-! ### what a def promises -/
def spOf (K : Fr) (C : CallF) (f : String) : L2.Sp := fun vs H Q E => ∃ M ds h, M.lk = none ∧ RH K M H h ∧ noLoc M ∧ RDs K h.length M H ds vs ∧ match C f ds h with
  | .ok x s' => ∀ M' H' v, Ext h.length M H s'.h.length M' H' → RH K M' H' s'.h → noSlot M' → RR K s'.h.length M' H' x v → isPk x = false → Fresh H x v → Q v H'
  | .raise x s' => ∀ M' H' cls d, Ext h.length M H s'.h.length M' H' → RH K M' H' s'.h → noSlot M' → RX K s'.h.length M' H' x cls d → E cls d H'
  | .stuck => False

section
variable {K : Fr} {W : WX} {C : CallF} {σ : L2.St} {H : Hp} {Q : VK}
/-- a call, the arguments at hand -/
theorem sp_call {M : MM} {s : S} {pu : Bool} {f : String} {ds : List D} {vs : List V} (rt : RT K M H σ s) (rs : RDs K s.h.length M H ds vs)
    (h : OutR K W (relE K) M H σ s pu (back s.σ (C f ds s.h)) Q) (hpu : pu = false) : spOf K C f vs H Q (L2.WE W σ) := by
  obtain ⟨r1, r2⟩ := rt.hp.call
  have hlk : M.lk = none := by
    cases z : M.lk with
    | none => rfl
    | some b => have := h.1 (by rw [z]; intro q; cases q); rw [hpu] at this; cases this
  have h := h.2
  refine ⟨M.call, ds, s.h, hlk, r1, r2, rs.mono (keep_call rt.hp.wf), ?_⟩
  cases q : C f ds s.h with
  | stuck => rw [q] at h; exact h
  | ok x s' =>
    rw [q] at h
    intro M' H' v e r' ns rr pk fr
    obtain ⟨t1, t2, t3⟩ := rt.back e r' ns
    refine h (M.back M') H' v t2 (fun z => by rw [hpu] at z; cases z) t1 ⟨?_, fr⟩
    cases rr with
    | val rd => exact .val (rd.mono t3)
    | @own c a hw hc =>
      have ha : H a = none := fr c rfl a rfl
      have z : isLoc (M.who a) = false := by rw [rt.hp.nobody ha]; rfl
      exact .own (by rw [back_who z]; exact hw) (hc.mono t3 rfl)
    | pk _ _ => cases pk
  | raise x s' =>
    rw [q] at h
    intro M' H' cls d e r' ns rx
    obtain ⟨t1, t2, t3⟩ := rt.back e r' ns
    refine h (M.back M') H' cls d t2 t1 ⟨rx.1, ?_⟩
    rcases rx.2 with e | ⟨a, gs, e1, e2, e3⟩
    · exact .inl e
    · exact .inr ⟨a, gs, e1, e2, e3.mono t3⟩
end

/-! ### handing on -/
section
variable {K : Fr} {M : MM} {H : Hp} {σ : L2.St} {s : S} {n : Nat}
/-- a new thing is let be for good -/
theorem RT.freeze {a : Addr} (r : RT K M H σ s) (ha : M.who a = some .tmp) : RT K (M.set a none) H σ s ∧ Keep s.h.length M H s.h.length (M.set a none) H := by
  have ne : ∀ b l, M.who b = some l → l ≠ .tmp → b ≠ a := fun b l q h z => by rw [z, ha] at q; injection q with q; exact h q.symm
  have kp : Keep s.h.length M H s.h.length (M.set a none) H := ⟨r.hp.wf, fun b o q z => ⟨q, by
    rw [MM.set_ne (fun e => by rw [e, ha] at z; cases z)]; exact z⟩, fun _ _ => rfl, Nat.le_refl _⟩
  refine ⟨⟨?_, r.len, fun j sv q => ?_⟩, kp⟩
  · refine r.hp.relab rfl (fun b l q => ?_) (fun b c l h1 h2 eb ec => ?_) (fun b q hb => (kp.k b _ (Option.ne_none_iff_exists'.mp hb).choose_spec q).2) fun b l q h1 h2 => ?_
    · by_cases z : b = a
      · subst z; rw [MM.set_same] at q; cases q
      · rw [MM.set_ne z] at q; exact r.hp.wf b l q
    · by_cases zb : b = a
      · subst zb; rw [MM.set_same] at eb; cases eb
      · by_cases zc : c = a
        · subst zc; rw [MM.set_same] at ec; cases ec
        · rw [MM.set_ne zb] at eb; rw [MM.set_ne zc] at ec; exact r.hp.uq b c l h1 h2 eb ec
    · rw [MM.set_ne (ne b l q (by intro z; rw [z] at h1; cases h1))]; exact q
  · obtain ⟨v, h1, h2⟩ := r.sl j sv q
    exact ⟨v, h1, h2.mono kp fun b hb => ⟨by rw [MM.set_ne (ne b _ hb (by intro z; cases z))]; exact hb, rfl⟩⟩
theorem RC.fz {c : Cont} {a : Addr} (h : RC K n M H c a) (k : Keep n M H n (M.set a none) H) : RD K n (M.set a none) H c.fz (.ref a) := by
  cases h with
  | lst h hs => exact .lst (.inl h) MM.set_same (hs.mono k)
  | dct h hk hn hs => exact .dct h MM.set_same hk hn (hs.mono k)
end
section
variable {K : Fr} {W : WX} {C : CallF} {σ : L2.St} {H : Hp} {Q : VK}
theorem t_D {e : E} (h : tD K W C e σ H Q) : tE K W C e σ H Q := by
  obtain ⟨M, s, rt, h⟩ := h
  refine ⟨M, s, rt, h.1, ?_⟩
  unfold exports at h
  cases q : evalE C e s with
  | stuck => rw [q] at h; exact h.2
  | raise x s1 => rw [q] at h; exact h.2
  | ok x s1 =>
    rw [q, bind_ok] at h
    intro M1 H1 v e1 p1 rt1 rl1
    cases x with
    | val d =>
      cases rl1.1 with
      | val r => exact h.2 M1 H1 v e1 p1 rt1 r
    | pk p c => exact h.2.elim
    | own c =>
      obtain ⟨rr, fr⟩ := rl1
      cases rr with
      | @own _ a hw hc =>
        have ha : H a = none := fr c rfl a rfl
        obtain ⟨t1, t2⟩ := rt1.freeze hw
        have ne : ∀ b o, H b = some o → b ≠ a := fun b o q z => by rw [z, ha] at q; cases q
        refine h.2 (M1.set a none) H1 (.ref a) ⟨fun b o q p => ?_, e1.dom, e1.loc, e1.le, nl_set e1.nl, e1.lk⟩ (fun z => ?_) t1 (hc.fz t2)
        · obtain ⟨h1, h2⟩ := e1.keep b o q p
          exact ⟨h1, by rw [MM.set_ne (ne b o q)]; exact h2⟩
        · obtain ⟨g1, g2⟩ := p1 z
          refine ⟨g1, fun b o q => ?_, g2.loc, g2.lk⟩
          obtain ⟨h1, h2⟩ := g2.keep b o q
          exact ⟨h1, by rw [MM.set_ne (ne b o q)]; exact h2⟩
theorem t_nil {Q : List V → Hp → Prop} (h : tEs K W C [] σ H Q) : L2.tNil σ H Q := by
  obtain ⟨M, s, rt, h⟩ := h
  simp only [evalEs] at h
  exact h.2 M H [] .refl (fun _ => ⟨rfl, .refl⟩) rt .nil
theorem t_cons {e : E} {es : List E} {Q : List V → Hp → Prop} (h : tEs K W C (e :: es) σ H Q) : L2.tCons (tE K W C e) (tEs K W C es) σ H Q := by
  refine t_D ?_
  obtain ⟨M, s, rt, h⟩ := h
  refine ⟨M, s, rt, ?_⟩
  simp only [evalEs, pures] at h
  refine h.bind anti_relEs (fun z => (Bool.and_eq_true_iff.mp z).1) fun d s1 M1 H1 v hx e1 p1 rt1 rl1 h1 => ?_
  have h1 := h1 (pures es) fun z => (Bool.and_eq_true_iff.mp z).2
  refine ⟨M1, s1, rt1, h1.bind anti_relEs (fun z => z) fun ds s2 M2 H2 vs hy e2 p2 rt2 rl2 h2 => ?_⟩
  exact (h2 true fun _ => rfl).2 M2 H2 (v :: vs) .refl (fun _ => ⟨rfl, .refl⟩) rt2 (.cons (RD.mono (e2.kept rt1.hp.wf) rl1) rl2)
end
end KW
/-! KwState: the state changes. -/
namespace KW
open PySem (Str Addr Value Program World Heap Operator CmpOp)
open L2 (V Hp HO upd upd_same upd_ne upd_upd SqL SqT Rd RelV Mut VK)

/-- the cell of a place -/
def plIx : Pl → Option Nat
  | .slot _ => none
  | .fld i _ => some i
  | .ent i _ => some i
/-- behind statements: what is nobody's and what is others' stays -/
structure ExtS (n : Nat) (M : MM) (H : Hp) (n' : Nat) (M' : MM) (H' : Hp) : Prop where
  keep : ∀ a o, H a = some o → (M.who a = none ∨ M.who a = some .oth) → H' a = some o ∧ M'.who a = M.who a
  dom : ∀ a, H' a = none → H a = none
  loc : ∀ i, i < n → M'.loc i = M.loc i
  le : n ≤ n'
  nl : ∀ a, isLoc (M'.who a) = true → isLoc (M.who a) = true ∨ H a = none
  lk : M'.lk = M.lk
section
variable {K : Fr} {n n' n'' : Nat} {M M' M'' : MM} {H H' H'' : Hp} {σ : L2.St} {s : S} {h : List Cell}
theorem ExtS.refl : ExtS n M H n M H := ⟨fun _ _ h _ => ⟨h, rfl⟩, fun _ h => h, fun _ _ => rfl, Nat.le_refl _, fun _ h => .inl h, rfl⟩
theorem Ext.toS (e : Ext n M H n' M' H') : ExtS n M H n' M' H' := ⟨fun a o q p => e.keep a o q (p.elim .inl fun z => .inr (.inr z)), e.dom, e.loc, e.le, e.nl, e.lk⟩
theorem ExtS.trans (a : ExtS n M H n' M' H') (b : ExtS n' M' H' n'' M'' H'') : ExtS n M H n'' M'' H'' where
  keep := fun c o h p => by
    obtain ⟨h1, e1⟩ := a.keep c o h p
    obtain ⟨h2, e2⟩ := b.keep c o h1 (by rw [e1]; exact p)
    exact ⟨h2, e2.trans e1⟩
  dom := fun c h => a.dom c (b.dom c h)
  loc := fun i hi => (b.loc i (Nat.lt_of_lt_of_le hi a.le)).trans (a.loc i hi)
  le := Nat.le_trans a.le b.le
  nl := fun c h => (b.nl c h).elim (a.nl c) fun z => .inr (a.dom c z)
  lk := b.lk.trans a.lk
theorem ExtS.kept (e : ExtS n M H n' M' H') (wf : ∀ a l, M.who a = some l → Mx M.lk a (H a)) : Keep n M H n' M' H' := ⟨wf, fun a o h q => by
    obtain ⟨h1, h2⟩ := e.keep a o h (.inl q)
    exact ⟨h1, h2.trans q⟩, e.loc, e.le⟩
theorem RH.some_of (r : RH K M H h) {a : Addr} {l : Lb} (e : M.who a = some l) : ∃ o, H a = some o := by
  have := r.wf a l e
  cases q : H a with
  | none => rw [q] at this; exact this.no.elim
  | some o => exact ⟨o, rfl⟩
theorem RCell.keep (e : Keep n M H n' M' H') {i : Nat} (hi : i < n) (hc : H' (M.loc i) = H (M.loc i)) {c : Cell} (hp : ∀ p, plIx p = some i → ∀ a, M.who a = some (.pl p) → M'.who a = some (.pl p) ∧ H' a = H a) (h : RCell K n M H i c) : RCell K n' M' H' i c := by
  have el := e.loc i hi
  cases h with
  | ins h hn hf => exact .ins (by rw [el, hc]; exact h) hn (RFs.mono e (fun f _ => hp (.fld i f) rfl) hf)
  | lst h hs => exact .lst (by rw [el, hc]; exact h) (RDs.mono e hs)
  | dct h hn hf => exact .dct (by rw [el]; exact rd_eq h hc) hn (REs.mono e (fun k _ => hp (.ent i k) rfl) hf)

/-! ### reading a place -/
theorem RFs.get {i : Nat} : ∀ {fs : List (String × SV)} {gs : List (Str × V)} {f : String} {sv : SV}, RFs K n M H i fs gs → ffind f fs = some sv → ∃ v, gs.lookup (sst f) = some v ∧ RS K n M H (.fld i f) sv v
  | _, _, _, _, .nil, h => by cases h
  | _, _, f, sv, .cons (f := g) (v := v) a b, h => by
    unfold ffind at h
    rw [List.lookup_cons] at h
    rw [List.lookup_cons]
    by_cases e : f = g
    · subst e
      simp only [beq_self_eq_true] at h ⊢
      injection h with h
      subst h
      exact ⟨v, rfl, a⟩
    · have e1 : (f == g) = false := by simpa using e
      have e2 : (sst f == sst g) = false := by simpa using fun z => e (sst_inj z)
      rw [e1] at h
      rw [e2]
      exact RFs.get b h
theorem REs.get {i : Nat} : ∀ {fs : List (Key × SV)} {gs : List (L2.Key × V)} {k : Key} {sv : SV}, REs K n M H i fs gs → kfind k fs = some sv → ∃ v, RS K n M H (.ent i k) sv v
  | _, _, _, _, .nil, h => by cases h
  | _, _, k, sv, .cons (k := g) (v := v) a b, h => by
    unfold kfind at h
    split at h
    · rename_i e
      have e : g = k := e
      subst e
      injection h with h
      subst h
      exact ⟨v, a⟩
    · exact REs.get b h
/-- a place that holds a list or dict: where it stands -/
theorem RT.getPl (r : RT K M H σ s) {p : Pl} {c : Cont} (e : getPl s p = some (.own c)) : ∃ a, M.who a = some (.pl p) ∧ RC K s.h.length M H c a := by
  have own : ∀ {v : V}, RS K s.h.length M H p (.own c) v → ∃ a, M.who a = some (.pl p) ∧ RC K s.h.length M H c a := fun h => by
    cases h with
    | own h1 h2 => exact ⟨_, h1, h2⟩
  cases p with
  | slot j =>
    simp only [KW.getPl] at e
    split at e
    · rename_i sv q
      injection e with e
      subst e
      obtain ⟨v, _, h2⟩ := r.sl j _ q
      exact own h2
    · cases e
  | fld i f =>
    simp only [KW.getPl] at e
    split at e
    · rename_i cc fs q
      have rc := r.hp.cell i _ q
      cases rc with
      | ins h1 h2 h3 =>
        obtain ⟨v, _, h4⟩ := h3.get e
        exact own h4
    · cases e
  | ent i k =>
    simp only [KW.getPl] at e
    split at e
    · rename_i kvs q
      have rc := r.hp.cell i _ q
      cases rc with
      | dct h1 h2 h3 =>
        obtain ⟨v, h4⟩ := h3.get e
        exact own h4
    · cases e

/-! ### the content of a place changes -/
/-- what a change at place p leaves -/
structure Chg (K : Fr) (p : Pl) (a : Addr) (n : Nat) (M : MM) (H : Hp) (n' : Nat) (M' : MM) (H' : Hp) : Prop where
  kp : Keep n M H n' M' H'
  uq : ∀ a b l, l ≠ .tmp → l ≠ .oth → M.who a = some l → M.who b = some l → a = b
  hw : M.who a = some (.pl p)
  hp : ∀ q, q ≠ p → ∀ b, M.who b = some (.pl q) → M'.who b = some (.pl q) ∧ H' b = H b
theorem RFs.put {i : Nat} {a : Addr} {f : String} {sv' : SV} {c : Cont} (g : Chg K (.fld i f) a n M H n' M' H') (rs : RS K n' M' H' (.fld i f) sv' (.ref a)) {fs : List (String × SV)} {gs : List (Str × V)}
    (r : RFs K n M H i fs gs) : (fs.map (·.1)).Nodup → ffind f fs = some (.own c) → RFs K n' M' H' i (fput f sv' fs) gs := by
  induction r with
  | nil => intro _ h; cases h
  | @cons x sv v fs gs ra rb ih =>
    intro hn h
    have hn2 := List.nodup_cons.mp (show (x :: fs.map (·.1)).Nodup from hn)
    unfold ffind at h
    rw [List.lookup_cons] at h
    unfold fput
    by_cases ef : x = f
    · subst ef
      rw [if_pos rfl]
      simp only [beq_self_eq_true] at h
      injection h with h
      subst h
      cases ra with
      | own h1 h2 =>
        obtain rfl := g.uq _ _ _ (by intro z; cases z) (by intro z; cases z) h1 g.hw
        refine .cons rs (RFs.mono g.kp (fun f' hf' b hb => g.hp _ (fun z => ?_) b hb) rb)
        injection z with _ z
        subst z
        exact hn2.1 hf'
    · rw [if_neg ef]
      have e1 : (f == x) = false := by simpa using fun z => ef z.symm
      rw [e1] at h
      refine .cons (ra.mono g.kp (fun b hb => g.hp _ (fun z => ?_) b hb)) (ih hn2.2 h)
      injection z with _ z
      exact ef z
theorem REs.put {i : Nat} {a : Addr} {k : Key} {sv' : SV} {c : Cont} (g : Chg K (.ent i k) a n M H n' M' H') (rs : RS K n' M' H' (.ent i k) sv' (.ref a)) {fs : List (Key × SV)} {gs : List (L2.Key × V)}
    (r : REs K n M H i fs gs) : (fs.map (·.1)).Nodup → kfind k fs = some (.own c) → REs K n' M' H' i (kput k sv' fs) gs := by
  induction r with
  | nil => intro _ h; cases h
  | @cons x sv v fs gs ra rb ih =>
    intro hn h
    have hn2 := List.nodup_cons.mp (show (x :: fs.map (·.1)).Nodup from hn)
    unfold kfind at h
    unfold kput
    by_cases ef : x = k
    · subst ef
      rw [if_pos rfl] at h
      rw [if_pos rfl]
      injection h with h
      have h : sv = _ := h
      subst h
      cases ra with
      | own h1 h2 =>
        obtain rfl := g.uq _ _ _ (by intro z; cases z) (by intro z; cases z) h1 g.hw
        refine .cons rs (REs.mono g.kp (fun f' hf' b hb => g.hp _ (fun z => ?_) b hb) rb)
        injection z with _ z
        subst z
        exact hn2.1 hf'
    · rw [if_neg ef] at h
      rw [if_neg ef]
      refine .cons (ra.mono g.kp (fun b hb => g.hp _ (fun z => ?_) b hb)) (ih hn2.2 h)
      injection z with _ z
      exact ef z
theorem fput_keys {α : Type} {f : String} {v w : α} : ∀ {fs : List (String × α)}, ffind f fs = some w → (fput f v fs).map (·.1) = fs.map (·.1)
  | [], h => by cases h
  | (x, y) :: r, h => by
    unfold ffind at h
    rw [List.lookup_cons] at h
    unfold fput
    by_cases e : x = f
    · rw [if_pos e, e]; rfl
    · rw [if_neg e]
      have e1 : (f == x) = false := by simpa using fun z => e z.symm
      rw [e1] at h
      rw [List.map_cons, fput_keys h]; rfl
theorem kput_keys {α : Type} {k : Key} {v w : α} : ∀ {fs : List (Key × α)}, kfind k fs = some w → (kput k v fs).map (·.1) = fs.map (·.1)
  | [], h => by cases h
  | (x, y) :: r, h => by
    unfold kfind at h
    unfold kput
    by_cases e : x = k
    · rw [if_pos e]; rfl
    · rw [if_neg e] at h
      rw [if_neg e, List.map_cons, kput_keys h]; rfl

/-- a place's content, or its label, changes: sv' stands there now -/
theorem RT.putPl (r : RT K M H σ s) {p : Pl} {c : Cont} {sv' : SV} {a : Addr} {s' : S} (e : KW.getPl s p = some (.own c)) (g : Chg K p a s.h.length M H s.h.length M' H') (rs : RS K s.h.length M' H' p sv' (.ref a)) (el : M'.loc = M.loc)
    (wf : ∀ a l, M'.who a = some l → Mx M'.lk a (H' a)) (uq : ∀ a b l, l ≠ .tmp → l ≠ .oth → M'.who a = some l → M'.who b = some l → a = b) (hc : ∀ b j, M.who b = some (.cell j) → M'.who b = some (.cell j) ∧ H' b = H b)
    (hput : KW.putPl s p sv' = some s') : RT K M' H' σ s' := by
  have cells : ∀ i c, s.h[i]? = some c → plIx p ≠ some i → RCell K s.h.length M' H' i c := fun i c q ne => by
    have hi := (List.getElem?_eq_some_iff.mp q).1
    refine (r.hp.cell i c q).keep g.kp hi ?_ fun p' hp' b hb => g.hp p' (fun z => ne (by rw [← z]; exact hp')) b hb
    exact (hc _ _ (r.hp.lb i hi)).2
  have lb : ∀ i, i < s.h.length → M'.who (M'.loc i) = some (.cell i) := fun i hi => by rw [el]; exact (hc _ _ (r.hp.lb i hi)).1
  have slots : ∀ j sv, p ≠ .slot j → s.σ[j]? = some (some sv) → ∃ v, σ[j]? = some (some v) ∧ RS K s.h.length M' H' (.slot j) sv v := fun j sv ne q => by
    obtain ⟨v, h1, h2⟩ := r.sl j sv q
    exact ⟨v, h1, h2.mono g.kp fun b hb => g.hp _ (fun z => ne z.symm) b hb⟩
  cases p with
  | slot j =>
    simp only [KW.putPl] at hput
    injection hput with hput
    subst hput
    refine ⟨⟨wf, lb, uq, fun i c q => cells i c q (by intro z; cases z)⟩, by rw [← r.len]; simp, fun j' sv q => ?_⟩
    by_cases ej : j = j'
    · subst ej
      simp only [KW.getPl] at e
      split at e
      · rename_i sv0 q0
        injection e with e
        subst e
        obtain ⟨v, h1, h2⟩ := r.sl j _ q0
        cases h2 with
        | own h3 h4 =>
          obtain rfl := g.uq _ _ _ (by intro z; cases z) (by intro z; cases z) h3 g.hw
          have hj := (List.getElem?_eq_some_iff.mp q0).1
          have q : (s.σ.set j (some sv'))[j]? = _ := q
          rw [List.getElem?_set_self hj] at q
          injection q with q
          injection q with q
          subst q
          exact ⟨_, h1, rs⟩
      · cases e
    · have q : (s.σ.set j (some sv'))[j']? = _ := q
      rw [List.getElem?_set_ne ej] at q
      exact slots j' sv (fun z => ej (by injection z)) q
  | fld i f =>
    simp only [KW.putPl] at hput
    simp only [KW.getPl] at e
    split at e
    · rename_i cc fs q0
      rw [q0] at hput
      injection hput with hput
      subst hput
      have hi := (List.getElem?_eq_some_iff.mp q0).1
      refine ⟨⟨wf, ?_, uq, fun i' c q => ?_⟩, r.len, fun j sv q => ?_⟩
      · simpa using lb
      · have q : (s.h.set i _)[i']? = _ := q
        show RCell K (s.h.set i _).length M' H' i' c
        rw [List.length_set]
        by_cases ei : i = i'
        · subst ei
          rw [List.getElem?_set_self hi] at q
          injection q with q
          subst q
          cases r.hp.cell i _ q0 with
          | ins h1 h2 h3 =>
            refine .ins (by rw [el, (hc _ _ (r.hp.lb i hi)).2]; exact h1) ?_ (h3.put g rs h2 e)
            rw [fput_keys e]
            exact h2
        · rw [List.getElem?_set_ne ei] at q
          exact cells i' c q (fun z => ei (by injection z))
      · show ∃ v, _ ∧ RS K (s.h.set i _).length M' H' _ _ _
        rw [List.length_set]
        exact slots j sv (by intro z; cases z) q
    · cases e
  | ent i k =>
    simp only [KW.putPl] at hput
    simp only [KW.getPl] at e
    split at e
    · rename_i kvs q0
      rw [q0] at hput
      injection hput with hput
      subst hput
      have hi := (List.getElem?_eq_some_iff.mp q0).1
      refine ⟨⟨wf, ?_, uq, fun i' c q => ?_⟩, r.len, fun j sv q => ?_⟩
      · simpa using lb
      · have q : (s.h.set i _)[i']? = _ := q
        show RCell K (s.h.set i _).length M' H' i' c
        rw [List.length_set]
        by_cases ei : i = i'
        · subst ei
          rw [List.getElem?_set_self hi] at q
          injection q with q
          subst q
          cases r.hp.cell i _ q0 with
          | dct h1 h2 h3 =>
            refine .dct (by rw [el]; exact rd_eq h1 (hc _ _ (r.hp.lb i hi)).2) ?_ (h3.put g rs h2.nd e)
            rw [kput_keys e]
            exact h2
        · rw [List.getElem?_set_ne ei] at q
          exact cells i' c q (fun z => ei (by injection z))
      · show ∃ v, _ ∧ RS K (s.h.set i _).length M' H' _ _ _
        rw [List.length_set]
        exact slots j sv (by intro z; cases z) q
    · cases e

/-- one object is written: it was somebody's -/
theorem keep_upd (wf : ∀ a l, M.who a = some l → Mx M.lk a (H a)) {a : Addr} {l : Lb} {o : HO} (hw : M.who a = some l) : Keep n M H n M (upd H a o) :=
  ⟨wf, fun b o' q z => ⟨by rw [upd_ne (fun e => by rw [e, hw] at z; cases z)]; exact q, z⟩, fun _ _ => rfl, Nat.le_refl _⟩
theorem wf_upd (wf : ∀ a l, M.who a = some l → Mx M.lk a (H a)) {a : Addr} {o : HO} (hm : Mut (some o)) : ∀ b l, M.who b = some l → Mx M.lk b ((upd H a o) b) := fun b l q => by
  by_cases e : b = a
  · subst e; rw [upd_same]; exact .inl hm
  · rw [upd_ne e]; exact wf b l q
theorem ext_upd {a : Addr} {l : Lb} {o : HO} (hw : M.who a = some l) (h1 : l ≠ .tmp) (h2 : l ≠ .oth) : Ext n M H n M (upd H a o) := by
  refine ⟨fun b o' q p => ?_, fun b q => ?_, fun _ _ => rfl, Nat.le_refl _, fun _ h => .inl h, rfl⟩
  · have ne : b ≠ a := fun e => by
      subst e
      rcases p with p | p | p <;> rw [hw] at p
      · cases p
      · injection p with p; exact h1 p
      · injection p with p; exact h2 p
    exact ⟨by rw [upd_ne ne]; exact q, rfl⟩
  · by_cases e : b = a
    · subst e; rw [upd_same] at q; cases q
    · rw [upd_ne e] at q; exact q
/-- a place's list or dict is changed -/
theorem RT.wrPl (r : RT K M H σ s) {p : Pl} {c c' : Cont} {a : Addr} {s' : S} {o : HO} (e : KW.getPl s p = some (.own c)) (hw : M.who a = some (.pl p)) (hm : Mut (some o)) (rc : RC K s.h.length M (upd H a o) c' a)
    (hput : KW.putPl s p (.own c') = some s') : RT K M (upd H a o) σ s' ∧ Ext s.h.length M H s'.h.length M (upd H a o) := by
  have hl : s'.h.length = s.h.length := by
    cases p <;> simp only [KW.putPl] at hput
    · injection hput with hput; subst hput; rfl
    all_goals
      split at hput
      · injection hput with hput; subst hput; simp
      · cases hput
  refine ⟨r.putPl e ⟨keep_upd r.hp.wf hw, r.hp.uq, hw, fun q ne b hb => ⟨hb, upd_ne fun z => ?_⟩⟩ (.own hw rc) rfl (wf_upd r.hp.wf hm) r.hp.uq (fun b j hb => ⟨hb, upd_ne fun z => ?_⟩) hput, ?_⟩
  · subst z
    rw [hw] at hb
    injection hb with hb
    injection hb with hb
    exact ne hb.symm
  · subst z
    rw [hw] at hb
    cases hb
  · rw [hl]
    exact ext_upd hw (by intro z; cases z) (by intro z; cases z)
/-- a cell's list is changed -/
theorem RT.wrCell (r : RT K M H σ s) {i : Nat} {c c' : Cell} {o : HO} (e : s.h[i]? = some c) (hm : Mut (some o)) (rc : RCell K s.h.length M (upd H (M.loc i) o) i c') :
    RT K M (upd H (M.loc i) o) σ { s with h := s.h.set i c' } ∧ Ext s.h.length M H (s.h.set i c').length M (upd H (M.loc i) o) := by
  have hi := (List.getElem?_eq_some_iff.mp e).1
  have hw := r.hp.lb i hi
  have kp : Keep s.h.length M H s.h.length M (upd H (M.loc i) o) := keep_upd r.hp.wf hw
  have pl : ∀ p b, M.who b = some (.pl p) → (upd H (M.loc i) o) b = H b := fun p b hb => upd_ne fun z => by rw [z, hw] at hb; cases hb
  refine ⟨⟨⟨wf_upd r.hp.wf hm, ?_, r.hp.uq, fun i' c2 q => ?_⟩, r.len, fun j sv q => ?_⟩, by rw [List.length_set]; exact ext_upd hw (by intro z; cases z) (by intro z; cases z)⟩
  · simpa using r.hp.lb
  · have q : (s.h.set i c')[i']? = _ := q
    show RCell K (s.h.set i c').length _ _ _ _
    rw [List.length_set]
    by_cases ei : i = i'
    · subst ei
      rw [List.getElem?_set_self hi] at q
      injection q with q
      subst q
      exact rc
    · rw [List.getElem?_set_ne ei] at q
      have hi' := (List.getElem?_eq_some_iff.mp q).1
      refine (r.hp.cell i' c2 q).keep kp hi' (upd_ne fun z => ?_) fun p _ b hb => ⟨hb, pl p b hb⟩
      have := r.hp.lb i' hi'
      rw [z, hw] at this
      injection this with this
      injection this with this
      exact ei this
  · obtain ⟨v, h1, h2⟩ := r.sl j sv q
    refine ⟨v, h1, ?_⟩
    show RS K (s.h.set i c').length _ _ _ _ _
    rw [List.length_set]
    exact h2.mono kp fun b hb => ⟨hb, pl _ b hb⟩
end
end KW
/-! KwState2: slots, new cells, freezing. -/
namespace KW
open PySem (Str Addr Value Program World Heap Operator CmpOp)
open L2 (V Hp HO upd upd_same upd_ne upd_upd SqL SqT Rd RelV Mut VK)
section
variable {K : Fr} {n n' n'' : Nat} {M M' M'' : MM} {H H' H'' : Hp} {σ : L2.St} {s : S} {h : List Cell}
/-- a place is given up -/
def MM.drop (M : MM) (p : Pl) : MM := { M with who := fun a => if M.who a = some (.pl p) then some .oth else M.who a }
theorem drop_of {p : Pl} {a : Addr} (h : M.who a ≠ some (.pl p)) : (M.drop p).who a = M.who a := by simp [MM.drop, h]
theorem drop_at {p : Pl} {a : Addr} (h : M.who a = some (.pl p)) : (M.drop p).who a = some .oth := by simp [MM.drop, h]
theorem drop_inv {p : Pl} {a : Addr} {l : Lb} (h : (M.drop p).who a = some l) (hl : l ≠ .oth) : M.who a = some l := by
  by_cases e : M.who a = some (.pl p)
  · rw [drop_at e] at h; injection h with h; exact absurd h.symm hl
  · rw [drop_of e] at h; exact h
theorem drop_some {p : Pl} {a : Addr} {l : Lb} (h : (M.drop p).who a = some l) : ∃ l', M.who a = some l' := by
  by_cases e : M.who a = some (.pl p)
  · exact ⟨_, e⟩
  · rw [drop_of e] at h; exact ⟨_, h⟩
theorem drop_nl {p : Pl} : ∀ b, isLoc ((M.drop p).who b) = true → isLoc (M.who b) = true ∨ H b = none := fun b h => by
  cases e : (M.drop p).who b with
  | none => rw [e] at h; cases h
  | some l =>
    rw [e] at h
    rw [drop_inv e (by intro z; subst z; cases h)]
    exact .inl h
theorem drop_none {p : Pl} {a : Addr} (h : M.who a = none) : (M.drop p).who a = none := by rw [drop_of (by rw [h]; intro z; cases z)]; exact h
/-- a slot is set -/
theorem RT.asgn (r : RT K M H σ s) {j : Nat} {sv : SV} {v : V} (el : M'.loc = M.loc) (wf : ∀ a l, M'.who a = some l → Mx M'.lk a (H a)) (uq : ∀ a b l, l ≠ .tmp → l ≠ .oth → M'.who a = some l → M'.who b = some l → a = b)
    (hn : ∀ a, M.who a = none → M'.who a = none) (hp : ∀ a l, M.who a = some l → l ≠ .tmp → l ≠ .oth → l ≠ .pl (.slot j) → M'.who a = some l) (rs : RS K s.h.length M' H (.slot j) sv v) :
    RT K M' H (σ.set j (some v)) { s with σ := s.σ.set j (some sv) } := by
  have kp : Keep s.h.length M H s.h.length M' H := ⟨r.hp.wf, fun a o q z => ⟨q, hn a z⟩, fun _ _ => by rw [el], Nat.le_refl _⟩
  refine ⟨r.hp.relab el wf uq (fun a z _ => hn a z) (fun a l q h1 h2 => hp a l q (by intro z; subst z; cases h1) h2 (by intro z; subst z; cases h1)), by simp [r.len], fun j' sv' q => ?_⟩
  have q : (s.σ.set j (some sv))[j']? = _ := q
  by_cases ej : j = j'
  · subst ej
    by_cases hj : j < s.σ.length
    · rw [List.getElem?_set_self hj] at q
      injection q with q
      injection q with q
      subst q
      exact ⟨v, by rw [List.getElem?_set_self (by rw [← r.len]; exact hj)], rs⟩
    · rw [List.getElem?_eq_none (by simpa using hj)] at q; cases q
  · rw [List.getElem?_set_ne ej] at q
    obtain ⟨w, h1, h2⟩ := r.sl j' sv' q
    refine ⟨w, by rw [List.getElem?_set_ne ej]; exact h1, h2.mono kp fun b hb => ⟨hp b _ hb (by intro z; cases z) (by intro z; cases z) (fun z => ej (by injection z with z; injection z with z; exact z.symm)), rfl⟩⟩
theorem RT.asgnV (r : RT K M H σ s) {j : Nat} {d : D} {v : V} (rd : RD K s.h.length M H d v) : RT K (M.drop (.slot j)) H (σ.set j (some v)) { s with σ := s.σ.set j (some (.val d)) } ∧ ExtS s.h.length M H s.h.length (M.drop (.slot j)) H := by
  have kp : Keep s.h.length M H s.h.length (M.drop (.slot j)) H := ⟨r.hp.wf, fun a o q z => ⟨q, drop_none z⟩, fun _ _ => rfl, Nat.le_refl _⟩
  refine ⟨r.asgn rfl (fun a l q => ?_) (fun a b l h1 h2 ea eb => r.hp.uq a b l h1 h2 (drop_inv ea h2) (drop_inv eb h2)) (fun a q => drop_none q) (fun a l q _ _ h3 => by rw [drop_of (by rw [q]; intro z; injection z with z; exact h3 z)]; exact q) (.val (rd.mono kp)), ?_⟩
  · obtain ⟨l', q⟩ := drop_some q
    exact r.hp.wf a l' q
  · refine ⟨fun a o q p => ⟨q, ?_⟩, fun _ q => q, fun _ _ => rfl, Nat.le_refl _, drop_nl, rfl⟩
    exact drop_of (by rcases p with p | p <;> rw [p] <;> intro z <;> cases z)
theorem RT.asgnO (r : RT K M H σ s) {j : Nat} {c : Cont} {a : Addr} (ha : M.who a = some .tmp) (rc : RC K s.h.length M H c a) :
    RT K ((M.drop (.slot j)).set a (some (.pl (.slot j)))) H (σ.set j (some (.ref a))) { s with σ := s.σ.set j (some (.own c)) } ∧ ExtS s.h.length M H s.h.length ((M.drop (.slot j)).set a (some (.pl (.slot j)))) H := by
  have sn : ∀ {b}, b ≠ a → ((M.drop (.slot j)).set a (some (.pl (.slot j)))).who b = (M.drop (.slot j)).who b := fun ne => MM.set_ne ne
  have nn : ∀ b, M.who b = none → b ≠ a := fun b q z => by rw [z, ha] at q; cases q
  have kp : Keep s.h.length M H s.h.length ((M.drop (.slot j)).set a (some (.pl (.slot j)))) H := ⟨r.hp.wf, fun b o q z => ⟨q, by rw [sn (nn b z)]; exact drop_none z⟩, fun _ _ => rfl, Nat.le_refl _⟩
  have no : ∀ b, ((M.drop (.slot j)).set a (some (.pl (.slot j)))).who b = some (.pl (.slot j)) → b = a := fun b q => by
    by_cases z : b = a
    · exact z
    · rw [sn z] at q
      have := drop_inv q (by intro z; cases z)
      rw [drop_at this] at q
      cases q
  refine ⟨r.asgn rfl (fun b l q => ?_) (fun b b' l h1 h2 ea eb => ?_) (fun b q => by rw [sn (nn b q)]; exact drop_none q) (fun b l q h1 _ h3 => ?_) (.own MM.set_same (rc.mono kp rfl)), ?_⟩
  · by_cases z : b = a
    · subst z; exact r.hp.wf b _ ha
    · rw [sn z] at q
      obtain ⟨l', q⟩ := drop_some q
      exact r.hp.wf b l' q
  · by_cases el : l = .pl (.slot j)
    · subst el; rw [no b ea, no b' eb]
    · have f : ∀ c, ((M.drop (.slot j)).set a (some (.pl (.slot j)))).who c = some l → M.who c = some l := fun c q => by
        by_cases z : c = a
        · subst z; rw [MM.set_same] at q; injection q with q; exact absurd q.symm el
        · rw [sn z] at q; exact drop_inv q h2
      exact r.hp.uq b b' l h1 h2 (f _ ea) (f _ eb)
  · rw [sn (fun z => by rw [z, ha] at q; injection q with q; exact h1 q.symm), drop_of (by rw [q]; intro z; injection z with z; exact h3 z)]
    exact q
  · refine ⟨fun b o q p => ⟨q, ?_⟩, fun _ q => q, fun _ _ => rfl, Nat.le_refl _, fun b h => ?_, rfl⟩
    rotate_left
    · by_cases z : b = a
      · subst z; rw [ha]; exact .inl rfl
      · rw [sn z] at h; exact drop_nl b h
    have ne : b ≠ a := fun z => by rw [z, ha] at p; rcases p with p | p <;> cases p
    rw [sn ne]
    exact drop_of (by rcases p with p | p <;> rw [p] <;> intro z <;> cases z)
/-- a place is let be for good -/
theorem RT.frzPl (r : RT K M H σ s) {p : Pl} {c : Cont} {s' : S} {a : Addr} (e : KW.getPl s p = some (.own c)) (hw : M.who a = some (.pl p)) (rc : RC K s.h.length M H c a) (hput : KW.putPl s p (.val c.fz) = some s') :
    RT K (M.set a none) H σ s' ∧ Ext s.h.length M H s'.h.length (M.set a none) H ∧ RD K s'.h.length (M.set a none) H c.fz (.ref a) := by
  have hl : s'.h.length = s.h.length := by
    cases p <;> simp only [KW.putPl] at hput
    · injection hput with hput; subst hput; rfl
    all_goals
      split at hput
      · injection hput with hput; subst hput; simp
      · cases hput
  have ne : ∀ b l, M.who b = some l → l ≠ .pl p → b ≠ a := fun b l q h z => by rw [z, hw] at q; injection q with q; exact h q.symm
  have kp : Keep s.h.length M H s.h.length (M.set a none) H := ⟨r.hp.wf, fun b o q z => ⟨q, by
    rw [MM.set_ne (fun e => by rw [e, hw] at z; cases z)]; exact z⟩, fun _ _ => rfl, Nat.le_refl _⟩
  have rd := rc.fz kp
  refine ⟨r.putPl e ⟨kp, r.hp.uq, hw, fun q nq b hb => ⟨?_, rfl⟩⟩ (.val rd) rfl (fun b l q => ?_) (fun b b' l h1 h2 ea eb => ?_) (fun b j hb => ⟨?_, rfl⟩) hput, ?_, by rw [hl]; exact rd⟩
  · rw [MM.set_ne (ne b _ hb (fun z => nq (by injection z)))]; exact hb
  · by_cases z : b = a
    · subst z; rw [MM.set_same] at q; cases q
    · rw [MM.set_ne z] at q; exact r.hp.wf b l q
  · by_cases z : b = a
    · subst z; rw [MM.set_same] at ea; cases ea
    · by_cases z' : b' = a
      · subst z'; rw [MM.set_same] at eb; cases eb
      · rw [MM.set_ne z] at ea; rw [MM.set_ne z'] at eb; exact r.hp.uq b b' l h1 h2 ea eb
  · rw [MM.set_ne (ne b _ hb (by intro z; cases z))]; exact hb
  · rw [hl]
    refine ⟨fun b o q p => ⟨q, ?_⟩, fun _ q => q, fun _ _ => rfl, Nat.le_refl _, nl_set (fun _ h => .inl h), rfl⟩
    rw [MM.set_ne fun z => ?_]
    rw [z, hw] at p
    rcases p with p | p | p <;> cases p
/-- one more cell -/
theorem RT.snoc (r : RT K M H σ s) {c : Cell} (kp : Keep s.h.length M H (s.h.length + 1) M' H') (wf : ∀ a l, M'.who a = some l → Mx M'.lk a (H' a)) (uq : ∀ a b l, l ≠ .tmp → l ≠ .oth → M'.who a = some l → M'.who b = some l → a = b)
    (hl : M'.who (M'.loc s.h.length) = some (.cell s.h.length)) (hp : ∀ a l, M.who a = some l → l ≠ .tmp → l ≠ .oth → l ≠ .cell s.h.length → M'.who a = some l ∧ H' a = H a) (rc : RCell K (s.h.length + 1) M' H' s.h.length c) :
    RT K M' H' σ { s with h := s.h ++ [c] } := by
  refine ⟨⟨wf, fun i hi => ?_, uq, fun i c' q => ?_⟩, r.len, fun j sv q => ?_⟩
  · have hi : i < (s.h ++ [c]).length := hi
    rw [List.length_append] at hi
    by_cases e : i = s.h.length
    · subst e; exact hl
    · have hi' : i < s.h.length := by simp at hi; omega
      rw [kp.loc i hi']
      exact (hp _ _ (r.hp.lb i hi') (by intro z; cases z) (by intro z; cases z) (by intro z; injection z with z; omega)).1
  · have q : (s.h ++ [c])[i]? = some c' := q
    show RCell K (s.h ++ [c]).length M' H' i c'
    rw [List.length_append]
    by_cases hi : i < s.h.length
    · rw [List.getElem?_append_left hi] at q
      refine (r.hp.cell i c' q).keep kp hi (hp _ _ (r.hp.lb i hi) (by intro z; cases z) (by intro z; cases z) (by intro z; injection z with z; omega)).2 fun p _ b hb => hp b _ hb (by intro z; cases z) (by intro z; cases z) (by intro z; cases z)
    · rw [List.getElem?_append_right (by omega)] at q
      by_cases e : i = s.h.length
      · subst e
        simp at q
        subst q
        exact rc
      · rw [List.getElem?_eq_none (by simp; omega)] at q; cases q
  · obtain ⟨v, h1, h2⟩ := r.sl j sv q
    refine ⟨v, h1, ?_⟩
    show RS K (s.h ++ [c]).length M' H' _ _ _
    rw [List.length_append]
    exact h2.mono kp fun b hb => hp b _ hb (by intro z; cases z) (by intro z; cases z) (by intro z; cases z)
/-- a place for one more cell -/
def MM.newCell (M : MM) (n : Nat) (a : Addr) : MM := { lk := M.lk, loc := fun i => if i = n then a else M.loc i, who := fun b => if b = a then some (.cell n) else if M.who b = some (.cell n) then some .oth else M.who b }
theorem newCell_at {n : Nat} {a : Addr} : (M.newCell n a).who a = some (.cell n) := by simp [MM.newCell]
theorem newCell_ne {n : Nat} {a b : Addr} (h : b ≠ a) (h2 : M.who b ≠ some (.cell n)) : (M.newCell n a).who b = M.who b := by simp [MM.newCell, h, h2]
theorem newCell_inv {n : Nat} {a b : Addr} {l : Lb} (h : (M.newCell n a).who b = some l) (hl : l ≠ .oth) (hc : l ≠ .cell n) : M.who b = some l := by
  by_cases e : b = a
  · subst e; rw [newCell_at] at h; injection h with h; exact absurd h.symm hc
  · by_cases e2 : M.who b = some (.cell n)
    · simp [MM.newCell, e, e2] at h; exact absurd h.symm hl
    · rw [newCell_ne e e2] at h; exact h
theorem newCell_cell {n : Nat} {a b : Addr} (h : (M.newCell n a).who b = some (.cell n)) : b = a := by
  by_cases e : b = a
  · exact e
  · by_cases e2 : M.who b = some (.cell n)
    · simp [MM.newCell, e, e2] at h
    · rw [newCell_ne e e2] at h; exact absurd h e2
theorem newCell_some {n : Nat} {a b : Addr} {l : Lb} (h : (M.newCell n a).who b = some l) : b = a ∨ ∃ l', M.who b = some l' := by
  by_cases e : b = a
  · exact .inl e
  · by_cases e2 : M.who b = some (.cell n)
    · exact .inr ⟨_, e2⟩
    · rw [newCell_ne e e2] at h; exact .inr ⟨_, h⟩
theorem newCell_nl {n : Nat} {a : Addr} {M0 : MM} {H0 : Hp} (e : ∀ b, isLoc (M.who b) = true → isLoc (M0.who b) = true ∨ H0 b = none) : ∀ b, isLoc ((M.newCell n a).who b) = true → isLoc (M0.who b) = true ∨ H0 b = none := fun b h => by
  cases q : (M.newCell n a).who b with
  | none => rw [q] at h; cases h
  | some l =>
    rw [q] at h
    refine e b ?_
    rw [newCell_inv q (by intro z; subst z; cases h) (by intro z; subst z; cases h)]
    exact h
theorem newCell_loc {n : Nat} {a : Addr} : (M.newCell n a).loc n = a := by simp [MM.newCell]
theorem newCell_old {n i : Nat} {a : Addr} (h : i < n) : (M.newCell n a).loc i = M.loc i := by
  have : i ≠ n := by omega
  simp [MM.newCell, this]
theorem newCell_uq {n : Nat} {a : Addr} (uq : ∀ a b l, l ≠ .tmp → l ≠ .oth → M.who a = some l → M.who b = some l → a = b) : ∀ b c l, l ≠ .tmp → l ≠ .oth → (M.newCell n a).who b = some l → (M.newCell n a).who c = some l → b = c := fun b c l h1 h2 eb ec => by
  by_cases e : l = .cell n
  · subst e; rw [newCell_cell eb, newCell_cell ec]
  · exact uq b c l h1 h2 (newCell_inv eb h2 e) (newCell_inv ec h2 e)
/-- a new list or dict becomes a cell -/
theorem RT.box (r : RT K M H σ s) {c : Cont} {c' : Cell} {a : Addr} (ha : M.who a = some .tmp) (rc : RCell K (s.h.length + 1) (M.newCell s.h.length a) H s.h.length c') :
    RT K (M.newCell s.h.length a) H σ { s with h := s.h ++ [c'] } ∧ Keep s.h.length M H (s.h.length + 1) (M.newCell s.h.length a) H := by
  have nn : ∀ b, M.who b = none → b ≠ a := fun b q z => by rw [z, ha] at q; cases q
  have kp : Keep s.h.length M H (s.h.length + 1) (M.newCell s.h.length a) H := ⟨r.hp.wf, fun b o q z => ⟨q, by rw [newCell_ne (nn b z) (by rw [z]; intro e; cases e)]; exact z⟩, fun i hi => newCell_old hi, Nat.le_succ _⟩
  refine ⟨r.snoc kp (fun b l q => ?_) (newCell_uq r.hp.uq) (by rw [newCell_loc]; exact newCell_at) (fun b l q h1 h2 h3 => ⟨?_, rfl⟩) rc, kp⟩
  · rcases newCell_some q with e | ⟨l', e⟩
    · subst e; exact r.hp.wf _ _ ha
    · exact r.hp.wf _ _ e
  · rw [newCell_ne (fun z => ?_) (by rw [q]; intro z; injection z with z; exact h3 z)]
    · exact q
    · rw [z, ha] at q; injection q with q; exact h1 q.symm
def cellOf : Cont → Cell
  | .lst xs => .lst xs
  | .dct kvs => .dct (plainEs kvs)
theorem RC.cell {c : Cont} {a : Addr} {n : Nat} (h : RC K n M H c a) (k : Keep n M H (n + 1) (M.newCell n a) H) : RCell K (n + 1) (M.newCell n a) H n (cellOf c) := by
  cases h with
  | lst h hs => exact .lst (by rw [newCell_loc]; exact h) (hs.mono k)
  | @dct _ kvs ks vs h hk hn hs =>
    refine .dct (by rw [newCell_loc]; exact h) ?_ ?_
    · have : (plainEs kvs).map (·.1) = kvs.map (·.1) := by simp
      rw [this]; exact hn
    · subst hk
      clear hn h
      induction kvs generalizing vs with
      | nil => exact .nil
      | cons q r ih =>
        cases hs with
        | cons a b => exact .cons (.val (a.mono k)) (ih b)
end
end KW
/-! KwTerm: the rules of the terms. -/
namespace KW
open PySem (Str Addr Value Program World Heap Operator CmpOp binaryOp compareOp PyData Scope Const Env)
open PySem.Spec PyProof.Rows
open L2 (V Hp HO upd upd_same upd_ne upd_upd SqL SqT Rd RelV Mut TE TT TA TS WX PE PT PW PA PS PSs Cx Inv OpR UnR CallR MtR IxR SlR TruR VK EP XK rI0)

/-- a def at hand -/
def CallOk (X : Cx) (C : CallF) (f : String) (a : Addr) : Prop := ∃ fd ps k, PySem.W.keepIn X.K (.ref a) = true ∧ L2.Binds X.K fd ps [] ∧ L2.FnOk X.prog X.w X.K X.mg X.base (L2.CX X.prog X.w) k a fd ps (spOf X.K C f) ∧ L2.Room (k + 1) X.A
/-- the names of the built-ins that are used -/
def bltNames : List String := ["len", "abs", "int", "str", "ord", "list", "tuple", "sorted", "sum", "all", "any", "min", "max", "isinstance", "set", "range", "enumerate"]
/-- a dict of the top that nobody changes -/
def TabOk (K : Fr) (w : World) (mg : Str → Option Value) (x : String) (kvs : List (T × D)) : Prop := ∃ d es n, mg (sst x) = some (.ref d) ∧ L2.KDict K w d es n ∧ ∀ t : T, match tfind t kvs with
  | some dd => ∃ u v, PySem.W.nsIn K d (mst t) = some (some u) ∧ RelV v u ∧ ∀ n M H, RD K n M H dd v
  | none => PySem.W.nsIn K d (mst t) = some none
/-- a list of texts of the top that nobody changes -/
def LsOk (K : Fr) (mg : Str → Option Value) (x : String) (ts : List T) : Prop := ∃ a, mg (sst x) = some (.ref a) ∧ (∀ t ∈ ts, okT t) ∧ ∀ H, SqL K H a ((ts.map mst).map V.str)
/-- what a body's context has -/
structure Ev (G : Tabs) (X : Cx) (W : WX) (C : CallF) : Prop where
  hu : X.A.units + 65 < PySem.cLine
  calm : X.calm = true
  nd : X.N.Nodup
  tk : L2.Takes X W
  bl : ∀ x ∈ bltNames, X.mg (sst x) = none
  gl : ∀ x d, (G.gl.any fun q => q.1 == x && beqD q.2 d) = true → GlobOk X.K X.mg x d
  tb : ∀ x kvs, (G.tb.any fun q => q.1 == x && beqTs q.2 kvs) = true → TabOk X.K X.w X.mg x kvs
  ls : ∀ x ts, (G.ls.any fun q => q.1 == x && decide (q.2 = ts)) = true → LsOk X.K X.mg x ts
  fs : ∀ f, G.fs.contains f = true → ∃ a, X.mg (sst f) = some (.ref a) ∧ CallOk X C f a
  cs : ∀ c, G.cs.contains c = true → ∃ f, X.mg (sst c) = some (.ref (cA X.K c)) ∧ L2.Mk X.K (cA X.K c) f ∧ CallOk X C (c ++ ".__init__") f
  ms : ∀ c m, G.ms.contains (c, m) = true → ∃ f, L2.Cls X.K (cA X.K c) ∧ L2.Meth X.K (cA X.K c) (sst m) f ∧ CallOk X C (c ++ "." ++ m) f
  fl : ∀ c f, G.fl.contains (c, f) = true → L2.Cls X.K (cA X.K c) ∧ L2.NoAttr X.K (cA X.K c) (sst f)
section
variable {G : Tabs} {X : Cx} {W : WX} {C : CallF} {σ : L2.St} {H : Hp} {Q : VK}
/-- a term's two readings -/
structure P2 (X : Cx) (W : WX) (C : CallF) (e : E) (p : Py) : Prop where
  v : PE X p (tE X.K W C e)
  t : PT X p (tT X.K W C e)
theorem P2.of {e : E} {p : Py} (h : PE X p (tE X.K W C e)) (he : ∀ whole, PySem.isTrue p X.env whole = (do let v ← whole; PySem.standAt p.pos; PySem.holding [v] (PySem.truthy v))) : P2 X W C e p := ⟨h, p_test h he⟩

/-! ### lists of terms -/
theorem noStar_eq {e : Py} (h : noStarB e = true) (es : List Py) (env : Env) : PySem.starEach (e :: es) env = (false, PySem.eval e env) :: PySem.starEach es env := by
  cases e <;> first | rfl | cases h
theorem noStar_any {pos : PySem.Pos} {env : Env} : ∀ {es : List Py}, es.all noStarB = true → (PySem.backTo pos (PySem.starEach es env)).any (·.1) = false
  | [], _ => rfl
  | e :: es, h => by
    obtain ⟨h1, h2⟩ := Bool.and_eq_true_iff.mp (show (noStarB e && es.all noStarB) = true from h)
    rw [noStar_eq h1]
    have := noStar_any (pos := pos) (env := env) h2
    simpa [PySem.backTo] using this
theorem noStar_all {pos : PySem.Pos} {env : Env} {es : List Py} (h : es.all noStarB = true) : (PySem.backTo pos (PySem.starEach es env)).all (fun x => !x.1) = true := by
  have := noStar_any (pos := pos) (env := env) h
  rw [List.any_eq_false] at this
  rw [List.all_eq_true]
  intro x hx
  simpa using this x hx
theorem few_ok {pos : PySem.Pos} {env : Env} {es : List Py} (h : es.all noStarB = true) (hl : es.length < 20) : ((PySem.backTo pos (PySem.starEach es env)).all (fun x => !x.1) && (PySem.backToKw pos (PySem.keywordEach [] env)).all (fun x => x.1.isSome)
      && decide (es.length + ([] : List PySem.Keyword).length + (if ([] : List PySem.Keyword).isEmpty then 0 else 1) < 30)) = true := by
  rw [noStar_all h]
  simp [PySem.keywordEach, PySem.backToKw]
  omega
theorem base_ok {o : Py} (h : baseB o = true) (m : Str) (env : Env) : PySem.attributeBase o m env (PySem.eval o env) = PySem.eval o env := by
  unfold PySem.attributeBase
  split
  · cases h
  · rfl
end
end KW
/-! KwTerm2: operations as terms. -/
namespace KW
open PySem (Str Addr Value Program World Heap Operator CmpOp binaryOp compareOp PyData Scope Const Env)
open PySem.Spec PyProof.Rows
open L2 (V Hp HO upd upd_same upd_ne upd_upd SqL SqT Rd RelV Mut TE TT TA TS WX PE PT PW PA PS PSs Cx Inv OpR UnR CallR MtR IxR SlR TruR VK EP XK rI0)
section
variable {G : Tabs} {X : Cx} {W : WX} {C : CallF} {σ : L2.St} {H : Hp} {Q : VK}
theorem pa_one {b : Py} {t : TE} (hs : noStarB b = true) (h : PE X b t) : PA X [b] (L2.tCons t L2.tNil) := L2.pa_cons h L2.pa_nil (noStar_eq hs _ _)
theorem pa_two {b c : Py} {t u : TE} (hs : noStarB b = true) (hs2 : noStarB c = true) (h : PE X b t) (h2 : PE X c u) : PA X [b, c] (L2.tCons t (L2.tCons u L2.tNil)) := L2.pa_cons h (pa_one hs2 h2) (noStar_eq hs _ _)
theorem all_one {b : Py} (h : [b].all noStarB = true) : noStarB b = true := by simpa using h
theorem all_two {b c : Py} (h : [b, c].all noStarB = true) : noStarB b = true ∧ noStarB c = true := by simpa using h
theorem isT_call {f : Py} {xs : List Py} {kw : List PySem.Keyword} {pos : PySem.Pos} {env : Env} : ∀ whole, PySem.isTrue (.Call f xs kw pos) env whole = (do let v ← whole; PySem.standAt (PySem.Expr.Call f xs kw pos).pos; PySem.holding [v] (PySem.truthy v)) := fun _ => rfl
/-- f(a), f a built-in function -/
theorem p_fn {x : String} {id : String} {o : Op1} {r : List V → Hp → VK → Prop} {a : E} {b : Py} {p pos : PySem.Pos} (ev : Ev G X W C) (hc : CallR X (.builtin id) r) (ok : Ok1 X.K o (fun v H Q => r [v] H Q)) (hx : x ∈ bltNames)
    (hv : PySem.bootBuiltins (sst x) = some (.builtin id)) (hg : glB X.env.scope (sst x) = true) (hn : nameB (sst x) = true) (hs : [b].all noStarB = true) (h : PE X b (tE X.K W C a)) : P2 X W C (.p1 o a) (.Call (.Name (sst x) p) [b] [] pos) := by
  refine .of ((L2.pe_callB hc (glB_gl hg) (ev.bl x hx) hv (pa_one (all_one hs) h) (nameB_ne hn).2.2 (nameB_ne hn).1 (noStar_eq (all_one hs) _ _) rfl).imp fun σ H Q q => ?_) isT_call
  exact t_p1 ok q
theorem p_ty {x : String} {id : String} {o : Op1} {r : List V → Hp → VK → Prop} {a : E} {b : Py} {p pos : PySem.Pos} (ev : Ev G X W C) (hc : CallR X (.type id) r) (ok : Ok1 X.K o (fun v H Q => r [v] H Q)) (hx : x ∈ bltNames)
    (hv : PySem.bootBuiltins (sst x) = some (.type id)) (hg : glB X.env.scope (sst x) = true) (hn : nameB (sst x) = true) (hs : [b].all noStarB = true) (h : PE X b (tE X.K W C a)) : P2 X W C (.p1 o a) (.Call (.Name (sst x) p) [b] [] pos) := by
  refine .of ((L2.pe_callTy hc (glB_gl hg) (ev.bl x hx) hv (pa_one (all_one hs) h) (nameB_ne hn).2.2 (nameB_ne hn).1 (noStar_eq (all_one hs) _ _) rfl).imp fun σ H Q q => ?_) isT_call
  exact t_p1 ok q
theorem p_fn2 {x : String} {id : String} {o : Op2} {r : L2.R2} {r' : List V → Hp → VK → Prop} {a a2 : E} {b b2 : Py} {p pos : PySem.Pos} (ev : Ev G X W C) (hc : CallR X (.builtin id) r') (hr : ∀ v u H Q, r v u H Q → r' [v, u] H Q) (ok : Ok2 X.K o r) (hx : x ∈ bltNames)
    (hv : PySem.bootBuiltins (sst x) = some (.builtin id)) (hg : glB X.env.scope (sst x) = true) (hn : nameB (sst x) = true) (hs : [b, b2].all noStarB = true) (h : PE X b (tE X.K W C a)) (h2 : PE X b2 (tE X.K W C a2)) : P2 X W C (.p2 o a a2) (.Call (.Name (sst x) p) [b, b2] [] pos) := by
  refine .of ((L2.pe_callB hc (glB_gl hg) (ev.bl x hx) hv (pa_two (all_two hs).1 (all_two hs).2 h h2) (nameB_ne hn).2.2 (nameB_ne hn).1 (noStar_eq (all_two hs).1 _ _) ?_).imp fun σ H Q q => ?_) isT_call
  · exact noStar_any (by simpa using (all_two hs).2)
  · obtain ⟨M, s, rt, q⟩ := t_p2 (r := fun v u H Q => r' [v, u] H Q) (fun M H σ s x y vx vy z Q a b c d e => hr _ _ _ _ (ok M H σ s x y vx vy z Q a b c d e)) q
    exact ⟨M, s, rt, q⟩
end
end KW
/-! KwTerm3: one operand. -/
namespace KW
open PySem (Str Addr Value Program World Heap Operator CmpOp binaryOp compareOp PyData Scope Const Env)
open PySem.Spec PyProof.Rows
open L2 (V Hp HO upd upd_same upd_ne upd_upd SqL SqT Rd RelV Mut TE TT TA TS WX PE PT PW PA PS PSs Cx Inv OpR UnR CallR MtR IxR SlR TruR VK EP XK rI0)
section
variable {G : Tabs} {X : Cx} {W : WX} {C : CallF} {σ : L2.St} {H : Hp} {Q : VK}
theorem vfn_one {sc : Scope} {p b : Py} {f : String} (h : (match vFn sc p with
      | some (x, [b]) => if decide (x = sst f) then some b else none
      | _ => none) = some b) : ∃ q r, p = .Call (.Name (sst f) q) [b] [] r ∧ glB sc (sst f) = true ∧ nameB (sst f) = true ∧ [b].all noStarB = true := by
  split at h
  · rename_i x b' e
    split at h
    · rename_i g
      injection h with h
      subst h
      obtain rfl := of_decide_eq_true g
      obtain ⟨q, r, h1, h2, h3, h4⟩ := vFn_eq e
      exact ⟨q, r, h1, h2, h3, h4⟩
    · cases h
  · cases h
theorem call_int {X : Cx} : CallR X (.type "int") (fun xs H Q => ((∃ i, xs = [V.int i] ∧ Q (.int i) H) ∨ ∃ k, xs = [V.bl k] ∧ Q (.int (if k then 1 else 0)) H) ∨ ∃ a n, xs = [V.str a] ∧ PySem.intText? a = some n ∧ a.length ≤ 640 ∧ Q (.int n) H) := L2.CallR.or L2.call_int1 L2.call_int_str
theorem call_lenD {X : Cx} : CallR X (.builtin "len") (fun xs H Q => ∃ a kvs, xs = [V.ref a] ∧ Rd H a (.dK kvs) ∧ Q (.int kvs.length) H) := by
  intro pins s σ H xs us Q I r h
  obtain ⟨a, kvs, rfl, ha, q⟩ := h
  obtain ⟨u, rfl, ru⟩ := L2.vals1 r
  cases ru
  exact L2.d_len I ha fun t s' I' => ⟨.int kvs.length, H, I', ⟨t, rfl⟩, q⟩
theorem call_len {X : Cx} : CallR X (.builtin "len") (rLen X.K) := L2.CallR.or L2.call_len call_lenD
theorem isT_un {b : Py} {pos : PySem.Pos} {env : Env} : ∀ whole, PySem.isTrue (.UnaryOp .USub b pos) env whole = (do let v ← whole; PySem.standAt (PySem.Expr.UnaryOp .USub b pos).pos; PySem.holding [v] (PySem.truthy v)) := fun _ => rfl
theorem p_neg {a : E} {b : Py} {pos : PySem.Pos} (h : PE X b (tE X.K W C a)) : P2 X W C (.p1 .neg a) (.UnaryOp .USub b pos) :=
  .of ((L2.pe_un L2.un_neg h).imp fun σ H Q q => t_p1 ok_neg q) isT_un

/-! ### is None -/
theorem bl_p1 {o : Op1} {a : E} (ho : ∀ h x z, run1 h o x = some z → ∃ b, z = .val (.bl b)) : ∀ s x s', evalE C (.p1 o a) s = .ok x s' → ∃ b, x = .val (.bl b) := fun s x s' h => by
  simp only [evalE] at h
  obtain ⟨u, s1, _, h⟩ := bind_is h
  exact ho _ _ _ (opt_ok h).1
theorem t_isN {a : E} (h : tE X.K W C (.p1 .isNone a) σ H Q) : L2.tOp (fun x y H Q => y = V.non ∧ Q (.bl (decide (x = .non))) H) (tE X.K W C a) (L2.tC .non) σ H Q := by
  obtain ⟨M, s, rt, h⟩ := h
  refine ⟨M, s, rt, ?_⟩
  simp only [evalE, pure] at h
  refine h.bind anti_relE (fun z => z) fun x s1 M1 H1 v hx e1 p1 rt1 rl1 h1 => ?_
  obtain ⟨z, ez, hz⟩ := (h1 _ fun z => z).op rt1
  obtain ⟨b, e, rfl⟩ := omap (show (oIsNone x).map (fun b => RV.val (.bl b)) = some z from ez)
  refine ⟨rfl, ?_⟩
  rw [ok_isNone (K := X.K) (σ := σ) rl1.1 e]
  exact give rt1 (.bl _) hz
theorem t_notN {a : E} (h : tE X.K W C (.p1 .notNone a) σ H Q) : L2.tOp (fun x y H Q => y = V.non ∧ Q (.bl (!decide (x = .non))) H) (tE X.K W C a) (L2.tC .non) σ H Q := by
  obtain ⟨M, s, rt, h⟩ := h
  refine ⟨M, s, rt, ?_⟩
  simp only [evalE, pure] at h
  refine h.bind anti_relE (fun z => z) fun x s1 M1 H1 v hx e1 p1 rt1 rl1 h1 => ?_
  obtain ⟨z, ez, hz⟩ := (h1 _ fun z => z).op rt1
  obtain ⟨b, e, rfl⟩ := omap (show (oIsNone x).map (fun b => RV.val (.bl (!b))) = some z from ez)
  refine ⟨rfl, ?_⟩
  rw [ok_isNone (K := X.K) (σ := σ) rl1.1 e]
  exact give rt1 (.bl _) hz
theorem nb {op : CmpOp} {b : Py} (h : noSetB b = true) : PySem.behindInMarks op b = false := by
  cases b <;> first | rfl | cases h
theorem p_isN {a : E} {b : Py} {j : Nat} {q pos : PySem.Pos} (h : PE X b (tE X.K W C a)) : P2 X W C (.p1 .isNone a) (.Compare b [.Is] [.Constant .none j q] pos) :=
  ⟨(L2.pe_cmpR L2.op_isN h L2.pe_non rfl).imp fun _ _ _ q => t_isN q, (L2.pt_cmpR L2.op_isN h L2.pe_non rfl).imp fun _ _ _ q => t_isN (t_test (bl_p1 fun h x z e => by
    obtain ⟨b, _, rfl⟩ := omap (show (oIsNone x).map (fun b => RV.val (.bl b)) = some z from e)
    exact ⟨b, rfl⟩) q)⟩
theorem p_notN {a : E} {b : Py} {j : Nat} {q pos : PySem.Pos} (h : PE X b (tE X.K W C a)) : P2 X W C (.p1 .notNone a) (.Compare b [.IsNot] [.Constant .none j q] pos) :=
  ⟨(L2.pe_cmpR L2.op_notN h L2.pe_non rfl).imp fun _ _ _ q => t_notN q, (L2.pt_cmpR L2.op_notN h L2.pe_non rfl).imp fun _ _ _ q => t_notN (t_test (bl_p1 fun h x z e => by
    obtain ⟨b, _, rfl⟩ := omap (show (oIsNone x).map (fun b => RV.val (.bl (!b))) = some z from e)
    exact ⟨_, rfl⟩) q)⟩
/-- proved elsewhere -/
def isMore : Op1 → Bool
  | .sorted | .sortedKeys | .listKeys | .sortedSet | .lenSet | .copy | .minL | .isFalse | .notFalse | .rev | .isTup => true
  | _ => false
/-- one operand -/
theorem p_one {o : Op1} {a : E} {py b : Py} (ev : Ev G X W C) (h : v1 X.env.scope o py = some b) (ih : PE X b (tE X.K W C a)) (more : isMore o = true → P2 X W C (.p1 o a) py) : P2 X W C (.p1 o a) py := by
  cases o with
  | len =>
    obtain ⟨q, r, rfl, h2, h3, h4⟩ := vfn_one h
    exact p_fn ev call_len ok_len (by decide) rfl h2 h3 h4 ih
  | abs =>
    obtain ⟨q, r, rfl, h2, h3, h4⟩ := vfn_one h
    exact p_fn ev L2.call_abs ok_abs (by decide) rfl h2 h3 h4 ih
  | ord =>
    obtain ⟨q, r, rfl, h2, h3, h4⟩ := vfn_one h
    exact p_fn ev L2.call_ord ok_ord (by decide) rfl h2 h3 h4 ih
  | sum =>
    obtain ⟨q, r, rfl, h2, h3, h4⟩ := vfn_one h
    exact p_fn ev (L2.cr_sum ev.calm) ok_sum (by decide) rfl h2 h3 h4 ih
  | all =>
    obtain ⟨q, r, rfl, h2, h3, h4⟩ := vfn_one h
    exact p_fn ev (L2.cr_all ev.calm) ok_all (by decide) rfl h2 h3 h4 ih
  | any =>
    obtain ⟨q, r, rfl, h2, h3, h4⟩ := vfn_one h
    exact p_fn ev (L2.cr_any ev.calm) ok_any (by decide) rfl h2 h3 h4 ih
  | int =>
    obtain ⟨q, r, rfl, h2, h3, h4⟩ := vfn_one h
    exact p_ty ev call_int ok_int (by decide) rfl h2 h3 h4 ih
  | str =>
    obtain ⟨q, r, rfl, h2, h3, h4⟩ := vfn_one h
    exact p_ty ev L2.call_str_int ok_str (by decide) rfl h2 h3 h4 ih
  | list =>
    obtain ⟨q, r, rfl, h2, h3, h4⟩ := vfn_one h
    exact p_ty ev L2.call_list_of ok_list (by decide) rfl h2 h3 h4 ih
  | tuple =>
    obtain ⟨q, r, rfl, h2, h3, h4⟩ := vfn_one h
    exact p_ty ev L2.call_tuple_of ok_tuple (by decide) rfl h2 h3 h4 ih
  | neg =>
    simp only [v1] at h
    split at h
    · injection h with h; subst h; exact p_neg ih
    · cases h
  | isNone =>
    simp only [v1] at h
    split at h
    · rename_i e
      injection h with h; subst h
      obtain ⟨q, rfl, _⟩ := vCmp_eq e
      exact p_isN ih
    · cases h
  | notNone =>
    simp only [v1] at h
    split at h
    · rename_i e
      injection h with h; subst h
      obtain ⟨q, rfl, _⟩ := vCmp_eq e
      exact p_notN ih
    · cases h
  | _ => exact more rfl
end
end KW
/-! KwTerm4: two operands. -/
namespace KW
open PySem (Str Addr Value Program World Heap Operator CmpOp binaryOp compareOp PyData Scope Const Env)
open PySem.Spec PyProof.Rows
open L2 (V Hp HO upd upd_same upd_ne upd_upd SqL SqT Rd RelV Mut TE TT TA TS WX PE PT PW PA PS PSs Cx Inv OpR UnR CallR MtR IxR SlR TruR VK EP XK rI0)

/-! ### places, counts -/
theorem pyds_get : ∀ (ys : List D) (j : Nat), (pyds ys)[j]? = (ys[j]?).map pyd
  | [], _ => by simp [pyds]
  | y :: ys, 0 => by simp [pyds]
  | y :: ys, j + 1 => by simp [pyds, pyds_get ys j]
theorem datas_get : ∀ {ys : List D} {j : Nat} {z : D}, isDatas ys = true → ys[j]? = some z → isData z = true
  | [], _, _, _, h => by simp at h
  | y :: ys, 0, z, g, h => by
    simp at h; subst h
    exact (Bool.and_eq_true_iff.mp (show (isData y && isDatas ys) = true from g)).1
  | y :: ys, j + 1, z, g, h => datas_get (Bool.and_eq_true_iff.mp (show (isData y && isDatas ys) = true from g)).2 (by simpa using h)
theorem ok_index {K : Fr} : Ok2 K .index (fun x y H Q => L2.rIndexD K x [y] H Q) := by
  intro M H σ s x y vx vy z Q rt rx ry hz hq
  obtain ⟨xs, h1, hz⟩ := obind (show oIndex s.h x y = some z from hz)
  obtain ⟨d, h2, hz⟩ := obind hz
  obtain ⟨g, hz⟩ := oif hz
  obtain ⟨j, h3, rfl⟩ := omap hz
  obtain ⟨g1, g2⟩ := Bool.and_eq_true_iff.mp g
  obtain ⟨a, vs, rfl, r1, r2⟩ := lst_at rt rx h1
  obtain ⟨p1, p2⟩ := dp_at rt ry h2 g1
  obtain ⟨p3, p4⟩ := list_shape rt.hp.wf g2 r1 r2
  have hd := (datas_of_shaped g2).1
  obtain ⟨hj, hp, hno⟩ := List.findIdx?_eq_some_iff_getElem.mp h3
  have e : xs[j]? = some xs[j] := List.getElem?_eq_getElem hj
  refine ⟨a, vy, pyd d, pyds xs, j, pyd xs[j], rfl, rfl, p3, p1, p4, p2, by rw [pyds_get, e]; rfl, ?_, fun m z' hm hz' => ?_, give rt (.int _) hq⟩
  · rw [← deq_eqv _ _ (datas_get hd e) (isData_of g1)]; exact hp
  · rw [pyds_get] at hz'
    have em : xs[m]? = some xs[m] := List.getElem?_eq_getElem (by omega)
    rw [em] at hz'
    injection hz' with hz'
    rw [← hz', ← deq_eqv _ _ (datas_get hd em) (isData_of g1)]
    simpa using hno m hm
def rCntB (K : Fr) : V → List V → Hp → VK → Prop := fun x xs H Q => ∃ (p : Addr) (bs : List Bool) (b : Bool), x = .ref p ∧ xs = [.bl b] ∧ SqL K H p (bs.map V.bl) ∧ Q (.int (bs.count b : Nat)) H
theorem bl_dps {K : Fr} {H : Hp} : ∀ bs : List Bool, L2.DpAll K H (bs.map V.bl) (bs.map PyData.bool)
  | [] => .nil
  | b :: bs => .cons (.bl b) (bl_dps bs)
theorem bl_plain : ∀ bs : List Bool, PyData.plainAll (bs.map PyData.bool) = true
  | [] => rfl
  | b :: bs => by
    show (PyData.plain (.bool b) && PyData.plainAll (bs.map PyData.bool)) = true
    rw [bl_plain bs]; rfl
theorem bl_count (b : Bool) : ∀ bs : List Bool, (bs.map PyData.bool).countP (fun y => PyData.eqv y (.bool b)) = bs.count b
  | [] => rfl
  | c :: bs => by
    rw [List.map_cons, List.countP_cons, bl_count b bs, List.count_cons]
    cases b <;> cases c <;> rfl
theorem mt_countB {X : Cx} (hu : X.A.units + 65 < PySem.cLine) : MtR X "list.count" (rCntB X.K) := by
  intro pins s σ H x xs v us Q I rx rxs h
  obtain ⟨p, bs, b, rfl, rfl, hs, q⟩ := h
  cases rx
  obtain ⟨u, rfl, ru⟩ := rxs.one
  obtain rfl : u = .bool b := ru
  obtain ⟨its, rv, ⟨o, n, ho, hc, hdn, hd⟩, hlen⟩ := I.list hs
  obtain ⟨as, ra⟩ := L2.Dp.readsAll I _ _ its (bl_dps bs) rv
  obtain ⟨zs, rz⟩ := L2.Dp.reads I (.bool b) (.bl b) (.bool b) (.bl b) rfl
  refine PySem.SeqAt.count_list_data (vs := its.toArray) ⟨o, ho, hc, n, hd⟩ (show PySem.ReadsAll s.heap its.toArray.toList _ as from ra) rz (bl_plain bs) rfl ?_ ?_
  · have : min (PyData.depthAll (bs.map PyData.bool)) (PyData.bool b).depth ≤ 0 := Nat.min_le_right _ _
    omega
  · rw [bl_count]
    exact ⟨.int _, H, I.tok _, ⟨_, rfl⟩, q⟩
theorem ok_count {K : Fr} : Ok2 K .count (fun x y H Q => rCntB K x [y] H Q) := by
  intro M H σ s x y vx vy z Q rt rx ry hz hq
  obtain ⟨xs, h1, hz⟩ := obind (show oCount s.h x y = some z from hz)
  split at hz
  · obtain ⟨bs, h2, rfl⟩ := omap hz
    obtain ⟨a, vs, rfl, r1, r2⟩ := lst_at rt rx h1
    cases bools_at h2 r2
    cases bl_at ry
    exact ⟨a, bs, _, rfl, rfl, .inl r1, give rt (.int _) hq⟩
  · cases hz
section
variable {G : Tabs} {X : Cx} {W : WX} {C : CallF} {σ : L2.St} {H : Hp} {Q : VK}
theorem isT_bin {a b : Py} {o : Operator} {pos : PySem.Pos} {env : Env} : ∀ whole, PySem.isTrue (.BinOp a o b pos) env whole = (do let v ← whole; PySem.standAt (PySem.Expr.BinOp a o b pos).pos; PySem.holding [v] (PySem.truthy v)) := fun _ => rfl
theorem isT_sub {a b : Py} {pos : PySem.Pos} {env : Env} : ∀ whole, PySem.isTrue (.Subscript a b pos) env whole = (do let v ← whole; PySem.standAt (PySem.Expr.Subscript a b pos).pos; PySem.holding [v] (PySem.truthy v)) := fun _ => rfl
theorem p_bin {o : Op2} {op : Operator} {r : L2.R2} {a b : E} {c d : Py} {pos : PySem.Pos} (ho : OpR X (binaryOp op) r) (ok : Ok2 X.K o r) (ha : PE X c (tE X.K W C a)) (hb : PE X d (tE X.K W C b)) : P2 X W C (.p2 o a b) (.BinOp c op d pos) :=
  .of ((L2.pe_op ho ha hb).imp fun _ _ _ q => t_p2 ok q) isT_bin
theorem p_cmp {o : CmpO} {op : CmpOp} {r : L2.R2} {a b : E} {c d : Py} {pos : PySem.Pos} (ho : OpR X (compareOp op) r) (ok : Ok2 X.K (.cmp o) r) (hs : noSetB d = true) (ha : PE X c (tE X.K W C a)) (hb : PE X d (tE X.K W C b)) : P2 X W C (.p2 (.cmp o) a b) (.Compare c [op] [d] pos) :=
  ⟨(L2.pe_cmpR ho ha hb (nb hs)).imp fun _ _ _ q => t_p2 ok q, (L2.pt_cmpR ho ha hb (nb hs)).imp fun σ H Q q => by
    obtain ⟨M, s, rt, h⟩ := t_p2 ok (t_test cmp_bl q)
    exact ⟨M, s, rt, h⟩⟩
theorem plainIx {b : Py} (h : noSliceB b = true) : L2.PlainIx b := fun o i => by cases b <;> first | rfl | cases h
theorem p_idx {a b : E} {c d : Py} {pos : PySem.Pos} (ev : Ev G X W C) (hs : noSliceB d = true) (ha : PE X c (tE X.K W C a)) (hb : PE X d (tE X.K W C b)) : P2 X W C (.p2 .idx a b) (.Subscript c d pos) :=
  .of ((L2.pe_ix (ix_all (by have := ev.hu; omega)) ha hb (plainIx hs)).imp fun _ _ _ q => t_p2 ok_idx q) isT_sub
/-- a method of one argument -/
theorem t_m2 {o : Op2} {T : String} {r : V → List V → Hp → VK → Prop} {a b : E} (ok : Ok2 X.K o (fun x y H Q => r x [y] H Q)) (ty : ∀ (M : MM) (H : Hp) (σ : L2.St) (s : S) (x : RV) (v : V), RT X.K M H σ s → RR X.K s.h.length M H x v → recv2 s.h o x = true → L2.tyV X.K T v H)
    (h : tE X.K W C (.p2 o a b) σ H Q) : L2.tBM X.K T r (tE X.K W C a) (L2.tCons (tE X.K W C b) L2.tNil) σ H Q := by
  obtain ⟨M, s, rt, h⟩ := h
  refine ⟨M, s, rt, ?_⟩
  simp only [evalE, pure] at h
  refine h.bind anti_relE (fun z => (Bool.and_eq_true_iff.mp z).1) fun x s1 M1 H1 v hx e1 p1 rt1 rl1 h1 => ?_
  have h1 := h1 (pure b) fun z => (Bool.and_eq_true_iff.mp z).2
  by_cases g0 : ((isPk x && !pure b) || !recv2 s1.h o x) = true
  · rw [if_pos g0] at h1; exact h1.2.elim
  rw [if_neg g0] at h1
  have g : ¬ (isPk x && !pure b) = true := fun z => g0 (Bool.or_eq_true_iff.mpr (.inl z))
  have g2 : recv2 s1.h o x = true := by
    cases z : recv2 s1.h o x with
    | true => rfl
    | false => exact absurd (Bool.or_eq_true_iff.mpr (.inr (by rw [z]; rfl))) g0
  refine ⟨ty _ _ _ _ _ _ rt1 rl1.1 g2, M1, s1, rt1, h1.bind anti_relE (fun z => z) fun y s2 M2 H2 u hy e2 p2 rt2 rl2 h2 => ?_⟩
  obtain ⟨z, ez, hz⟩ := (h2 _ fun z => z).op rt2
  have rx : RR X.K s2.h.length M2 H2 x v := by
    cases q : isPk x with
    | false => exact rl1.1.mono rt1.hp.wf e2 q
    | true =>
      have pb : pure b = true := by cases z : pure b with
        | true => rfl
        | false => exact absurd (by rw [q, z]; rfl) g
      obtain ⟨es, gr⟩ := p2 pb
      rw [es]
      exact rl1.1.grow rt1.hp.wf gr
  exact ok M2 H2 σ s2 x y v u z Q rt2 rx rl2.1 ez hz
theorem ty_str {o : Op2} (ho : o = .startswith ∨ o = .join) {K : Fr} : ∀ (M : MM) (H : Hp) (σ : L2.St) (s : S) (x : RV) (v : V), RT K M H σ s → RR K s.h.length M H x v → recv2 s.h o x = true → L2.tyV K "str" v H := by
  intro M H σ s x v rt rr h
  have : ∃ t, x = .val (.str t) := by
    rcases ho with rfl | rfl <;> (simp only [recv2] at h; split at h <;> first | exact ⟨_, rfl⟩ | cases h)
  obtain ⟨t, rfl⟩ := this
  obtain ⟨rfl, _⟩ := str_at rr
  rfl
theorem lst_ty {K : Fr} {M : MM} {H : Hp} {σ : L2.St} {s : S} {x : RV} {v : V} (rt : RT K M H σ s) (rr : RR K s.h.length M H x v) (h : (lstOf s.h x).isSome = true) : L2.tyV K "list" v H := by
  obtain ⟨xs, h⟩ := Option.isSome_iff_exists.mp h
  obtain ⟨a, vs, rfl, r1, _⟩ := lst_at rt rr h
  exact .inl ⟨rfl, vs, .inl r1⟩
theorem ty_lst {o : Op2} (ho : o = .index ∨ o = .count) {K : Fr} : ∀ (M : MM) (H : Hp) (σ : L2.St) (s : S) (x : RV) (v : V), RT K M H σ s → RR K s.h.length M H x v → recv2 s.h o x = true → L2.tyV K "list" v H := by
  intro M H σ s x v rt rr h
  exact lst_ty rt rr (by rcases ho with rfl | rfl <;> exact h)
theorem vm_two {sc : Scope} {py b d : Py} {n : String} (h : v2.vm2 py n = some (b, d)) : ∃ p1 p2, py = .Call (.Attribute b (sst n) p1) [d] [] p2 ∧ baseB b = true ∧ p1.endLine = p2.line ∧ [d].all noStarB = true := by
  unfold v2.vm2 at h
  split at h
  · rename_i b' m d' e
    split at h
    · rename_i g
      injection h with h
      injection h with h1 h2
      subst h1 h2
      obtain rfl := of_decide_eq_true g
      obtain ⟨p1, p2, h1, h2, h3, _, h4⟩ := vAt_eq e
      exact ⟨p1, p2, h1, h2, h3, h4⟩
    · cases h
  · cases h
theorem vf_two {sc : Scope} {py b d : Py} {n : String} (h : v2.vf2 sc py n = some (b, d)) : ∃ q r, py = .Call (.Name (sst n) q) [b, d] [] r ∧ glB sc (sst n) = true ∧ nameB (sst n) = true ∧ [b, d].all noStarB = true := by
  unfold v2.vf2 at h
  split at h
  · rename_i x b' d' e
    split at h
    · rename_i g
      injection h with h
      injection h with h1 h2
      subst h1 h2
      obtain rfl := of_decide_eq_true g
      obtain ⟨q, r, h1, h2, h3, h4⟩ := vFn_eq e
      exact ⟨q, r, h1, h2, h3, h4⟩
    · cases h
  · cases h
theorem p_m2 {o : Op2} {T id n : String} {r : V → List V → Hp → VK → Prop} {a b : E} {c d : Py} {p1 p2 : PySem.Pos} (pa : PySem.PlainAttrs T) (slot : PySem.Slot T (sst n) id) (hty : PySem.typeOf (.builtin id) = Pure.pure (Value.type "method_descriptor")) (hm : MtR X id r)
    (ok : Ok2 X.K o (fun x y H Q => r x [y] H Q)) (ty : ∀ (M : MM) (H : Hp) (σ : L2.St) (s : S) (x : RV) (v : V), RT X.K M H σ s → RR X.K s.h.length M H x v → recv2 s.h o x = true → L2.tyV X.K T v H)
    (hb : baseB c = true) (hl : p1.endLine = p2.line) (hs : [d].all noStarB = true) (ha : PE X c (tE X.K W C a)) (hd : PE X d (tE X.K W C b)) : P2 X W C (.p2 o a b) (.Call (.Attribute c (sst n) p1) [d] [] p2) := by
  refine .of ((L2.pe_bm pa slot hty hm ha (pa_one (all_one hs) hd) (base_ok hb _ _) (few_ok hs (by simp)) (by rw [hl]; exact beq_self_eq_true _) (noStar_eq (all_one hs) _ _) rfl).imp fun σ H Q q => ?_) isT_call
  exact t_m2 ok ty q
def cmpOf : CmpO → CmpOp
  | .eq => .Eq
  | .ne => .NotEq
  | .lt => .Lt
  | .le => .LtE
  | .gt => .Gt
  | .ge => .GtE
  | .isIn => .In
  | .notIn => .NotIn
theorem cmpB_eq {o : CmpO} {q : CmpOp} (h : cmpB o q = true) : q = cmpOf o := by
  cases o <;> cases q <;> first | rfl | cases h
theorem op_any {o : CmpO} (ev : Ev G X W C) : ∃ r, OpR X (compareOp (cmpOf o)) r ∧ Ok2 X.K (.cmp o) r := by
  have hu := ev.hu
  cases o with
  | eq => exact ⟨_, L2.op_eqD (by omega), ok_eq⟩
  | ne => exact ⟨_, L2.op_neD (by omega), ok_ne⟩
  | lt => exact ⟨_, L2.op_lt, ok_lt⟩
  | le => exact ⟨_, L2.op_le, ok_le⟩
  | gt => exact ⟨_, L2.op_gt, ok_gt⟩
  | ge => exact ⟨_, L2.op_ge, ok_ge⟩
  | isIn => exact ⟨_, op_inAll hu, ok_in⟩
  | notIn => exact ⟨_, op_notInAll hu, ok_notIn⟩
/-- two operands -/
theorem p_two {o : Op2} {a b : E} {py c d : Py} (ev : Ev G X W C) (h : v2 X.env.scope o py = some (c, d)) (ha : PE X c (tE X.K W C a)) (hb : PE X d (tE X.K W C b)) : P2 X W C (.p2 o a b) py := by
  have bin : ∀ {op : Operator} {r : L2.R2} (ho : OpR X (binaryOp op) r) (ok : Ok2 X.K o r) (hop : ∀ op', op2B o op' = true → op' = op), vBin o py = some (c, d) → P2 X W C (.p2 o a b) py := fun {op r} ho ok hop h => by
    unfold vBin at h
    split at h
    · split at h
      · rename_i g
        injection h with h
        injection h with h1 h2
        subst h1 h2
        rw [hop _ g]
        exact p_bin ho ok ha hb
      · cases h
    · cases h
  cases o with
  | add => exact bin op_add ok_add (fun op' g => by cases op' <;> first | rfl | cases g) h
  | sub => exact bin L2.op_sub ok_sub (fun op' g => by cases op' <;> first | rfl | cases g) h
  | mul => exact bin op_mul ok_mul (fun op' g => by cases op' <;> first | rfl | cases g) h
  | fdiv => exact bin L2.op_fdiv ok_div (fun op' g => by cases op' <;> first | rfl | cases g) h
  | mod => exact bin L2.op_mod ok_mod (fun op' g => by cases op' <;> first | rfl | cases g) h
  | cmp o =>
    simp only [v2] at h
    split at h
    · rename_i e
      split at h
      · rename_i g
        injection h with h
        injection h with h1 h2
        subst h1 h2
        obtain ⟨q, rfl, hs⟩ := vCmp_eq e
        obtain rfl := cmpB_eq g
        obtain ⟨r, h1, h2⟩ := op_any (o := o) ev
        exact p_cmp h1 h2 hs ha hb
      · cases h
    · cases h
  | idx =>
    obtain ⟨q, rfl, hs⟩ := vSub_eq h
    exact p_idx ev hs ha hb
  | slFrom =>
    simp only [v2] at h
    split at h
    · injection h with h
      injection h with h1 h2
      subst h1 h2
      exact .of ((L2.pe_slice sl_all ha (L2.po_some hb) L2.po_none).imp fun _ _ _ q => t_slFrom q) isT_sub
    · cases h
  | slTo =>
    simp only [v2] at h
    split at h
    · injection h with h
      injection h with h1 h2
      subst h1 h2
      exact .of ((L2.pe_slice sl_all ha L2.po_none (L2.po_some hb)).imp fun _ _ _ q => t_slTo q) isT_sub
    · cases h
  | startswith =>
    obtain ⟨p1, p2, rfl, h1, h2, h3⟩ := vm_two (sc := X.env.scope) h
    exact p_m2 PySem.F.plainAttrs_str PySem.F.slot_str_startswith PySem.F.type_str_startswith L2.mt_startswith ok_start (ty_str (.inl rfl)) h1 h2 h3 ha hb
  | join =>
    obtain ⟨p1, p2, rfl, h1, h2, h3⟩ := vm_two (sc := X.env.scope) h
    exact p_m2 PySem.F.plainAttrs_str PySem.F.slot_str_join PySem.F.type_str_join L2.mt_join ok_join (ty_str (.inr rfl)) h1 h2 h3 ha hb
  | index =>
    obtain ⟨p1, p2, rfl, h1, h2, h3⟩ := vm_two (sc := X.env.scope) h
    exact p_m2 PySem.F.plainAttrs_list PySem.F.slot_list_index PySem.F.type_list_index (L2.mt_indexD ev.hu) ok_index (ty_lst (.inl rfl)) h1 h2 h3 ha hb
  | count =>
    obtain ⟨p1, p2, rfl, h1, h2, h3⟩ := vm_two (sc := X.env.scope) h
    exact p_m2 PySem.F.plainAttrs_list PySem.F.slot_list_count PySem.F.type_list_count (mt_countB ev.hu) ok_count (ty_lst (.inr rfl)) h1 h2 h3 ha hb
  | min2 =>
    obtain ⟨q, r, rfl, h2, h3, h4⟩ := vf_two h
    exact p_fn2 ev (L2.call_min2 ev.calm) (fun v u H Q ⟨i, j, e1, e2, k⟩ => ⟨i, j, by rw [e1, e2], k⟩) ok_min2 (by decide) rfl h2 h3 h4 ha hb
  | max2 =>
    obtain ⟨q, r, rfl, h2, h3, h4⟩ := vf_two h
    exact p_fn2 ev (L2.call_max2 ev.calm) (fun v u H Q ⟨i, j, e1, e2, k⟩ => ⟨i, j, by rw [e1, e2], k⟩) ok_max2 (by decide) rfl h2 h3 h4 ha hb
end
end KW
/-! KwTerm5: displays, fields, calls, methods, new instances, changes. -/
namespace KW
open PySem (Str Addr Value Program World Heap Operator CmpOp binaryOp compareOp PyData Scope Const Env)
open PySem.Spec PyProof.Rows
open L2 (V Hp HO upd upd_same upd_ne upd_upd SqL SqT Rd RelV Mut TE TT TA TS WX PE PT PW PA PS PSs Cx Inv OpR UnR CallR MtR IxR SlR TruR VK EP XK rI0)
section
variable {G : Tabs} {X : Cx} {W : WX} {C : CallF} {σ : L2.St} {H : Hp} {Q : VK}
/-! ### displays -/
theorem exports_len : ∀ {es : List E} {s : S} {ds : List D} {s' : S}, evalEs C es s = .ok ds s' → ds.length = es.length
  | [], _, _, _, h => by simp only [evalEs] at h; cases h; rfl
  | e :: es, s, ds, s', h => by
    simp only [evalEs] at h
    obtain ⟨d, s1, _, h⟩ := bind_is h
    obtain ⟨ds2, s2, h2, h⟩ := bind_is h
    cases h
    rw [List.length_cons, List.length_cons, exports_len h2]
theorem t_tup {es : List E} (hl : es.length < 1000) (h : tE X.K W C (.tup es) σ H Q) : L2.tTup (tEs X.K W C es) σ H Q := by
  obtain ⟨M, s, rt, h⟩ := h
  refine ⟨M, s, rt, ?_⟩
  simp only [evalE, pure] at h
  refine h.bind anti_relE (fun z => z) fun ds s1 M1 H1 vs hx e1 p1 rt1 rl1 h1 => ?_
  have hl1 := RD.len_eq rl1
  refine ⟨by rw [sizeLine_is, ← hl1, exports_len hx]; show _ ≤ 16777216; omega, give_tup rt1 rl1 fun M' H' v g rt' rr fr => ?_⟩
  exact (h1 true fun _ => rfl).2 M' H' v g.ext (fun _ => ⟨rfl, g⟩) rt' ⟨rr, fr⟩
theorem t_lst {es : List E} (h : tE X.K W C (.lst es) σ H Q) : L2.tLst (tEs X.K W C es) σ H Q := by
  obtain ⟨M, s, rt, h⟩ := h
  refine ⟨M, s, rt, ?_⟩
  simp only [evalE, pure] at h
  refine h.bind anti_relE (fun z => z) fun ds s1 M1 H1 vs hx e1 p1 rt1 rl1 h1 => ?_
  obtain ⟨z, ez, hz⟩ := (h1 _ fun z => z).op rt1
  obtain ⟨rfl, g⟩ := newLst_some ez
  have hl1 := RD.len_eq rl1
  exact ⟨by rw [sizeLine_is, ← hl1]; exact g, give_lst rt1 rl1 hz⟩
theorem isT_tup {xs : List Py} {k : Nat} {pos : PySem.Pos} {env : Env} : ∀ whole, PySem.isTrue (.Tuple xs k pos) env whole = (do let v ← whole; PySem.standAt (PySem.Expr.Tuple xs k pos).pos; PySem.holding [v] (PySem.truthy v)) := fun _ => rfl
theorem isT_lst {xs : List Py} {pos : PySem.Pos} {env : Env} : ∀ whole, PySem.isTrue (.List xs pos) env whole = (do let v ← whole; PySem.standAt (PySem.Expr.List xs pos).pos; PySem.holding [v] (PySem.truthy v)) := fun _ => rfl
theorem p_tup {es : List E} {xs : List Py} {k : Nat} {pos : PySem.Pos} (hl : es.length < 1000) (h : PA X xs (tEs X.K W C es)) : P2 X W C (.tup es) (.Tuple xs k pos) :=
  .of ((L2.pe_tup h).imp fun _ _ _ q => t_tup hl q) isT_tup
theorem p_lst {es : List E} {xs : List Py} {pos : PySem.Pos} (h : PA X xs (tEs X.K W C es)) : P2 X W C (.lst es) (.List xs pos) :=
  .of ((L2.pe_lst h).imp fun _ _ _ q => t_lst q) isT_lst
theorem pa_nil : PA X [] (tEs X.K W C []) := L2.pa_nil.imp fun _ _ _ q => t_nil q
theorem pa_cons {e : E} {es : List E} {x : Py} {xs : List Py} (hs : noStarB x = true) (h : PE X x (tE X.K W C e)) (t : PA X xs (tEs X.K W C es)) : PA X (x :: xs) (tEs X.K W C (e :: es)) :=
  (L2.pa_cons h t (noStar_eq hs _ _)).imp fun _ _ _ q => t_cons q

/-! ### fields -/
theorem t_fld {cs : List String} {e : E} {f : String} (hc : ∀ c, cs.contains c = true → L2.Cls X.K (cA X.K c) ∧ L2.NoAttr X.K (cA X.K c) (sst f)) (h : tE X.K W C (.fld cs e f) σ H Q) : L2.tFld X.K (tE X.K W C e) (sst f) σ H Q := by
  obtain ⟨M, s, rt, h⟩ := h
  refine ⟨M, s, rt, ?_⟩
  simp only [evalE, pure] at h
  refine h.bind anti_relE (fun z => z) fun x s1 M1 H1 v hx e1 p1 rt1 rl1 h1 => ?_
  have h1 := h1 true fun _ => rfl
  split at h1
  · rename_i i
    split at h1
    · rename_i c fs q
      split at h1
      · rename_i gc
        split at h1
        · rename_i sv qf
          cases rl1.1 with
          | val rd =>
            cases rd with
            | ref hi =>
              cases rt1.hp.cell _ _ q with
              | ins c1 c2 c3 =>
                obtain ⟨u, l1, l2⟩ := c3.get qf
                obtain ⟨k1, k2⟩ := hc c gc
                refine ⟨_, _, _, _, u, rfl, c1, k1, k2, l1, h1.2 M1 H1 u .refl (fun _ => ⟨rfl, .refl⟩) rt1 ⟨?_, fun c z => (no_own_rv z).elim⟩⟩
                cases l2 with
                | val r => exact .val r
                | own r1 r2 => exact .pk r1 r2
        · exact h1.2.elim
      · exact h1.2.elim
    · exact h1.2.elim
  · rename_i cl fs
    cases rl1.1 with
    | val rd => cases rd
  · exact h1.2.elim
theorem isT_attr {b : Py} {f : Str} {pos : PySem.Pos} {env : Env} : ∀ whole, PySem.isTrue (.Attribute b f pos) env whole = (do let v ← whole; PySem.standAt (PySem.Expr.Attribute b f pos).pos; PySem.holding [v] (PySem.truthy v)) := fun _ => rfl
theorem p_fld {cs : List String} {e : E} {f : String} {b : Py} {pos : PySem.Pos} (hc : ∀ c, cs.contains c = true → L2.Cls X.K (cA X.K c) ∧ L2.NoAttr X.K (cA X.K c) (sst f)) (hb : baseB b = true) (h : PE X b (tE X.K W C e)) : P2 X W C (.fld cs e f) (.Attribute b (sst f) pos) :=
  .of ((L2.pe_fld h (base_ok hb _ _)).imp fun _ _ _ q => t_fld hc q) isT_attr

/-! ### calls -/
theorem t_call {f : String} {es : List E} (h : tE X.K W C (.call f es) σ H Q) : L2.tCallS (spOf X.K C f) (L2.WE W) (tEs X.K W C es) σ H Q := by
  obtain ⟨M, s, rt, h⟩ := h
  refine ⟨M, s, rt, ?_⟩
  simp only [evalE, pure] at h
  refine h.bind anti_relE (fun z => by cases z) fun ds s1 M1 H1 vs hx e1 p1 rt1 rl1 h1 => ?_
  exact sp_call rt1 rl1 (h1 false fun z => by cases z) rfl
theorem p_call {f : String} {es : List E} {x : Py} {xs : List Py} {p pos : PySem.Pos} (ev : Ev G X W C) (hf : G.fs.contains f = true) (hg : glB X.env.scope (sst f) = true) (hn : nameB (sst f) = true) (hs : (x :: xs).all noStarB = true) (h : PA X (x :: xs) (tEs X.K W C es)) :
    P2 X W C (.call f es) (.Call (.Name (sst f) p) (x :: xs) [] pos) := by
  obtain ⟨a, hm, fd, ps, k, hk, hb, F, hr⟩ := ev.fs f hf
  have hr : L2.Room k X.A := hr.mono (Nat.le_succ k)
  obtain ⟨h1, h2⟩ := Bool.and_eq_true_iff.mp (show (noStarB x && xs.all noStarB) = true from hs)
  exact .of ((L2.pe_callS F hr (glB_gl hg) hm hk hb (L2.passAt ev.tk) h (nameB_ne hn).1 (noStar_eq h1 _ _) (noStar_any h2)).imp fun _ _ _ q => t_call q) isT_call
theorem p_call0 {f : String} {p pos : PySem.Pos} (ev : Ev G X W C) (hf : G.fs.contains f = true) (hg : glB X.env.scope (sst f) = true) (hn : nameB (sst f) = true) : P2 X W C (.call f []) (.Call (.Name (sst f) p) [] [] pos) := by
  obtain ⟨a, hm, fd, ps, k, hk, hb, F, hr⟩ := ev.fs f hf
  have hr : L2.Room k X.A := hr.mono (Nat.le_succ k)
  refine .of ⟨fun pins s σ H Q I q => ?_⟩ isT_call
  have q : spOf X.K C f [] H Q (L2.WE W σ) := t_nil (t_call q)
  refine PySem.wpAny_Call_Name_kw (L2.ld_glob I (glB_gl hg) hm ?_ (nameB_ne hn).1)
  exact PySem.W.callWith_K0 I.kIn hk (L2.run_fnS (us := []) (E := L2.WE W) F hr hb (L2.passAt ev.tk σ) I .nil q)

/-! ### methods -/
theorem meth_tree {o : Py} {m : Str} {xs : List Py} {apos pos : PySem.Pos} {env : Env} (hb : baseB o = true) (hl : apos.endLine = pos.line) (hs : xs.all noStarB = true) (hn : xs.length < 20) :
    PySem.eval (.Call (.Attribute o m apos) xs [] pos) env = (do
      let ov ← PySem.eval o env
      PySem.standAt apos.atName
      let (f, first) ← PySem.holding [ov] (PySem.getMethod ov m (do return (← PySem.importBound o env).getD true))
      PySem.callWith pos f first (PySem.backTo pos (PySem.starEach xs env)) (PySem.backToKw pos (PySem.keywordEach [] env))) := by
  show (do
    let ov ← PySem.attributeBase o m env (PySem.eval o env)
    PySem.standAt apos.atName
    PySem.methodCall o m apos pos env ov (xs.length + 0) (PySem.backTo pos (PySem.starEach xs env)) (PySem.backToKw pos (PySem.keywordEach [] env))) = _
  rw [base_ok hb]
  have few : PySem.methodCallForm (xs.length + 0) (PySem.backTo pos (PySem.starEach xs env)) (PySem.backToKw pos (PySem.keywordEach [] env)) = true := by
    unfold PySem.methodCallForm
    have := noStar_all (pos := pos) (env := env) hs
    simp only [Bool.and_eq_true, decide_eq_true_eq]
    refine ⟨⟨by simpa using this, rfl⟩, ?_⟩
    simp [PySem.keywordEach, PySem.backToKw]
    omega
  have el : (apos.endLine == pos.line) = true := by rw [hl]; exact beq_self_eq_true _
  unfold PySem.methodCall PySem.calleeOf PySem.methodCallPos
  rw [few]
  simp only [el, Bool.not_true, Bool.false_or, if_true, pure_bind]
/-- o.m(..), o of the class at D -/
def tMth (D : Addr) (m : Str) (sp : L2.Sp) (Ex : L2.St → XK) (ta : TE) (t : TA) : TE := fun σ H Q => ta σ H fun x H1 => ∃ a dx fs, x = .ref a ∧ H1 a = some (.ins D dx fs) ∧ fs.lookup m = none ∧ t σ H1 fun vs H2 => sp (x :: vs) H2 Q (Ex σ)
theorem pe_mth {CX : L2.CXT} {k : Nat} {D f : Addr} {m : Str} {fd : PySem.FuncData} {ps : List Str} {sp : L2.Sp} {Ex : L2.St → XK} {o : Py} {xs : List Py} {ta : TE} {t : TA} {apos pos : PySem.Pos} (he : PE X o ta) (c : L2.Cls X.K D) (hm : L2.Meth X.K D m f) (F : L2.FnOk X.prog X.w X.K X.mg X.base CX k f fd ps sp) (hr : L2.Room k X.A)
    (hbd : L2.Binds X.K fd ps []) (hx : ∀ σ, L2.PassesAt CX X σ (Ex σ)) (hb : baseB o = true) (hl : apos.endLine = pos.line) (hs : xs.all noStarB = true) (hn : xs.length < 20) (ha : PA X xs t) (h0 : xs = [] → ∀ σ H Q, t σ H Q → L2.tNil σ H Q) :
    PE X (.Call (.Attribute o m apos) xs [] pos) (tMth D m sp Ex ta t) := by
  refine ⟨fun pins s σ H Q I h => ?_⟩
  refine PySem.W.methodCall_KW (L2.thn (he.run pins s σ H _ I h) fun u s1 ⟨x, H1, I1, rx, a, dx, fs, ex, ea, l, q⟩ => ?_) (meth_tree hb hl hs hn)
  subst ex
  obtain rfl : u = Value.ref a := rx
  refine L2.getmeth_ok I1 ea c hm l ?_
  cases xs with
  | nil =>
    have q := h0 rfl _ _ _ q
    exact PySem.W.callWith_K0 (first := [.ref a]) I1.kIn hm.kp (L2.run_fnS (us := [.ref a]) (vs := [.ref a]) (E := Ex) F hr hbd (hx σ) I1 (.cons rfl .nil) q)
  | cons x xs =>
    obtain ⟨h1, h2⟩ := Bool.and_eq_true_iff.mp (show (noStarB x && xs.all noStarB) = true from hs)
    refine PySem.W.callWith_K (first := [.ref a]) (h₀ := X.base) I1.ok.mod.kin hm.kp (L2.thn (ha.run pos pins s1 σ H1 _ I1 q) fun us s2 ⟨vs, H2, I2, r, q2⟩ => ⟨I2.kIn, ?_⟩) (noStar_eq h1 _ _) (noStar_any h2)
    exact L2.run_fnS (us := .ref a :: us) (vs := .ref a :: vs) (E := Ex) F hr hbd (hx σ) I2 (.cons rfl r) q2
theorem RFs.miss {K : Fr} {n : Nat} {M : MM} {H : Hp} {i : Nat} {f : String} : ∀ {fs : List (String × SV)} {gs : List (Str × V)}, RFs K n M H i fs gs → ffind f fs = none → gs.lookup (sst f) = none
  | _, _, .nil, _ => rfl
  | _, _, .cons (f := g) a b, h => by
    unfold ffind at h
    rw [List.lookup_cons] at h
    rw [List.lookup_cons]
    by_cases e : f = g
    · subst e; simp at h
    · have e1 : (f == g) = false := by simpa using e
      have e2 : (sst f == sst g) = false := by simpa using fun z => e (sst_inj z)
      rw [e1] at h
      rw [e2]
      exact RFs.miss b h
theorem t_meth {c m : String} {e : E} {es : List E} (h : tE X.K W C (.meth c m e es) σ H Q) : tMth (cA X.K c) (sst m) (spOf X.K C (c ++ "." ++ m)) (L2.WE W) (tE X.K W C e) (tEs X.K W C es) σ H Q := by
  obtain ⟨M, s, rt, h⟩ := h
  refine ⟨M, s, rt, ?_⟩
  simp only [evalE, pure] at h
  refine h.bind anti_relE (fun z => by cases z) fun x s1 M1 H1 v hx e1 p1 rt1 rl1 h1 => ?_
  have h1 := h1 false fun z => by cases z
  split at h1
  · split at h1
    · rename_i c' fs q
      split at h1
      · rename_i g
        obtain ⟨rfl, g2⟩ := g
        cases rl1.1 with
        | val rd =>
          cases rd with
          | ref hi =>
            cases rt1.hp.cell _ _ q with
            | ins c1 c2 c3 =>
              refine ⟨_, _, _, rfl, c1, c3.miss (by simpa using g2), M1, s1, rt1, ?_⟩
              refine h1.bind anti_relE (fun z => by cases z) fun ds s2 M2 H2 vs hy e2 p2 rt2 rl2 h2 => ?_
              refine sp_call rt2 (.cons ?_ rl2) (h2 false fun z => by cases z) rfl
              have := RD.mono (e2.kept rt1.hp.wf) (RD.ref (K := X.K) (M := M1) (H := H1) hi)
              exact this
      · exact h1.2.elim
    · exact h1.2.elim
  · exact h1.2.elim
theorem p_meth {c m : String} {e : E} {es : List E} {o : Py} {xs : List Py} {apos pos : PySem.Pos} (ev : Ev G X W C) (hm : G.ms.contains (c, m) = true) (hb : baseB o = true) (hl : apos.endLine = pos.line) (hs : xs.all noStarB = true) (hn : xs.length < 20)
    (h0 : xs = [] → es = []) (he : PE X o (tE X.K W C e)) (h : PA X xs (tEs X.K W C es)) : P2 X W C (.meth c m e es) (.Call (.Attribute o (sst m) apos) xs [] pos) := by
  obtain ⟨f, kc, km, fd, ps, k, hk, hbd, F, hr⟩ := ev.ms c m hm
  have hr : L2.Room k X.A := hr.mono (Nat.le_succ k)
  exact .of ((pe_mth he kc km F hr hbd (L2.passAt ev.tk) hb hl hs hn h fun z σ H Q q => by
    obtain rfl := h0 z
    exact t_nil q).imp fun _ _ _ q => t_meth q) isT_call
end
end KW
/-! KwTerm6: new instances, changes, cells. -/
namespace KW
open PySem (Str Addr Value Program World Heap Operator CmpOp binaryOp compareOp PyData Scope Const Env)
open PySem.Spec PyProof.Rows
open L2 (V Hp HO upd upd_same upd_ne upd_upd SqL SqT Rd RelV Mut TE TT TA TS WX PE PT PW PA PS PSs Cx Inv OpR UnR CallR MtR IxR SlR TruR VK EP XK rI0)
section
variable {G : Tabs} {X : Cx} {W : WX} {C : CallF} {σ : L2.St} {H : Hp} {Q : VK}
/-! ### new instances -/
def noX : XK := fun _ _ _ => False
theorem no_passes {P : Program} {w : World} : L2.Passes (L2.CX X.prog X.w) X noX := fun pins σ H s e s' I c => by
  obtain ⟨a, B, H', cls, d, _, _, _, _, _, _, _, z⟩ := c
  exact z.elim
theorem RT.newIns {K : Fr} {M : MM} {s : S} (r : RT K M H σ s) {c : String} {x dx : Addr} (hx : H x = none) (hd : H dx = none) (ne : dx ≠ x) :
    RT K (M.newCell s.h.length x) (upd (upd H dx (.own x)) x (.ins (cA K c) dx [])) σ { s with h := s.h ++ [.ins c []] } ∧ Ext s.h.length M H (s.h.length + 1) (M.newCell s.h.length x) (upd (upd H dx (.own x)) x (.ins (cA K c) dx [])) := by
  have nx : ∀ b o, H b = some o → b ≠ x ∧ b ≠ dx := fun b o q => ⟨L2.ne_of_none q hx, L2.ne_of_none q hd⟩
  have up : ∀ b o, H b = some o → (upd (upd H dx (.own x)) x (.ins (cA K c) dx [])) b = some o := fun b o q => by
    rw [upd_ne (nx b o q).1, upd_ne (nx b o q).2]; exact q
  have wh : ∀ b l, M.who b = some l → b ≠ x ∧ (upd (upd H dx (.own x)) x (.ins (cA K c) dx [])) b = H b := fun b l q => by
    obtain ⟨o, e⟩ := r.hp.some_of q
    exact ⟨(nx b o e).1, by rw [up b o e, e]⟩
  have kp : Keep s.h.length M H (s.h.length + 1) (M.newCell s.h.length x) (upd (upd H dx (.own x)) x (.ins (cA K c) dx [])) :=
    ⟨r.hp.wf, fun a o q z => ⟨up a o q, by rw [newCell_ne (nx a o q).1 (by rw [z]; intro e; cases e)]; exact z⟩, fun i hi => newCell_old hi, Nat.le_succ _⟩
  refine ⟨r.snoc kp (fun b l q => ?_) (newCell_uq r.hp.uq) (by rw [newCell_loc]; exact newCell_at) (fun b l q h1 h2 h3 => ?_) ?_, ?_⟩
  · rcases newCell_some q with e | ⟨l', e⟩
    · subst e; rw [upd_same]; exact .inl trivial
    · rw [(wh b l' e).2]; exact r.hp.wf _ _ e
  · exact ⟨by rw [newCell_ne (wh b l q).1 (by rw [q]; intro z; injection z with z; exact h3 z)]; exact q, (wh b l q).2⟩
  · exact .ins (gs := []) (dx := dx) (by rw [newCell_loc, upd_same]) .nil .nil
  · refine ⟨fun a o q p => ⟨up a o q, ?_⟩, fun a q => ?_, fun i hi => newCell_old hi, Nat.le_succ _, newCell_nl (fun _ h => .inl h), rfl⟩
    · refine newCell_ne (nx a o q).1 fun z => ?_
      rw [z] at p
      rcases p with p | p | p <;> cases p
    · cases e : H a with
      | none => rfl
      | some o => rw [up a o e] at q; cases q
theorem t_new {c : String} {es : List E} (h : tE X.K W C (.new c es) σ H Q) : L2.tMake (cA X.K c) (spOf X.K C (c ++ ".__init__")) [] noX (tEs X.K W C es) σ H Q := by
  obtain ⟨M, s, rt, h⟩ := h
  refine ⟨M, s, rt, ?_⟩
  simp only [evalE, pure] at h
  refine h.bind anti_relE (fun z => by cases z) fun ds s1 M1 H1 vs hx e1 p1 rt1 rl1 h1 => ?_
  have h1 := h1 false fun z => by cases z
  intro x dx nx ndx ne
  obtain ⟨rt2, e2⟩ := rt1.newIns (c := c) nx ndx ne
  have hself : RD X.K (s1.h.length + 1) (M1.newCell s1.h.length x) (upd (upd H1 dx (.own x)) x (.ins (cA X.K c) dx [])) (.ref s1.h.length) (.ref x) := by
    have := RD.ref (K := X.K) (n := s1.h.length + 1) (M := M1.newCell s1.h.length x) (H := upd (upd H1 dx (.own x)) x (.ins (cA X.K c) dx [])) (i := s1.h.length) (Nat.lt_succ_self _)
    rw [newCell_loc] at this
    exact this
  have e2' : Ext s1.h.length M1 H1 ({ s1 with h := s1.h ++ [Cell.ins c []] } : S).h.length (M1.newCell s1.h.length x) (upd (upd H1 dx (.own x)) x (.ins (cA X.K c) dx [])) := by
    show Ext _ _ _ (s1.h ++ [Cell.ins c []]).length _ _
    rw [List.length_append]; exact e2
  have rs : RDs X.K ({ s1 with h := s1.h ++ [Cell.ins c []] } : S).h.length (M1.newCell s1.h.length x) (upd (upd H1 dx (.own x)) x (.ins (cA X.K c) dx [])) (.ref s1.h.length :: ds) (.ref x :: (vs ++ [])) := by
    refine .cons ?_ ?_
    · show RD _ (s1.h ++ [Cell.ins c []]).length _ _ _ _
      rw [List.length_append]; exact hself
    · rw [List.append_nil]
      exact RDs.mono (e2'.kept rt1.hp.wf) rl1
  have key := sp_call (W := fun _ _ _ _ => False) (Q := fun v H2 => v = .non ∧ Q (.ref x) H2) (pu := false) rt2 rs (f := c ++ ".__init__") (C := C) ?_ rfl
  · exact key
  · show OutR _ _ _ _ _ _ _ _ (back s1.σ (C (c ++ ".__init__") (.ref s1.h.length :: ds) (s1.h ++ [.ins c []]))) _
    refine ⟨fun z => h1.1 z, ?_⟩
    cases q : C (c ++ ".__init__") (.ref s1.h.length :: ds) (s1.h ++ [.ins c []]) with
    | stuck => rw [q] at h1; exact h1.2
    | raise x s' => rw [q] at h1; exact False.elim h1.2
    | ok v0 s' =>
      rw [q] at h1
      simp only [back, calm_ok, bind_ok] at h1
      intro M' H' v e3 _ rt3 rl3
      split at h1
      · have ev : v = .non := by
          cases rl3.1 with
          | val r => cases r; rfl
        subst ev
        refine ⟨rfl, h1.2 M' H' (.ref x) (e2'.trans e3) (fun z => by cases z) rt3 ⟨.val ?_, fun c z => by cases z⟩⟩
        have := RD.mono (e3.kept rt2.hp.wf) (d := .ref s1.h.length) (v := .ref x) (by
          show RD _ (s1.h ++ [Cell.ins c []]).length _ _ _ _
          rw [List.length_append]; exact hself)
        exact this
      · exact h1.2.elim
theorem p_new {c : String} {es : List E} {x : Py} {xs : List Py} {p pos : PySem.Pos} (ev : Ev G X W C) (hc : G.cs.contains c = true) (hg : glB X.env.scope (sst c) = true) (hn : nameB (sst c) = true) (hs : (x :: xs).all noStarB = true) (h : PA X (x :: xs) (tEs X.K W C es)) :
    P2 X W C (.new c es) (.Call (.Name (sst c) p) (x :: xs) [] pos) := by
  obtain ⟨f, hm, mk, fd, ps, k, hk, hb, F, hr⟩ := ev.cs c hc
  obtain ⟨h1, h2⟩ := Bool.and_eq_true_iff.mp (show (noStarB x && xs.all noStarB) = true from hs)
  exact .of ((L2.pe_make mk F hr (glB_gl hg) hm hb .nil (no_passes (P := X.prog) (w := X.w)) h (nameB_ne hn).1 (noStar_eq h1 _ _) (noStar_any h2)).imp fun _ _ _ q => t_new q) isT_call
theorem p_new0 {c : String} {p pos : PySem.Pos} (ev : Ev G X W C) (hc : G.cs.contains c = true) (hg : glB X.env.scope (sst c) = true) (hn : nameB (sst c) = true) : P2 X W C (.new c []) (.Call (.Name (sst c) p) [] [] pos) := by
  obtain ⟨f, hm, mk, fd, ps, k, hk, hb, F, hr⟩ := ev.cs c hc
  exact .of ((L2.pe_make0 mk F hr (glB_gl hg) hm hb .nil (no_passes (P := X.prog) (w := X.w)) (nameB_ne hn).1).imp fun _ _ _ q => t_nil (t_new q)) isT_call

/-! ### cells -/
theorem tE_box {e : E} (h : tE X.K W C (.box e) σ H Q) : tE X.K W C e σ H Q := by
  obtain ⟨M, s, rt, h⟩ := h
  have hlk : M.lk ≠ none → False := fun z => by have := h.1 z; cases this
  refine ⟨M, s, rt, fun z => (hlk z).elim, ?_⟩
  simp only [evalE] at h
  cases q : evalE C e s with
  | stuck => rw [q] at h; exact h.2
  | raise x s1 => rw [q] at h; exact h.2
  | ok x s1 =>
    rw [q, bind_ok] at h
    intro M1 H1 v e1 p1 rt1 rl1
    obtain ⟨rr, fr⟩ := rl1
    have go : ∀ (c : Cont) (c' : Cell), x = .own c → c' = cellOf c → OutR X.K W (relE X.K) M H σ s (pure (.box e)) (.ok (.val (.ref s1.h.length)) { s1 with h := s1.h ++ [c'] }) Q → Q v H1 := fun c c' ex ec h => by
      subst ex
      cases rr with
      | @own _ a hw hc =>
        have ha : H a = none := fr c rfl a rfl
        have nn : ∀ b, M1.who b = none → b ≠ a := fun b q z => by rw [z, hw] at q; cases q
        have kp0 : Keep s1.h.length M1 H1 (s1.h.length + 1) (M1.newCell s1.h.length a) H1 := ⟨rt1.hp.wf, fun b o q z => ⟨q, by rw [newCell_ne (nn b z) (by rw [z]; intro e; cases e)]; exact z⟩, fun i hi => newCell_old hi, Nat.le_succ _⟩
        subst ec
        obtain ⟨t1, t2⟩ := rt1.box (c := c) hw (hc.cell kp0)
        refine h.2 (M1.newCell s1.h.length a) H1 (.ref a) ⟨fun b o q p => ?_, e1.dom, fun i hi => ?_, ?_, newCell_nl e1.nl, e1.lk⟩ (fun z => by cases z) t1 ⟨.val ?_, fun c z => by cases z⟩
        · obtain ⟨h1, h2⟩ := e1.keep b o q p
          refine ⟨h1, ?_⟩
          rw [newCell_ne (L2.ne_of_none q ha) (by rw [h2]; intro z; rw [z] at p; rcases p with p | p | p <;> cases p)]
          exact h2
        · rw [newCell_old (Nat.lt_of_lt_of_le hi e1.le)]; exact e1.loc i hi
        · show _ ≤ (s1.h ++ [_]).length
          rw [List.length_append]
          exact Nat.le_trans e1.le (Nat.le_succ _)
        · have := RD.ref (K := X.K) (n := s1.h.length + 1) (M := M1.newCell s1.h.length a) (H := H1) (i := s1.h.length) (Nat.lt_succ_self _)
          rw [newCell_loc] at this
          show RD _ (s1.h ++ [_]).length _ _ _ _
          rw [List.length_append]
          exact this
    unfold boxIt at h
    split at h
    · exact go (.lst _) _ rfl rfl h
    · exact go (.dct _) _ rfl rfl h
    · exact h.2.elim
theorem tE_frz {e : E} (h : tE X.K W C (.frz e) σ H Q) : tE X.K W C e σ H Q := by
  obtain ⟨M, s, rt, h⟩ := h
  have hlk : M.lk ≠ none → False := fun z => by have := h.1 z; cases this
  refine ⟨M, s, rt, fun z => (hlk z).elim, ?_⟩
  simp only [evalE] at h
  cases q : evalE C e s with
  | stuck => rw [q] at h; exact h.2
  | raise x s1 => rw [q] at h; exact h.2
  | ok x s1 =>
    rw [q, bind_ok] at h
    intro M1 H1 v e1 p1 rt1 rl1
    obtain ⟨rr, fr⟩ := rl1
    unfold frzIt at h
    split at h
    · cases rr with
      | val r => exact h.2 M1 H1 v e1 (fun z => by cases z) rt1 ⟨.val r, fun c z => by cases z⟩
    · cases rr with
      | @own _ a hw hc =>
        have ha : H a = none := fr _ rfl a rfl
        obtain ⟨t1, t2⟩ := rt1.freeze hw
        refine h.2 (M1.set a none) H1 (.ref a) ⟨fun b o q p => ?_, e1.dom, e1.loc, e1.le, nl_set e1.nl, e1.lk⟩ (fun z => by cases z) t1 ⟨.val (hc.fz t2), fun c z => by cases z⟩
        obtain ⟨h1, h2⟩ := e1.keep b o q p
        exact ⟨h1, by rw [MM.set_ne (L2.ne_of_none q ha)]; exact h2⟩
    · split at h
      · rename_i c gp
        split at h
        · rename_i s' gq
          cases rr with
          | pk hw hc =>
            obtain ⟨a', w', rc⟩ := rt1.getPl gp
            obtain rfl := rt1.hp.uq _ _ _ (by intro z; cases z) (by intro z; cases z) w' hw
            obtain ⟨t1, t2, t3⟩ := rt1.frzPl gp hw rc gq
            exact h.2 (M1.set a' none) H1 (.ref a') (e1.trans t2) (fun z => by cases z) t1 ⟨.val t3, fun c z => by cases z⟩
        · exact h.2.elim
      · exact h.2.elim
theorem P2.box {e : E} {py : Py} (h : P2 X W C e py) (he : ∀ whole, PySem.isTrue py X.env whole = (do let v ← whole; PySem.standAt py.pos; PySem.holding [v] (PySem.truthy v))) : P2 X W C (.box e) py := .of (h.v.imp fun _ _ _ q => tE_box q) he
end
end KW
/-! KwTerm7: logic, three operands, tables. -/
namespace KW
open PySem (Str Addr Value Program World Heap Operator CmpOp binaryOp compareOp PyData Scope Const Env wpAny_bind wpAny_mono)
open PySem.Spec PyProof.Rows
open L2 (V Hp HO upd upd_same upd_ne upd_upd SqL SqT Rd RelV Mut TE TT TA TS WX PE PT PW PA PS PSs Cx Inv OpR UnR CallR MtR IxR SlR TruR VK EP XK rI0)
section
variable {G : Tabs} {X : Cx} {W : WX} {C : CallF} {σ : L2.St} {H : Hp} {Q : VK}
theorem pw_pt {op : PySem.BoolOp} {vs : List Py} {pos : PySem.Pos} {t : TT} (h : PT X (.BoolOp op vs pos) t) : PW X (.BoolOp op vs pos) t := ⟨fun wh pins s σ H Q I q => h.run pins s σ H Q I q⟩
theorem pt_pw {op : PySem.BoolOp} {vs : List Py} {pos : PySem.Pos} {t : TT} (h : PW X (.BoolOp op vs pos) t) : PT X (.BoolOp op vs pos) t := ⟨fun pins s σ H Q I q => h.run _ pins s σ H Q I q⟩
theorem un_rest {op : PySem.BoolOp} {y : Py} {r : List Py} {pos : PySem.Pos} {e : E} (h : P2 X W C e (unB op (.BoolOp op (y :: r) pos))) (hop : op = .And ∨ op = .Or) : PE X (.BoolOp op (y :: r) pos) (tE X.K W C e) ∧ PW X (.BoolOp op (y :: r) pos) (tT X.K W C e) := by
  cases r with
  | nil =>
    simp only [unB, if_true] at h
    refine ⟨L2.pe_one h.v, ?_⟩
    rcases hop with rfl | rfl
    · exact L2.pw_and1 h.t
    · exact L2.pw_or1 h.t
  | cons z r =>
    simp only [unB] at h
    exact ⟨h.v, pw_pt h.t⟩
theorem p_and {a b : E} {py x y : Py} (h : vBool .And py = some (x, y)) (ha : P2 X W C a x) (hb : P2 X W C b (unB .And y)) : P2 X W C (.and a b) py := by
  unfold vBool at h
  split at h
  · split at h
    · rename_i g
      obtain rfl := of_decide_eq_true g
      injection h with h
      injection h with h1 h2
      subst h1 h2
      obtain ⟨r1, r2⟩ := un_rest hb (.inl rfl)
      exact ⟨(L2.pe_andT ha.v r1).imp fun _ _ _ q => t_and q, pt_pw ((L2.pw_and ha.t r2).imp fun _ _ _ q => tt_and q)⟩
    · cases h
  · cases h
theorem p_or {a b : E} {py x y : Py} (h : vBool .Or py = some (x, y)) (ha : P2 X W C a x) (hb : P2 X W C b (unB .Or y)) : P2 X W C (.or a b) py := by
  unfold vBool at h
  split at h
  · split at h
    · rename_i g
      obtain rfl := of_decide_eq_true g
      injection h with h
      injection h with h1 h2
      subst h1 h2
      obtain ⟨r1, r2⟩ := un_rest hb (.inr rfl)
      exact ⟨(L2.pe_orT ha.v r1).imp fun _ _ _ q => t_or q, pt_pw ((L2.pw_or ha.t r2).imp fun _ _ _ q => tt_or q)⟩
    · cases h
  · cases h
theorem p_not {a : E} {b : Py} {pos : PySem.Pos} (ha : P2 X W C a b) : P2 X W C (.not a) (.UnaryOp .Not b pos) := ⟨(L2.pe_notT ha.v).imp fun _ _ _ q => t_not q, (L2.pt_not ha.t).imp fun _ _ _ q => tt_not q⟩
def tIfB (t u w : TT) : TT := fun σ H Q => t σ H fun c H1 => if c = true then u σ H1 Q else w σ H1 Q
theorem pt_ife {c a b : Py} {pos : PySem.Pos} {t u w : TT} (hc : PT X c t) (ha : PT X a u) (hb : PT X b w) : PT X (.IfExp c a b pos) (tIfB t u w) := by
  refine ⟨fun pins s σ H Q I h => ?_⟩
  show PySem.wpAny _ _ (do
    if ← PySem.isTrue c X.env (PySem.eval c X.env) then PySem.isTrue a X.env (PySem.eval a X.env) else PySem.isTrue b X.env (PySem.eval b X.env)) _ _ _
  refine wpAny_bind (L2.thn (hc.run pins s σ H _ I h) fun d s1 ⟨H1, I1, q1⟩ => ?_)
  cases d with
  | true => exact ha.run pins s1 σ H1 Q I1 q1
  | false => exact hb.run pins s1 σ H1 Q I1 q1
theorem tt_ife {c a b : E} {Q : Bool → Hp → Prop} (h : tT X.K W C (.ife c a b) σ H Q) : tIfB (tT X.K W C c) (tT X.K W C a) (tT X.K W C b) σ H Q := by
  obtain ⟨M, s, rt, h⟩ := h
  simp only [evalE, pure, isTruth] at h
  refine ⟨M, s, rt, fun z => ?_, ?_⟩
  · have z := h.1 z
    simp only [Bool.and_eq_true] at z
    exact z.1.1
  simp only [isTruth]
  cases q : (evalE C c s).bind fun v s => opt s (truth s.h v) with
  | stuck => rw [q] at h; exact h.2
  | raise x s1 => rw [q] at h; exact h.2
  | ok x s1 =>
    rw [q, bind_ok] at h
    intro M1 H1 v e1 p1 rt1 rl1
    cases rl1
    have pp : (pure c && pure a && pure b) = true → pure c = true ∧ pure a = true ∧ pure b = true := fun z => by
      simp only [Bool.and_eq_true] at z
      exact ⟨z.1.1, z.1.2, z.2⟩
    cases x with
    | true => exact ⟨M1, s1, rt1, OutR.later anti_relB h e1 (fun z => p1 (pp z).1) fun z => (pp z).2.1⟩
    | false => exact ⟨M1, s1, rt1, OutR.later anti_relB h e1 (fun z => p1 (pp z).1) fun z => (pp z).2.2⟩
theorem p_ife {c a b : E} {x y z : Py} {pos : PySem.Pos} (hc : P2 X W C c x) (ha : P2 X W C a y) (hb : P2 X W C b z) : P2 X W C (.ife c a b) (.IfExp x y z pos) :=
  ⟨(L2.pe_ifExp hc.t ha.v hb.v).imp fun _ _ _ q => t_ife q, (pt_ife hc.t ha.t hb.t).imp fun _ _ _ q => tt_ife q⟩

/-! ### chains -/
theorem t_chain {o p : CmpO} {r r' : L2.R2} {a b c : E} (h1 : Ok2 X.K (.cmp o) r) (h2 : Ok2 X.K (.cmp p) r') (h : tE X.K W C (.chain o p a b c) σ H Q) : L2.tChain r r' (tE X.K W C a) (tE X.K W C b) (tE X.K W C c) σ H Q := by
  obtain ⟨M, s, rt, h⟩ := h
  refine ⟨M, s, rt, ?_⟩
  simp only [evalE, pure] at h
  have pp : (pure a && pure b && pure c) = true → pure a = true ∧ pure b = true ∧ pure c = true := fun z => by
    simp only [Bool.and_eq_true] at z
    exact ⟨z.1.1, z.1.2, z.2⟩
  refine h.bind anti_relE (fun z => (pp z).1) fun x s1 M1 H1 v hx e1 p1 rt1 rl1 k1 => ?_
  have k1 := k1 (pure b && pure c) fun z => by rw [(pp z).2.1, (pp z).2.2]; rfl
  refine ⟨M1, s1, rt1, k1.bind anti_relE (fun z => (Bool.and_eq_true_iff.mp z).1) fun y s2 M2 H2 u hy e2 p2 rt2 rl2 k2 => ?_⟩
  have k2 := k2 (pure c) fun z => (Bool.and_eq_true_iff.mp z).2
  by_cases g : (isPk x || isPk y) = true
  · rw [if_pos g] at k2; exact k2.2.elim
  rw [if_neg g] at k2
  have gx : isPk x = false := by cases z : isPk x with
    | true => rw [z] at g; exact absurd rfl g
    | false => rfl
  have gy : isPk y = false := by cases z : isPk y with
    | true => rw [z, Bool.or_true] at g; exact absurd rfl g
    | false => rfl
  have rx := rl1.1.mono rt1.hp.wf e2 gx
  cases q : runCmp s2.h o x y with
  | none => rw [q] at k2; exact k2.2.elim
  | some t =>
    rw [q] at k2
    refine h1 M2 H2 σ s2 x y v u (.val (.bl t)) _ rt2 rx rl2.1 (by show (runCmp s2.h o x y).map _ = _; rw [q]; rfl) fun M3 H3 w g3 rt3 rr3 _ => ?_
    refine ⟨t, bl_at rr3, ?_⟩
    cases t with
    | false =>
      rw [if_neg (by intro z; cases z)]
      exact k2.2 M3 H3 _ g3.ext (fun _ => ⟨rfl, g3⟩) rt3 ⟨.val (.bl _), fun c z => by cases z⟩
    | true =>
      rw [if_pos rfl]
      have k3 := k2.later (pu1 := pure c) anti_relE g3.ext (fun _ => ⟨rfl, g3⟩) fun z => z
      refine ⟨M3, s2, rt3, k3.bind anti_relE (fun z => z) fun z s4 M4 H4 vz hz e4 p4 rt4 rl4 k4 => ?_⟩
      obtain ⟨zz, ez, hzz⟩ := (k4 _ fun z => z).op rt4
      refine h2 M4 H4 σ s4 y z u vz zz Q rt4 ?_ rl4.1 (by show (runCmp s4.h p y z).map _ = _; exact ez) hzz
      exact (rl2.1.mono rt2.hp.wf g3.ext gy).mono rt3.hp.wf e4 gy
theorem bl_chain {o p : CmpO} {a b c : E} : ∀ s x s', evalE C (.chain o p a b c) s = .ok x s' → ∃ k, x = .val (.bl k) := fun s x s' h => by
  simp only [evalE] at h
  obtain ⟨u, s1, _, h⟩ := bind_is h
  obtain ⟨w, s2, _, h⟩ := bind_is h
  split at h
  · cases h
  · split at h
    · obtain ⟨z, s3, _, h⟩ := bind_is h
      obtain ⟨t, _, e⟩ := omap (opt_ok h).1
      exact ⟨t, e.symm⟩
    · cases h; exact ⟨_, rfl⟩
    · cases h
theorem p_chain {o p : CmpO} {a b c : E} {q x y z : Py} (ev : Ev G X W C) (h : vChain o p q = some (x, y, z)) (ha : PE X x (tE X.K W C a)) (hb : PE X y (tE X.K W C b)) (hc : PE X z (tE X.K W C c)) : P2 X W C (.chain o p a b c) q := by
  unfold vChain at h
  split at h
  · split at h
    · rename_i g
      injection h with h
      injection h with h1 h2
      injection h2 with h2 h3
      subst h1 h2 h3
      simp only [Bool.and_eq_true] at g
      obtain rfl := cmpB_eq g.1.1
      obtain rfl := cmpB_eq g.1.2
      obtain ⟨r, i1, i2⟩ := op_any (o := o) ev
      obtain ⟨r', j1, j2⟩ := op_any (o := p) ev
      have hm := nb (op := cmpOf p) g.2
      exact ⟨(L2.pe_chain i1 j1 ha hb hc hm).imp fun _ _ _ q => t_chain i2 j2 q, (L2.pt_chain i1 j1 ha hb hc hm).imp fun σ H Q q => by
        obtain ⟨M, s, rt, k⟩ := t_chain i2 j2 (t_test bl_chain q)
        exact ⟨M, s, rt, k⟩⟩
    · cases h
  · cases h
end
end KW
/-! KwTerm8: lists that are changed. -/
namespace KW
open PySem (Str Addr Value Program World Heap Operator CmpOp binaryOp compareOp PyData Scope Const Env wpAny_bind wpAny_mono)
open PySem.Spec PyProof.Rows
open L2 (V Hp HO upd upd_same upd_ne upd_upd SqL SqT Rd RelV Mut TE TT TA TS WX PE PT PW PA PS PSs Cx Inv OpR UnR CallR MtR IxR SlR TruR VK EP XK rI0)
def isLm : Mu → Bool
  | .popK | .popD => false
  | _ => true
section
variable {K : Fr} {M : MM} {H : Hp} {σ : L2.St} {s s' : S}
theorem muD_no {o : Mu} (h : isLm o = true) (kvs : List (Key × SV)) (ds : List D) : muD kvs o ds = none := by
  cases o <;> first | rfl | cases h
/-- the list that is changed -/
theorem lst_mut {o : Mu} {x z : RV} {vx : V} {ds : List D} (ho : isLm o = true) (rt : RT K M H σ s) (rx : RR K s.h.length M H x vx) (h : runMu s o x ds = .ok z s') :
    ∃ a xs vs d ys, vx = .ref a ∧ H a = some (.lst vs) ∧ RDs K s.h.length M H xs vs ∧ muL xs o ds = some (d, ys) ∧ z = .val d ∧ s'.h.length = s.h.length ∧
      (∀ us, RDs K s.h.length M H ys us → RT K M (upd H a (.lst us)) σ s' ∧ Ext s.h.length M H s'.h.length M (upd H a (.lst us))) ∧ ∀ us, Keep s.h.length M H s.h.length M (upd H a (.lst us)) := by
  unfold runMu at h
  split at h
  · rename_i p c0
    split at h
    · rename_i xs gp
      split at h
      · rename_i d ys gm
        split at h
        · rename_i s2 gq
          injection h with h1 h2
          subst h1 h2
          cases rx with
          | pk hw hc =>
            obtain ⟨a', w', rc⟩ := rt.getPl gp
            obtain rfl := rt.hp.uq _ _ _ (by intro z; cases z) (by intro z; cases z) w' hw
            cases rc with
            | lst r1 r2 =>
              have kp : ∀ us, Keep s.h.length M H s.h.length M (upd H a' (.lst us)) := fun us => keep_upd rt.hp.wf w'
              have hl : s2.h.length = s.h.length := by
                cases p <;> simp only [putPl] at gq
                · injection gq with gq; subst gq; rfl
                all_goals
                  split at gq
                  · injection gq with gq; subst gq; simp
                  · cases gq
              refine ⟨a', xs, _, d, ys, rfl, r1, r2, gm, rfl, hl, fun us ru => ?_, kp⟩
              exact rt.wrPl gp w' trivial (.lst upd_same (ru.mono (kp us))) gq
        · cases h
      · cases h
    · split at h
      · rename_i e
        rw [muD_no ho] at e; cases e
      · cases h
    · cases h
  · rename_i i
    split at h
    · rename_i xs q
      split at h
      · rename_i d ys gm
        injection h with h1 h2
        subst h1 h2
        cases rx with
        | val rd =>
          cases rd with
          | ref hi =>
            have rc := rt.hp.cell _ _ q
            have hw := rt.hp.lb i hi
            cases rc with
            | lst r1 r2 =>
              have kp : ∀ us, Keep s.h.length M H s.h.length M (upd H (M.loc i) (.lst us)) := fun us => keep_upd rt.hp.wf hw
              refine ⟨_, xs, _, d, ys, rfl, r1, r2, gm, rfl, by simp, fun us ru => ?_, kp⟩
              exact rt.wrCell q trivial (.lst upd_same (ru.mono (kp us)))
      · cases h
    · split at h
      · rename_i e
        rw [muD_no ho] at e; cases e
      · cases h
    · cases h
  · cases h
end
/-- a list's method -/
def OkM (K : Fr) (o : Mu) (r : V → List V → Hp → VK → Prop) : Prop := ∀ (M : MM) (H : Hp) (σ : L2.St) (s s' : S) (x z : RV) (vx : V) (ds : List D) (vs : List V) (Q : VK), RT K M H σ s → M.lk = none → RR K s.h.length M H x vx → RDs K s.h.length M H ds vs → runMu s o x ds = .ok z s' →
  (∀ M' H' v, Ext s.h.length M H s'.h.length M' H' → RT K M' H' σ s' → RR K s'.h.length M' H' z v → Fresh H z v → Q v H') → r vx vs H Q
section
variable {K : Fr}
theorem fresh_val {H : Hp} {d : D} {v : V} : Fresh H (.val d) v := fun c z => by cases z
theorem ok_append : OkM K .append L2.rAppend := by
  intro M H σ s s' x z vx ds vs Q rt _ rx rs h hq
  obtain ⟨a, xs, ws, d, ys, rfl, ha, rw_, hm, rfl, hl, go, kp⟩ := lst_mut rfl rt rx h
  cases rs with
  | nil => cases hm
  | cons r1 r2 =>
    cases r2 with
    | cons _ _ => cases hm
    | nil =>
      obtain ⟨g, e⟩ := oif (show (if xs.length < sizeLine then some (D.non, xs ++ [_]) else none) = some (d, ys) from hm)
      injection e with e
      injection e with e1 e2
      subst e1 e2
      have hlen := RD.len_eq rw_
      refine ⟨a, ws, _, rfl, rfl, ha, by rw [sizeLine_is, ← hlen]; exact g, ?_⟩
      obtain ⟨t1, t2⟩ := go _ (rw_.app (.cons r1 .nil))
      exact hq _ _ _ t2 t1 (.val .non) fresh_val
open PySem in
theorem lstR {X : Cx} {pins : List (Addr × Obj)} {σ : L2.St} {H : Hp} {s : Shared} {l : Addr} {xs : List V} (I : Inv X pins σ H s) (hH : Rd H l (.lst xs)) : xs.length ≤ PySem.sizeLine ∧ ∃ (its : List Value) (n : Nat), L2.Vals xs its ∧ xs.length = its.length ∧ s.heap.get? l = some { cls := .type "list", data := .seq its.toArray n } := by
  rcases hH with hH | ⟨o, hH⟩
  · obtain ⟨z, its, n, r, e⟩ := I.hok l _ hH
    exact ⟨z, its, n, r, r.length, e⟩
  · obtain ⟨_, z, its, n, r, e⟩ := I.hok l _ hH
    exact ⟨z, its, n, r, r.length, e⟩
def rExtendR : V → List V → Hp → VK → Prop := fun x vs H Q => ∃ l b xs zs, x = .ref l ∧ vs = [.ref b] ∧ H l = some (.lst xs) ∧ Rd H b (.lst zs) ∧ xs.length + zs.length ≤ PySem.sizeLine ∧ Q .non (upd H l (.lst (xs ++ zs)))
open PySem PyProof.Rows L2 in
theorem mt_extendR {X : Cx} : MtM X "list.extend" rExtendR := by
  intro pins s σ H x vs v us Q I rx rv h
  obtain ⟨l, b, xs, zs, rfl, rfl, hH, hB, hz, q⟩ := h
  cases rx
  obtain ⟨u, rfl, ru⟩ := rv.one
  cases ru
  obtain ⟨z, its, n, r, hl, e⟩ := I.lstM hH
  obtain ⟨z2, its2, n2, r2, hl2, e2⟩ := lstR I hB
  have hsz : its.toArray.size + its2.toArray.size ≤ PySem.sizeLine := by rw [List.size_toArray, List.size_toArray]; omega
  have hlong : ¬ (!its.toArray.isEmpty && Builtin.List.listTooLong (its.toArray.size + its2.toArray.size)) = true := by
    rw [L2.notLongL hsz, Bool.and_false]
    exact Bool.false_ne_true
  refine call_meets F.slot_list_extend ⟨_, e, rfl⟩ F.entry_list_extend (F.args_list_extend_2 _ _)
    (AutoSeq1.list_extend_list_list_0 l its.toArray n b its2.toArray n2 hlong (by rw [List.size_toArray]; omega) (by omega)) ⟨e, e2, ?_⟩
  refine ⟨.non, _, I.lset (its' := its ++ its2) hH e (by simp) (r.append r2) ?_, rfl, q⟩
  rw [List.length_append]
  omega
theorem ok_extend : OkM K .extend rExtendR := by
  intro M H σ s s' x z vx ds vs Q rt _ rx rs h hq
  obtain ⟨a, xs, ws, d, ys, rfl, ha, rw_, hm, rfl, hl, go, kp⟩ := lst_mut rfl rt rx h
  cases rs with
  | nil => cases hm
  | @cons d0 _ _ _ r1 r2 =>
    cases r2 with
    | cons _ _ => cases d0 <;> cases hm
    | nil =>
      cases d0 with
      | lst zs =>
        obtain ⟨g, e⟩ := oif (show (if xs.length + zs.length ≤ sizeLine then some (D.non, xs ++ zs) else none) = some (d, ys) from hm)
        injection e with e
        injection e with e1 e2
        subst e1 e2
        have hlen := RD.len_eq rw_
        cases r1 with
        | @lst b us _ hb _ ru =>
          have hlen2 := RD.len_eq ru
          refine ⟨a, b, ws, us, rfl, rfl, ha, hb, by rw [sizeLine_is, ← hlen, ← hlen2]; exact g, ?_⟩
          obtain ⟨t1, t2⟩ := go _ (rw_.app ru)
          exact hq _ _ _ t2 t1 (.val .non) fresh_val
      | _ => cases hm
theorem ok_pop : OkM K .pop L2.rPop := by
  intro M H σ s s' x z vx ds vs Q rt _ rx rs h hq
  obtain ⟨a, xs, ws, d, ys, rfl, ha, rw_, hm, rfl, hl, go, kp⟩ := lst_mut rfl rt rx h
  cases rs with
  | cons r1 r2 => cases hm
  | nil =>
    have hm : (match xs.getLast? with
      | some d => some (d, xs.dropLast)
      | none => none) = some (d, ys) := hm
    split at hm
    · rename_i d' gl
      injection hm with hm
      injection hm with e1 e2
      subst e1 e2
      rw [List.getLast?_eq_getElem?] at gl
      have hlen := RD.len_eq rw_
      obtain ⟨v, g1, g2⟩ := rw_.get gl
      refine ⟨a, ws, v, rfl, rfl, ha, by rw [← hlen]; exact g1, ?_⟩
      obtain ⟨t1, t2⟩ := go ws.dropLast (by
        rw [List.dropLast_eq_take, List.dropLast_eq_take, ← hlen]
        exact rw_.take _)
      exact hq _ _ _ t2 t1 (.val (by rw [hl]; exact g2.mono (kp _))) fresh_val
    · cases hm
theorem seqIndex_is {n : Nat} {i : Int} {k : Nat} (h : ixN n i = some k) : PySem.seqIndex? i n = some k := by
  unfold ixN at h
  unfold PySem.seqIndex?
  split at h
  · rename_i g
    split at h
    · rename_i g2
      injection h with h
      have e : (if i < 0 then i + n else i) = i := if_neg (by omega)
      simp only [e]
      rw [if_pos (by simp; omega), h]
    · cases h
  · rename_i g
    split at h
    · rename_i g2
      injection h with h
      have e : (if i < 0 then i + n else i) = i + n := if_pos (by omega)
      simp only [e]
      rw [if_pos (by simp; omega), h]
    · cases h
theorem ok_popAt : OkM K .popI L2.rPopAt := by
  intro M H σ s s' x z vx ds vs Q rt _ rx rs h hq
  obtain ⟨a, xs, ws, d, ys, rfl, ha, rw_, hm, rfl, hl, go, kp⟩ := lst_mut rfl rt rx h
  cases rs with
  | nil => cases hm
  | @cons d0 _ _ _ r1 r2 =>
    cases r2 with
    | cons _ _ => cases d0 <;> cases hm
    | nil =>
      cases d0 with
      | int i =>
        obtain ⟨hbd, hm⟩ := oif (show (if -1073741824 < i ∧ i < 1073741824 then (match ixN xs.length i with
          | some j => (xs[j]?).map fun d => (d, xs.eraseIdx j)
          | none => none) else none) = some (d, ys) from hm)
        split at hm
        · rename_i j gj
          obtain ⟨d', g1, g2⟩ := omap hm
          injection g2 with e1 e2
          subst e1 e2
          cases r1
          obtain ⟨v, g3, g4⟩ := rw_.get g1
          have hlen := RD.len_eq rw_
          have hb : -(2 ^ 63) ≤ i ∧ i < 2 ^ 63 := by omega
          refine ⟨a, ws, i, j, v, rfl, rfl, ha, hb.1, hb.2, by rw [← hlen]; exact seqIndex_is gj, g3, ?_⟩
          obtain ⟨t1, t2⟩ := go _ (rw_.erase j)
          exact hq _ _ _ t2 t1 (.val (by rw [hl]; exact g4.mono (kp _))) fresh_val
        · cases hm
      | _ => cases hm
theorem ok_clear : OkM K .clear L2.rClear := by
  intro M H σ s s' x z vx ds vs Q rt _ rx rs h hq
  obtain ⟨a, xs, ws, d, ys, rfl, ha, rw_, hm, rfl, hl, go, kp⟩ := lst_mut rfl rt rx h
  cases rs with
  | cons _ _ => cases hm
  | nil =>
    injection (show some (D.non, ([] : List D)) = some (d, ys) from hm) with e
    injection e with e1 e2
    subst e1 e2
    obtain ⟨t1, t2⟩ := go _ .nil
    exact ⟨a, ws, rfl, rfl, ha, hq _ _ _ t2 t1 (.val .non) fresh_val⟩
end
section
variable {G : Tabs} {X : Cx} {W : WX} {C : CallF} {σ : L2.St} {H : Hp} {Q : VK}
theorem t_mutG {o : Mu} {Ty : V → Hp → Prop} {r : V → List V → Hp → VK → Prop} {e : E} {es : List E} (ok : OkM X.K o r) (ty : ∀ (M : MM) (H : Hp) (σ : L2.St) (s : S) (x : RV) (v : V), RT X.K M H σ s → RR X.K s.h.length M H x v → recvM s.h o x = true → Ty v H)
    (h : tE X.K W C (.mut o e es) σ H Q) : tE X.K W C e σ H fun x H1 => Ty x H1 ∧ tEs X.K W C es σ H1 fun vs H2 => r x vs H2 Q := by
  obtain ⟨M, s, rt, h⟩ := h
  refine ⟨M, s, rt, ?_⟩
  simp only [evalE, pure] at h
  refine h.bind anti_relE (fun z => by cases z) fun x s1 M1 H1 v hx e1 p1 rt1 rl1 h1 => ?_
  have h1 := h1 false fun z => by cases z
  by_cases g0 : ((isPk x && !pures es) || !recvM s1.h o x) = true
  · rw [if_pos g0] at h1; exact h1.2.elim
  rw [if_neg g0] at h1
  have g : ¬ (isPk x && !pures es) = true := fun z => g0 (Bool.or_eq_true_iff.mpr (.inl z))
  have g2 : recvM s1.h o x = true := by
    cases z : recvM s1.h o x with
    | true => rfl
    | false => exact absurd (Bool.or_eq_true_iff.mpr (.inr (by rw [z]; rfl))) g0
  refine ⟨ty _ _ _ _ _ _ rt1 rl1.1 g2, M1, s1, rt1, h1.bind anti_relE (fun z => by cases z) fun ds s2 M2 H2 vs hy e2 p2 rt2 rl2 h2 => ?_⟩
  have h2 := h2 false fun z => by cases z
  have rx : RR X.K s2.h.length M2 H2 x v := by
    cases q : isPk x with
    | false => exact rl1.1.mono rt1.hp.wf e2 q
    | true =>
      have pb : pures es = true := by cases z : pures es with
        | true => rfl
        | false => exact absurd (by rw [q, z]; rfl) g
      obtain ⟨es, gr⟩ := p2 pb
      rw [es]
      exact rl1.1.grow rt1.hp.wf gr
  cases q : runMu s2 o x ds with
  | stuck => rw [q] at h2; exact h2.2.elim
  | raise y s3 =>
    exfalso
    revert q
    unfold runMu
    intro q
    repeat' first | (cases q; done) | split at q
  | ok z s3 =>
    rw [q] at h2
    have lk2 : M2.lk = none := by
      cases z : M2.lk with
      | none => rfl
      | some b => have := h2.1 (by rw [z]; intro q; cases q); cases this
    exact ok M2 H2 σ s2 s3 x z v ds vs Q rt2 lk2 rx rl2 q fun M' H' v' e3 rt3 rr3 fr3 => h2.2 M' H' v' e3 (fun z => by cases z) rt3 ⟨rr3, fr3⟩
theorem t_mut {o : Mu} {T : String} {r : V → List V → Hp → VK → Prop} {e : E} {es : List E} (ok : OkM X.K o r) (ty : ∀ (M : MM) (H : Hp) (σ : L2.St) (s : S) (x : RV) (v : V), RT X.K M H σ s → RR X.K s.h.length M H x v → recvM s.h o x = true → L2.tyV X.K T v H)
    (h : tE X.K W C (.mut o e es) σ H Q) : L2.tBM X.K T r (tE X.K W C e) (tEs X.K W C es) σ H Q := t_mutG (Ty := L2.tyV X.K T) ok ty h
theorem tyM {o : Mu} (ho : isLm o = true) {K : Fr} : ∀ (M : MM) (H : Hp) (σ : L2.St) (s : S) (x : RV) (v : V), RT K M H σ s → RR K s.h.length M H x v → recvM s.h o x = true → L2.tyV K "list" v H := by
  intro M H σ s x v rt rr h
  exact lst_ty rt rr (by cases o <;> first | exact h | cases ho)
theorem p_mut1 {o : Mu} {id n : String} {r : V → List V → Hp → VK → Prop} {e : E} {es : List E} {b x : Py} {p1 p2 : PySem.Pos} (slot : PySem.Slot "list" (sst n) id) (hty : PySem.typeOf (.builtin id) = Pure.pure (Value.type "method_descriptor")) (hm : MtR X id r)
    (ok : OkM X.K o r) (ho : isLm o = true) (hb : baseB b = true) (hl : p1.endLine = p2.line) (hs : [x].all noStarB = true) (he : PE X b (tE X.K W C e)) (ha : PA X [x] (tEs X.K W C es)) : P2 X W C (.mut o e es) (.Call (.Attribute b (sst n) p1) [x] [] p2) := by
  refine .of ((L2.pe_bm PySem.F.plainAttrs_list slot hty hm he ha (base_ok hb _ _) (few_ok hs (by simp)) (by rw [hl]; exact beq_self_eq_true _) (noStar_eq (all_one hs) _ _) rfl).imp fun σ H Q q => ?_) isT_call
  exact t_mut ok (tyM ho) q
theorem p_mut0 {o : Mu} {id n : String} {r : V → List V → Hp → VK → Prop} {e : E} {b : Py} {p1 p2 : PySem.Pos} (slot : PySem.Slot "list" (sst n) id) (hty : PySem.typeOf (.builtin id) = Pure.pure (Value.type "method_descriptor")) (hm : MtR X id r)
    (ok : OkM X.K o r) (ho : isLm o = true) (hb : baseB b = true) (hl : p1.endLine = p2.line) (he : PE X b (tE X.K W C e)) : P2 X W C (.mut o e []) (.Call (.Attribute b (sst n) p1) [] [] p2) := by
  refine .of ((L2.pe_bm0 PySem.F.plainAttrs_list slot hty hm he (base_ok hb _ _) (by rw [hl]; exact beq_self_eq_true _)).imp fun σ H Q q => ?_) isT_call
  obtain ⟨M, s, rt, q⟩ := t_mut ok (tyM ho) q
  refine ⟨M, s, rt, q.1, ?_⟩
  have q := q.2
  cases z : evalE C e s with
  | ok x s' => rw [z] at q; exact fun M' H' v a b c d => ⟨(q M' H' v a b c d).1, t_nil (q M' H' v a b c d).2⟩
  | raise x s' => rw [z] at q; exact q
  | stuck => rw [z] at q; exact q
end
end KW
/-! KwIt: what is walked. -/
namespace KW
open PySem (Str Addr Value Program World Heap Operator CmpOp binaryOp compareOp PyData Scope Const Env wpAny_bind wpAny_mono)
open PySem.Spec PyProof.Rows
open L2 (V Hp HO upd upd_same upd_ne upd_upd SqL SqT Rd RelV Mut TE TT TA TS TI TG PI PG WX PE PT PW PA PS PSs Cx Inv OpR UnR CallR MtR IxR SlR TruR VK EP XK rI0)
theorem lkF {b : Option Addr} (h : b = none) (z : b ≠ none) : False := z h
/-- J walks ds, from where M1 H1 stand; w: what it reads -/
structure Wk (K : Fr) (J : L2.It) (ds : List D) (mu : Bool) (n : Nat) (M1 : MM) (H1 : Hp) (w : Addr → Prop) : Prop where
  at_ : ∀ b, w b → H1 b ≠ none ∧ (mu = false → prot (M1.who b))
  go : ∀ i H, i < ds.length → (∀ b, w b → H b = H1 b) → J.go i H
  stop : ∀ H, (∀ b, w b → H b = H1 b) → J.stop ds.length H
  yld : ∀ i M H σ s x H', i < ds.length → RT K M H σ s → Keep n M1 H1 s.h.length M H → (∀ b, w b → H b = H1 b) → J.yld i H x H' → ∃ M' d, ds[i]? = some d ∧ Grow M H M' H' ∧ RT K M' H' σ s ∧ RD K s.h.length M' H' d x
def tI (K : Fr) (W : WX) (C : CallF) (it : It) : TI := fun σ H R => ∃ M s, M.lk = none ∧ RT K M H σ s ∧ match evalIt C it s with
  | .ok (ds, mu) s' => ∀ M' H' J w, Ext s.h.length M H s'.h.length M' H' → RT K M' H' σ s' → Wk K J ds mu s'.h.length M' H' w → R J H'
  | .raise x s' => ∀ M' H' cls d, Ext s.h.length M H s'.h.length M' H' → RT K M' H' σ s' → RX K s'.h.length M' H' x cls d → W cls d σ H'
  | .stuck => False
section
variable {K : Fr} {M : MM} {H : Hp} {σ : L2.St} {s : S}
theorem wk_list {a : Addr} {vs : List V} {ds : List D} {mu : Bool} (rt : RT K M H σ s) (h : Rd H a (.lst vs)) (rs : RDs K s.h.length M H ds vs) (hp : mu = false → prot (M.who a)) : Wk K (L2.Itl K a) ds mu s.h.length M H (fun b => b = a) := by
  have q : ∀ H', (∀ b, b = a → H' b = H b) → SqL K H' a vs := fun H' e => .inl (rd_eq h (e a rfl))
  have hl := RD.len_eq rs
  refine ⟨fun b e => by subst e; exact ⟨fun z => (by rcases h with h | ⟨o, h⟩ <;> (rw [z] at h; cases h)), hp⟩, fun i H' hi e => ⟨vs, vs[i]'(by omega), q H' e, by simp [← hl, hi]⟩, fun H' e => ⟨vs, q H' e, by omega⟩, fun i M' H' σ' s' x H'' hi rt' kp e y => ?_⟩
  obtain ⟨rfl, y⟩ := y
  have y := y vs (q _ e)
  obtain ⟨v, g1, g2⟩ := rs.get (List.getElem?_eq_getElem hi)
  rw [y] at g1
  injection g1 with g1
  subst g1
  exact ⟨M', _, List.getElem?_eq_getElem hi, .refl, rt', g2.mono kp⟩
theorem sqt_up {a : Addr} {vs : List V} (h : SqT K H a vs) {H' : Hp} (e : H' a = H a) : SqT K H' a vs := by
  rcases h with (h | ⟨o, h⟩) | h
  · exact .inl (.inl (e.trans h))
  · exact .inl (.inr ⟨o, e.trans h⟩)
  · exact .inr h
theorem wk_tup {a : Addr} {vs : List V} {ds : List D} (rt : RT K M H σ s) (h : SqT K H a vs) (rs : RDs K s.h.length M H ds vs) : ∃ w, Wk K (L2.Itt K a) ds false s.h.length M H w := by
  have nm : ∀ o, H a = some o → ¬ Mx M.lk a (some o) → prot (M.who a) := fun o e nm => by
    cases z : M.who a with
    | none => exact .inl rfl
    | some l => exact absurd (by have := rt.hp.wf a l z; rw [e] at this; exact this) nm
  have hl := RD.len_eq rs
  have fin : ∀ w : Addr → Prop, (∀ b, w b → H b ≠ none ∧ prot (M.who b)) → (∀ H', (∀ b, w b → H' b = H b) → SqT K H' a vs) → Wk K (L2.Itt K a) ds false s.h.length M H w := fun w hw q => by
    refine ⟨fun b e => ⟨(hw b e).1, fun _ => (hw b e).2⟩, fun i H' hi e => ⟨vs, vs[i]'(by omega), q H' e, by simp [← hl, hi]⟩, fun H' e => ⟨vs, q H' e, by omega⟩, fun i M' H' σ' s' x H'' hi rt' kp e y => ?_⟩
    obtain ⟨rfl, y⟩ := y
    have y := y vs (q _ e)
    obtain ⟨v, g1, g2⟩ := rs.get (List.getElem?_eq_getElem hi)
    rw [y] at g1
    injection g1 with g1
    subst g1
    exact ⟨M', _, List.getElem?_eq_getElem hi, .refl, rt', g2.mono kp⟩
  rcases h with (h | ⟨o, h⟩) | h
  · exact ⟨_, fin (fun b => b = a) (fun b e => by subst e; exact ⟨by rw [h]; exact (fun z => by cases z), nm _ h Mx.tup⟩) fun H' e => .inl (.inl (by rw [e a rfl]; exact h))⟩
  · exact ⟨_, fin (fun b => b = a) (fun b e => by subst e; exact ⟨by rw [h]; exact (fun z => by cases z), nm _ h Mx.ftup⟩) fun H' e => .inl (.inr ⟨o, by rw [e a rfl]; exact h⟩)⟩
  · exact ⟨_, fin (fun _ => False) (fun b e => e.elim) fun H' e => .inr h⟩
theorem wk_str {t : T} (ht : okT t) : Wk K (L2.Its (mst t)) (t.map fun c => .str [c]) false s.h.length M H (fun _ => False) := by
  have hs : (mst t).cps.size = t.length := by simp [mst]
  refine ⟨fun b e => e.elim, fun i H' hi _ => ?_, fun H' _ => ?_, fun i M' H' σ' s' x H'' hi rt' kp _ y => ?_⟩
  · show i < (mst t).cps.size
    rw [hs]; simpa using hi
  · show (mst t).cps.size ≤ _
    rw [hs]; simp
  · obtain ⟨rfl, c, y1, rfl⟩ := y
    have y2 : t[i]? = some c := by simpa [mst] using y1
    refine ⟨M', .str [c], by rw [List.getElem?_map, y2]; rfl, .refl, rt', ?_⟩
    exact .str [c] ⟨by show 1 ≤ 16777216; decide, fun d hd => by
      obtain rfl := List.mem_singleton.mp hd
      exact ht.2 d (List.mem_of_getElem? y2)⟩
theorem range_get : ∀ (n : Nat) (a : Int) (i : Nat), i < n → (range' a 1 n)[i]? = some (.int (a + i))
  | 0, _, _, h => absurd h (Nat.not_lt_zero _)
  | n + 1, a, 0, _ => by simp [range']
  | n + 1, a, i + 1, h => by
    rw [range', List.getElem?_cons_succ, range_get n (a + 1) i (by omega)]
    congr 2
    push_cast
    omega
theorem range_len : ∀ (n : Nat) (a c : Int), (range' a c n).length = n
  | 0, _, _ => rfl
  | n + 1, a, c => by rw [range', List.length_cons, range_len n]
theorem wk_range {lo : Int} {n : Nat} : Wk K (L2.Itr lo n) (range' lo 1 n) false s.h.length M H (fun _ => False) := by
  refine ⟨fun b e => e.elim, fun i H' hi _ => ?_, fun H' _ => ?_, fun i M' H' σ' s' x H'' hi rt' kp _ y => ?_⟩
  · rw [range_len] at hi; exact hi
  · show n ≤ _
    rw [range_len]; exact Nat.le_refl _
  · obtain ⟨rfl, rfl⟩ := y
    rw [range_len] at hi
    exact ⟨M', _, range_get n lo i hi, .refl, rt', .int _⟩
end
theorem lst_raw {K : Fr} {M : MM} {H : Hp} {σ : L2.St} {s : S} {x : RV} {v : V} {xs : List D} (rt : RT K M H σ s) (r : RR K s.h.length M H x v) (h : lstOf s.h x = some xs) :
    ∃ a vs, v = .ref a ∧ Rd H a (.lst vs) ∧ RDs K s.h.length M H xs vs ∧ (∀ c, x = .own c → M.who a = some .tmp) ∧ ∀ ys, x = .val (.lst ys) → M.who a = none := by
  cases r with
  | own hw hc => cases hc with
    | lst h1 h2 => simp [lstOf] at h; subst h; exact ⟨_, _, rfl, .inl h1, h2, fun _ _ => hw, fun _ e => by cases e⟩
    | dct _ _ _ _ => simp [lstOf] at h
  | pk hw hc => cases hc with
    | lst h1 h2 => simp [lstOf] at h; subst h; exact ⟨_, _, rfl, .inl h1, h2, fun _ e => (by cases e), fun _ e => by cases e⟩
    | dct _ _ _ _ => simp [lstOf] at h
  | val r => cases r with
    | lst h1 h2 h3 => simp [lstOf] at h; subst h; exact ⟨_, _, rfl, h1, h3, fun _ e => (by cases e), fun _ _ => h2⟩
    | @ref i hi =>
      simp only [lstOf] at h
      cases q : s.h[i]? with
      | none => rw [q] at h; cases h
      | some c =>
        rw [q] at h
        have rc := rt.hp.cell i c q
        cases rc with
        | lst h1 h2 => simp at h; subst h; exact ⟨_, _, rfl, .inl h1, h2, fun _ e => (by cases e), fun _ e => by cases e⟩
        | ins _ _ _ => cases h
        | dct _ _ _ => cases h
    | _ => simp [lstOf] at h
section
variable {G : Tabs} {X : Cx} {W : WX} {C : CallF} {tg : Py}
theorem t_one {e : E} {ta : TE} {σ : L2.St} {H : Hp} {Q : List V → Hp → Prop} (h : ta σ H fun v H1 => Q [v] H1) : L2.tCons ta L2.tNil σ H Q := h
/-- range(n) -/
theorem p_rng1 {e : E} {b : Py} {p pos : PySem.Pos} (ev : Ev G X W C) (hg : glB X.env.scope (sst "range") = true) (hs : [b].all noStarB = true) (h : PE X b (tE X.K W C e)) : PI X tg (.Call (.Name (sst "range") p) [b] [] pos) (tI X.K W C (.rng1 e)) := by
  refine ⟨fun pins s σ H R I ⟨M, s0, lk, rt, q⟩ => ?_⟩
  simp only [evalIt] at q
  refine (L2.pi_range1 (X := X) (tg := tg) (glB_gl hg) (ev.bl "range" (by decide)) (pa_one (all_one hs) h) (noStar_eq (all_one hs) _ _)).run pins s σ H R I ⟨M, s0, rt, fun z => (lkF lk z).elim, ?_⟩
  cases z : evalE C e s0 with
  | stuck => rw [z] at q; exact q.elim
  | raise x s1 => rw [z] at q; exact q
  | ok x s1 =>
    rw [z, bind_ok] at q
    intro M1 H1 v e1 p1 rt1 rl1
    split at q
    · rename_i y
      split at y
      · split at y
        · rename_i g
          injection y with y1 y2
          injection y1 with y1 y3
          subst y1 y2 y3
          cases int_at rl1.1
          exact ⟨_, rfl, g.1, g.2, q M1 H1 _ _ e1 rt1 wk_range⟩
        · cases y
      · cases y
    · rename_i y
      split at y
      · split at y <;> cases y
      · cases y
    · exact q.elim
/-- range(a, b) -/
theorem p_rng2 {e f : E} {b c : Py} {p pos : PySem.Pos} (ev : Ev G X W C) (hg : glB X.env.scope (sst "range") = true) (hs : [b, c].all noStarB = true) (h : PE X b (tE X.K W C e)) (h2 : PE X c (tE X.K W C f)) : PI X tg (.Call (.Name (sst "range") p) [b, c] [] pos) (tI X.K W C (.rng2 e f)) := by
  refine ⟨fun pins s σ H R I ⟨M, s0, lk, rt, q⟩ => ?_⟩
  simp only [evalIt] at q
  have h12 := all_two hs
  refine (L2.pi_range2 (X := X) (tg := tg) (glB_gl hg) (ev.bl "range" (by decide)) (pa_two h12.1 h12.2 h h2) (by rw [noStar_eq h12.1, noStar_eq h12.2]; rfl) (noStar_eq h12.2 _ _)).run pins s σ H R I ⟨M, s0, rt, fun z => (lkF lk z).elim, ?_⟩
  cases z : evalE C e s0 with
  | stuck => rw [z] at q; exact q.elim
  | raise x s1 => rw [z] at q; exact q
  | ok x s1 =>
    rw [z, bind_ok] at q
    intro M1 H1 v e1 p1 rt1 rl1
    refine ⟨M1, s1, rt1, fun z => (lkF (e1.lk.trans lk) z).elim, ?_⟩
    cases z2 : evalE C f s1 with
    | stuck => rw [z2] at q; exact q.elim
    | raise x2 s2 => rw [z2] at q; exact fun M' H' cls d a b c => q M' H' cls d (e1.trans a) b c
    | ok y s2 =>
      rw [z2, bind_ok] at q
      intro M2 H2 u e2 p2 rt2 rl2
      split at q
      · rename_i y'
        split at y'
        · split at y'
          · rename_i g
            injection y' with y1 y2
            injection y1 with y1 y3
            subst y1 y2 y3
            cases int_at rl1.1
            cases int_at rl2.1
            exact ⟨_, _, rfl, g, q M2 H2 _ _ (e1.trans e2) rt2 wk_range⟩
          · cases y'
        · cases y'
      · rename_i y'
        split at y'
        · split at y' <;> cases y'
        · cases y'
      · exact q.elim
/-- a list, a tuple, a text -/
theorem p_seq {e : E} {py : Py} (h : PE X py (tE X.K W C e)) : PI X tg py (tI X.K W C (.seq e)) := by
  refine ⟨fun pins s σ H R I ⟨M, s0, lk, rt, q⟩ => ?_⟩
  simp only [evalIt] at q
  cases z : evalE C e s0 with
  | stuck => rw [z] at q; exact q.elim
  | raise x s1 =>
    rw [z] at q
    refine (L2.pi_list (X := X) (tg := tg) h).run pins s σ H R I ⟨M, s0, rt, fun z => (lkF lk z).elim, ?_⟩
    rw [z]; exact q
  | ok x s1 =>
    rw [z, bind_ok] at q
    have str : ∀ t : T, x = .val (.str t) → PySem.wpAny (PySem.model X.prog X.w) X.A (PySem.eval py X.env) (fun v s1 => PySem.wpAny (PySem.model X.prog X.w) X.A (PySem.pyIter v) (L2.PIE X pins σ tg R) X.xe s1) X.xe s := fun t ex => by
      subst ex
      refine (L2.pi_str (X := X) (tg := tg) h).run pins s σ H R I ⟨M, s0, rt, fun z => (lkF lk z).elim, ?_⟩
      rw [z]
      intro M1 H1 v e1 p1 rt1 rl1
      obtain ⟨rfl, ht⟩ := str_at rl1.1
      exact ⟨_, rfl, q M1 H1 _ _ e1 rt1 (wk_str ht)⟩
    have tup : ∀ xs : List D, x = .val (.tup xs) → PySem.wpAny (PySem.model X.prog X.w) X.A (PySem.eval py X.env) (fun v s1 => PySem.wpAny (PySem.model X.prog X.w) X.A (PySem.pyIter v) (L2.PIE X pins σ tg R) X.xe s1) X.xe s := fun xs ex => by
      subst ex
      refine (L2.pi_tup (X := X) (tg := tg) h).run pins s σ H R I ⟨M, s0, rt, fun z => (lkF lk z).elim, ?_⟩
      rw [z]
      intro M1 H1 v e1 p1 rt1 rl1
      obtain ⟨a, vs, rfl, r1, r2⟩ := tup_at (x := .val .non) rl1.1
      obtain ⟨w, hw⟩ := wk_tup rt1 r1 r2
      exact ⟨a, rfl, ⟨vs, r1⟩, q M1 H1 _ _ e1 rt1 hw⟩
    have lst : ∀ (xs : List D) (mu : Bool), lstOf s1.h x = some xs → (mu = false → (∃ c, x = .own c) ∨ ∃ ys, x = .val (.lst ys)) → (∀ M' H' J w, Ext s0.h.length M H s1.h.length M' H' → RT X.K M' H' σ s1 → Wk X.K J xs mu s1.h.length M' H' w → R J H') →
        PySem.wpAny (PySem.model X.prog X.w) X.A (PySem.eval py X.env) (fun v s1 => PySem.wpAny (PySem.model X.prog X.w) X.A (PySem.pyIter v) (L2.PIE X pins σ tg R) X.xe s1) X.xe s := fun xs mu hl hm q => by
      refine (L2.pi_list (X := X) (tg := tg) h).run pins s σ H R I ⟨M, s0, rt, fun z => (lkF lk z).elim, ?_⟩
      rw [z]
      intro M1 H1 v e1 p1 rt1 rl1
      obtain ⟨a, vs, rfl, r1, r2, r3, r4⟩ := lst_raw rt1 rl1.1 hl
      refine ⟨a, rfl, ⟨vs, .inl r1⟩, q M1 H1 _ _ e1 rt1 (wk_list rt1 r1 r2 fun g => ?_)⟩
      rcases hm g with ⟨c, e⟩ | ⟨ys, e⟩
      · exact .inr (.inl (r3 c e))
      · exact .inl (r4 ys e)
    have opts : ∀ {o : Option (List D)} {mu : Bool}, (match (opt s1 (o.map fun xs => (xs, mu)) : KW.R (List D × Bool)) with
        | .ok (ds, mu) s' => ∀ M' H' J w, Ext s0.h.length M H s'.h.length M' H' → RT X.K M' H' σ s' → Wk X.K J ds mu s'.h.length M' H' w → R J H'
        | .raise x s' => ∀ M' H' cls d, Ext s0.h.length M H s'.h.length M' H' → RT X.K M' H' σ s' → RX X.K s'.h.length M' H' x cls d → W cls d σ H'
        | .stuck => False) → ∃ xs, o = some xs ∧ ∀ M' H' J w, Ext s0.h.length M H s1.h.length M' H' → RT X.K M' H' σ s1 → Wk X.K J xs mu s1.h.length M' H' w → R J H' := fun {o mu} q => by
      cases o with
      | none => exact q.elim
      | some xs => exact ⟨xs, rfl, q⟩
    cases x with
    | own c =>
      obtain ⟨xs, h1, q⟩ := opts q
      exact lst xs false h1 (fun _ => .inl ⟨c, rfl⟩) q
    | pk p c =>
      obtain ⟨xs, h1, q⟩ := opts q
      exact lst xs true h1 (fun z => by cases z) q
    | val d =>
      cases d with
      | str t => exact str t rfl
      | tup xs => exact tup xs rfl
      | lst ys =>
        obtain ⟨xs, h1, q⟩ := opts (o := some ys) (mu := false) q
        exact lst xs false h1 (fun _ => .inr ⟨ys, rfl⟩) q
      | ref i =>
        obtain ⟨xs, h1, q⟩ := opts q
        exact lst xs true h1 (fun z => by cases z) q
      | _ =>
        obtain ⟨xs, h1, q⟩ := opts (o := none) (mu := false) q
        cases h1
end
end KW
/-! KwComp: targets, comprehensions. -/
namespace KW
open PySem (Str Addr Value Program World Heap Operator CmpOp binaryOp compareOp PyData Scope Const Env wpAny_bind wpAny_mono)
open PySem.Spec PyProof.Rows
open L2 (V Hp HO upd upd_same upd_ne upd_upd SqL SqT Rd RelV Mut TE TT TA TS TI TG PI PG WX PE PT PW PA PS PSs Cx Inv OpR UnR CallR MtR IxR SlR TruR VK EP XK rI0)
/-- places that are set one after another -/
theorem fset_get {α : Type} (f : Nat → α) : ∀ (is : List Nat) (l : List α) (j : Nat), (is.foldl (fun l i => l.set i (f i)) l)[j]? = if j ∈ is then (if j < l.length then some (f j) else none) else l[j]?
  | [], l, j => by simp
  | i :: is, l, j => by
    rw [List.foldl_cons, fset_get f is, List.length_set]
    by_cases h : j ∈ is
    · simp [h]
    · by_cases e : i = j
      · subst e
        simp [h]
        by_cases g : i < l.length
        · simp [g]
        · simp [g]
      · have e2 : ¬ j = i := fun z => e z.symm
        simp [h, e2, List.getElem?_set_ne e]
theorem fset_len {α : Type} (f : Nat → α) : ∀ (is : List Nat) (l : List α), (is.foldl (fun l i => l.set i (f i)) l).length = l.length
  | [], l => rfl
  | i :: is, l => by rw [List.foldl_cons, fset_len f is, List.length_set]
/-- the slots of the block's own names forgotten -/
def wS (is : List Nat) (σ : List (Option SV)) : List (Option SV) := is.foldl (fun σ i => σ.set i none) σ
theorem wS_get {is : List Nat} {σ : List (Option SV)} {j : Nat} {sv : SV} (h : (wS is σ)[j]? = some (some sv)) : σ[j]? = some (some sv) ∧ j ∉ is := by
  unfold wS at h
  rw [fset_get (fun _ => none)] at h
  split at h
  · split at h <;> cases h
  · rename_i g
    exact ⟨h, g⟩
theorem wS_out {is : List Nat} {σ : List (Option SV)} {j : Nat} (h : j ∉ is) : (wS is σ)[j]? = σ[j]? := by
  unfold wS
  rw [fset_get (fun _ => none), if_neg h]
theorem wS_len {is : List Nat} {σ : List (Option SV)} : (wS is σ).length = σ.length := fset_len (fun _ => none) is σ
/-- the targets that are known -/
def tgIs (is : List Nat) : Prop := (∃ i, is = [i]) ∨ ∃ i j, is = [i, j] ∧ i ≠ j
theorem bindT_wS {is : List Nat} (hi : tgIs is) {d : D} {s s1 : S} (h : bindT is d s = some s1) : bindT is d ⟨wS is s.σ, s.h⟩ = some s1 := by
  rcases hi with ⟨i, rfl⟩ | ⟨i, j, rfl, ne⟩
  · simp only [bindT] at h ⊢
    rw [← h]
    simp [wS]
  · have key : ∀ (l : List (Option SV)) (a b : Option SV), (((l.set i none).set j none).set i a).set j b = (l.set i a).set j b := fun l a b => by
      apply List.ext_getElem?
      intro k
      by_cases e1 : j = k
      · subst e1
        simp only [List.getElem?_set, List.length_set]
        split <;> rfl
      · rw [List.getElem?_set_ne e1, List.getElem?_set_ne e1]
        by_cases e2 : i = k
        · subst e2
          simp only [List.getElem?_set, List.length_set]
          split <;> rfl
        · rw [List.getElem?_set_ne e2, List.getElem?_set_ne e2, List.getElem?_set_ne e1, List.getElem?_set_ne e2]
    cases d with
    | tup xs =>
      cases xs with
      | nil => cases h
      | cons a xs =>
        cases xs with
        | nil => cases h
        | cons b xs =>
          cases xs with
          | nil =>
            injection (show some ({ s with σ := (s.σ.set i (some (.val a))).set j (some (.val b)) } : S) = some s1 from h) with h
            show some ({ h := s.h, σ := (((s.σ.set i none).set j none).set i (some (.val a))).set j (some (.val b)) } : S) = some s1
            rw [key, h]
          | cons c xs =>
            exfalso
            unfold bindT at h
            simp at h
    | _ => cases h
section
variable {K : Fr} {M M' : MM} {H H' : Hp} {σ : L2.St} {s : S}
theorem RT.wiped (r : RT K M H σ s) (is : List Nat) : RT K M H (L2.wipe σ is) ⟨wS is s.σ, s.h⟩ := by
  refine ⟨r.hp, ?_, fun j sv q => ?_⟩
  · show (wS is s.σ).length = _
    rw [wS_len, L2.wipe_length]; exact r.len
  · obtain ⟨h1, h2⟩ := wS_get q
    obtain ⟨v, g1, g2⟩ := r.sl j sv h1
    exact ⟨v, by rw [L2.wipe_out h2]; exact g1, g2⟩
/-- behind a comprehension -/
theorem RT.backT {s0 : S} {M1 : MM} {H1 : Hp} {is : List Nat} (r1 : RT K M1 H1 σ s0) (r : RT K M H (L2.wipe σ is) ⟨wS is s.σ, s.h⟩) (e : Ext s0.h.length M1 H1 s.h.length M H) : RT K M H σ (backT s0.σ is s) := by
  have len : s.σ.length = σ.length := by
    have := r.len
    rw [L2.wipe_length] at this
    rw [← this]
    exact wS_len.symm
  refine ⟨r.hp, ?_, fun j sv q => ?_⟩
  · show (is.foldl (fun σ i => σ.set i (oldVal s0.σ i)) s.σ).length = _
    rw [fset_len]; exact len
  · have q : (is.foldl (fun σ i => σ.set i (oldVal s0.σ i)) s.σ)[j]? = some (some sv) := q
    rw [fset_get] at q
    split at q
    · split at q
      · injection q with q
        unfold oldVal at q
        split at q
        · rename_i d e0
          injection q with q
          subst q
          obtain ⟨v, g1, g2⟩ := r1.sl j _ e0
          cases g2 with
          | val rd => exact ⟨v, g1, .val (rd.mono (e.kept r1.hp.wf))⟩
        · cases q
      · cases q
    · rename_i g
      obtain ⟨v, g1, g2⟩ := r.sl j sv (by show (wS is s.σ)[j]? = _; rw [wS_out g]; exact q)
      rw [L2.wipe_out g] at g1
      exact ⟨v, g1, g2⟩
theorem RT.asgnE (r : RT K M H σ s) {j : Nat} {d : D} {v : V} (rd : RD K s.h.length M H d v) : RT K (M.drop (.slot j)) H (σ.set j (some v)) { s with σ := s.σ.set j (some (.val d)) } ∧ Ext s.h.length M H s.h.length (M.drop (.slot j)) H := by
  obtain ⟨h1, _⟩ := r.asgnV (j := j) rd
  refine ⟨h1, fun a o q p => ⟨q, ?_⟩, fun _ q => q, fun _ _ => rfl, Nat.le_refl _, drop_nl, rfl⟩
  exact drop_of (by rcases p with p | p | p <;> rw [p] <;> intro z <;> cases z)
/-- what is new is written -/
theorem RT.wrTmp (r : RT K M H σ s) {a : Addr} {o : HO} (hw : M.who a = some .tmp) (hm : Mut (some o)) : RT K M (upd H a o) σ s ∧ ∀ n, Keep n M H n M (upd H a o) := by
  have kp : ∀ n, Keep n M H n M (upd H a o) := fun n => keep_upd r.hp.wf hw
  have ne : ∀ b l, M.who b = some l → l ≠ .tmp → (upd H a o) b = H b := fun b l q h => upd_ne fun z => by rw [z, hw] at q; injection q with q; exact h q.symm
  refine ⟨⟨⟨wf_upd r.hp.wf hm, r.hp.lb, r.hp.uq, fun i c q => ?_⟩, r.len, fun j sv q => ?_⟩, kp⟩
  · have hi := (List.getElem?_eq_some_iff.mp q).1
    exact (r.hp.cell i c q).keep (kp _) hi (ne _ _ (r.hp.lb i hi) (by intro z; cases z)) fun p _ b hb => ⟨hb, ne _ _ hb (by intro z; cases z)⟩
  · obtain ⟨v, h1, h2⟩ := r.sl j sv q
    exact ⟨v, h1, h2.mono (kp _) fun b hb => ⟨hb, ne _ _ hb (by intro z; cases z)⟩⟩
end
/-! ### targets -/
def tG (K : Fr) (is : List Nat) : TG := fun v σ H Q => ∃ M d s s1, RT K M H σ s ∧ RD K s.h.length M H d v ∧ bindT is d s = some s1 ∧
  ∀ M' σ', RT K M' H σ' s1 → s1.h = s.h → Ext s.h.length M H s.h.length M' H → (∀ j, j ∉ is → σ'[j]? = σ[j]?) → σ'.length = σ.length → Q σ' H
section
variable {X : Cx}
theorem p_tgt {is : List Nat} {t : Py} (hc : X.calm = true) (hN : X.N.Nodup) (h : tgtB X.env.scope X.N is t = true) : PG X t (tG X.K is) ∧ tgIs is := by
  unfold tgtB at h
  split at h
  · rename_i i x p
    simp only [Bool.and_eq_true, decide_eq_true_eq] at h
    refine ⟨⟨fun pins s σ H v u Q I r q => ?_⟩, .inl ⟨i, rfl⟩⟩
    refine (L2.pg_name hN h.1 (.inl h.2) (.inr h.2)).run pins s σ H v u Q I r ?_
    obtain ⟨M, d, s0, s1, rt, rd, hb, q⟩ := q
    simp only [bindT] at hb
    injection hb with hb
    subst hb
    obtain ⟨t1, t2⟩ := rt.asgnE (j := i) rd
    exact q _ _ t1 rfl t2 (fun j hj => List.getElem?_set_ne fun z => hj (by simp [z])) (by simp)
  · rename_i i j x p y p2 k p3
    simp only [Bool.and_eq_true, decide_eq_true_eq] at h
    obtain ⟨⟨⟨h1, h2⟩, h3, h4⟩, h5⟩ := h
    refine ⟨⟨fun pins s σ H v u Q I r q => ?_⟩, .inr ⟨i, j, rfl, h5⟩⟩
    refine (L2.pg_tup (n := 2) hc (L2.pgs_cons (L2.pg_name hN h1 (.inl h2) (.inr h2)) (L2.pgs_cons (L2.pg_name hN h3 (.inl h4) (.inr h4)) L2.pgs_nil))).run pins s σ H v u Q I r ?_
    obtain ⟨M, d, s0, s1, rt, rd, hb, q⟩ := q
    simp only [bindT] at hb
    split at hb
    · rename_i xs
      split at hb
      · rename_i hl
        injection hb with hb
        subst hb
        cases rd with
        | tup hq hs =>
          cases hs with
          | nil => cases hl
          | cons r1 hs =>
            cases hs with
            | nil => cases hl
            | cons r2 hs =>
              cases hs with
              | cons _ _ => simp at hl
              | nil =>
                obtain ⟨t1, t2⟩ := rt.asgnE (j := i) r1
                obtain ⟨u1, u2⟩ := t1.asgnE (j := j) (r2.mono (t2.kept rt.hp.wf))
                refine ⟨_, _, rfl, hq, rfl, _, _, rfl, ?_⟩
                refine ⟨_, _, rfl, rfl, ?_⟩
                refine q _ _ u1 rfl (t2.trans u2) (fun k hk => ?_) (by simp)
                rw [List.getElem?_set_ne (fun z => hk (by simp [z])), List.getElem?_set_ne (fun z => hk (by simp [z]))]
      · cases hb
    · cases hb
  · cases h
end

/-! ### comprehensions -/
def noW : WX := fun _ _ _ _ => False
/-- the tests -/
def tTs (K : Fr) (C : CallF) (cs : List E) : TT := fun σ H Q => ∃ M s, RT K M H σ s ∧ OutR K noW relB M H σ s (pures cs) (evalCs C cs s) Q
theorem pts_none {X : Cx} {C : CallF} : L2.PTs X [] (tTs X.K C []) := ⟨fun pins s σ H Q I ⟨M, s0, rt, h⟩ => L2.pts_nil.run pins s σ H Q I (by
  simp only [evalCs] at h
  exact h.2 M H true .refl (fun _ => ⟨rfl, .refl⟩) rt rfl)⟩
theorem pts_some {X : Cx} {C : CallF} {c : E} {x : Py} (h : PT X x (tT X.K noW C c)) : L2.PTs X [x] (tTs X.K C [c]) := ⟨fun pins s σ H Q I ⟨M, s0, rt, q⟩ => (L2.pts_one h).run pins s σ H Q I (by
  refine ⟨M, s0, rt, ?_⟩
  simp only [evalCs, pures, Bool.and_true] at q
  refine q.bind anti_relB (fun z => z) fun b s1 M1 H1 v hx e1 p1 rt1 rl1 h1 => ?_
  cases rl1
  have h1 := h1 true fun _ => rfl
  cases b with
  | true => exact h1.2 M1 H1 true .refl (fun _ => ⟨rfl, .refl⟩) rt1 rfl
  | false => exact h1.2 M1 H1 false .refl (fun _ => ⟨rfl, .refl⟩) rt1 rfl)⟩
theorem comp_more {is : List Nat} {fc : S → R Bool} {fe : S → R D} : ∀ {ds : List D} {s : S} {acc xs : List D} {sf : S}, compLoop is fc fe ds s acc = .ok xs sf → acc.length ≤ xs.length
  | [], s, acc, xs, sf, h => by
    simp only [compLoop] at h
    cases h
    simp
  | d :: r, s, acc, xs, sf, h => by
    simp only [compLoop] at h
    split at h
    · cases h
    · obtain ⟨b, s2, _, h⟩ := bind_is h
      split at h
      · obtain ⟨x, s3, _, h⟩ := bind_is h
        have := comp_more h
        simp at this
        omega
      · exact comp_more h
theorem comp_step {is : List Nat} {fc : S → R Bool} {fe : S → R D} {d : D} {r : List D} {s : S} {acc xs : List D} {sf : S} (h : compLoop is fc fe (d :: r) s acc = .ok xs sf) :
    ∃ s1 b s2, bindT is d s = some s1 ∧ fc s1 = .ok b s2 ∧ ((b = true ∧ ∃ x s3, fe s2 = .ok x s3 ∧ compLoop is fc fe r s3 (x :: acc) = .ok xs sf) ∨ (b = false ∧ compLoop is fc fe r s2 acc = .ok xs sf)) := by
  simp only [compLoop] at h
  split at h
  · cases h
  · rename_i s1 e
    obtain ⟨b, s2, h1, h⟩ := bind_is h
    refine ⟨s1, b, s2, e, h1, ?_⟩
    cases b with
    | true =>
      rw [if_pos rfl] at h
      obtain ⟨x, s3, h2, h⟩ := bind_is h
      exact .inl ⟨rfl, x, s3, h2, h⟩
    | false => exact .inr ⟨rfl, h⟩
theorem wipe_eq {σ σ' : L2.St} {is : List Nat} (h : ∀ j, j ∉ is → σ'[j]? = (L2.wipe σ is)[j]?) (hl : σ'.length = (L2.wipe σ is).length) : L2.wipe σ' is = L2.wipe σ is := by
  have at_in : ∀ (τ : L2.St) (vs : List Nat) (j : Nat), j ∈ vs → (L2.wipe τ vs)[j]? = if j < τ.length then some none else none := fun τ vs j => by
    induction vs with
    | nil => intro h; cases h
    | cons v vs ih =>
      intro hj
      unfold L2.wipe
      by_cases e : v = j
      · subst e
        rw [List.getElem?_set]
        simp [L2.wipe_length]
      · rw [List.getElem?_set_ne e]
        exact ih ((List.mem_cons.mp hj).resolve_left fun z => e z.symm)
  apply List.ext_getElem?
  intro j
  by_cases hj : j ∈ is
  · rw [at_in _ _ _ hj, at_in _ _ _ hj, hl, L2.wipe_length]
  · rw [L2.wipe_out hj, h j hj]
section
variable {K : Fr} {W : WX} {C : CallF} {σ : L2.St} {H : Hp} {Q : VK}
theorem comp_core {is : List Nat} {cs : List E} {e : E} {ds xs : List D} {mu : Bool} {s0 sf : S} {M1 : MM} {H1 : Hp} {J : L2.It} {w : Addr → Prop} (hi : tgIs is) (rt1 : RT K M1 H1 σ s0) (wk : Wk K J ds mu s0.h.length M1 H1 w) (pu : mu = true → pures cs = true ∧ pure e = true) (lkp : M1.lk ≠ none → mu = true)
    (hl : compLoop is (fun s => evalCs C cs s) (fun s => exports (evalE C e s)) ds s0 [] = .ok xs sf) (hxs : xs.length ≤ sizeLine)
    (hq : ∀ M' H' v, Ext s0.h.length M1 H1 sf.h.length M' H' → RT K M' H' σ (backT s0.σ is sf) → RR K sf.h.length M' H' (.own (.lst xs)) v → Fresh H1 (.own (.lst xs)) v → (∀ b, w b → H' b = H1 b) → Q v H') : ∀ D, H1 D = none → ∃ W : Nat → Nat → Hp → Prop, (∃ m, W 0 m (upd H1 D (.lst []))) ∧ ∀ i m H, W i m H →
      (J.stop i H ∧ Q (.ref D) H) ∨ (J.go i H ∧ ∃ Nx : Hp → Prop, (∀ H', Nx H' → ∃ m', m' < m ∧ W (i + 1) m' H') ∧ ∀ x H', J.yld i H x H' → tG K is x (L2.wipe σ is) H' fun σ2 H2 => L2.wipe σ2 is = L2.wipe σ is ∧ tTs K C cs σ2 H2 fun b H3 =>
        if b = true then tD K noW C e σ2 H3 fun y H4 => ∃ acc, H4 D = some (.lst acc) ∧ acc.length < PySem.sizeLine ∧ Nx (upd H4 D (.lst (acc ++ [y]))) else Nx H3) := by
    intro D hD
    have nw : ∀ b, w b → b ≠ D := fun b wb e => (wk.at_ b wb).1 (by rw [e]; exact hD)
    -- what holds at turn i
    let Pv : Nat → Hp → Prop := fun i H' => ∃ M' s' acc accV, RT K M' H' (L2.wipe σ is) ⟨wS is s'.σ, s'.h⟩ ∧ Ext s0.h.length M1 H1 s'.h.length M' H' ∧ M'.who D = some .tmp ∧ H' D = some (.lst accV) ∧ RDs K s'.h.length M' H' acc.reverse accV ∧
      (∀ b, w b → H' b = H1 b ∧ (mu = false → prot (M'.who b))) ∧ compLoop is (fun s => evalCs C cs s) (fun s => exports (evalE C e s)) (ds.drop i) s' acc = .ok xs sf
    refine ⟨fun i m H' => m = ds.length - i ∧ i ≤ ds.length ∧ Pv i H', ⟨ds.length, by simp, Nat.zero_le _, ?_⟩, ?_⟩
    · obtain ⟨t1, t2⟩ := (rt1.wiped is).tmp (o := .lst []) hD trivial
      refine ⟨M1.set D (some .tmp), s0, [], [], t1, t2.ext, MM.set_same, upd_same, .nil, fun b wb => ⟨upd_ne (nw b wb), fun z => ?_⟩, by rw [List.drop_zero]; exact hl⟩
      rw [MM.set_ne (nw b wb)]
      exact (wk.at_ b wb).2 z
    · rintro i m H' ⟨rfl, hle, M', s', acc, accV, rt', ex, hwD, hHD, ra, hwt, hc⟩
      by_cases hlt : i < ds.length
      · refine .inr ⟨wk.go i H' hlt fun b wb => (hwt b wb).1, fun H'' => Pv (i + 1) H'', fun H'' p => ⟨ds.length - (i + 1), by omega, rfl, hlt, p⟩, fun x H2 hy => ?_⟩
        obtain ⟨M2, d, hd, g2, rt2, rd2⟩ := wk.yld i M' H' _ _ x H2 hlt rt' (ex.kept rt1.hp.wf) (fun b wb => (hwt b wb).1) hy
        rw [List.drop_eq_getElem_cons hlt] at hc
        have ed : ds[i] = d := by rw [List.getElem?_eq_getElem hlt] at hd; exact Option.some.inj hd
        rw [ed] at hc
        obtain ⟨s1, b, s2, hb, hfc, hrest⟩ := comp_step hc
        refine ⟨M2, d, _, s1, rt2, rd2, bindT_wS hi hb, fun M3 σ3 rt3 hh3 ex3 out3 len3 => ?_⟩
        refine ⟨wipe_eq out3 len3, M3, s1, rt3, fun z => (pu (lkp (by rw [← ex.lk, ← g2.lk, ← ex3.lk]; exact z))).1, ?_⟩
        rw [hfc]
        have hh3 : s1.h = s'.h := hh3
        intro M4 H4 v e4 p4 rt4 rl4
        cases rl4
        have D0 : ∀ {Ma : MM} {Ha : Hp} {na nb : Nat} {Mb : MM} {Hb : Hp}, Ext na Ma Ha nb Mb Hb → Ma.who D = some .tmp → Ha D = some (.lst accV) → Mb.who D = some .tmp ∧ Hb D = some (.lst accV) := fun ex hw hH => by
          obtain ⟨k1, k2⟩ := ex.keep D _ hH (by rw [hw]; exact .inr (.inl rfl))
          exact ⟨k2.trans hw, k1⟩
        have d2 := D0 (g2.ext (n := s'.h.length)) hwD hHD
        have d3 := D0 ex3 d2.1 d2.2
        have d4 := D0 e4 d3.1 d3.2
        have wt : ∀ {Ma : MM} {Ha : Hp} {na nb : Nat} {Mb : MM} {Hb : Hp}, Ext na Ma Ha nb Mb Hb → (mu = true → ∀ b o, Ha b = some o → Hb b = some o) → (∀ b, w b → Ha b = H1 b ∧ (mu = false → prot (Ma.who b))) → ∀ b, w b → Hb b = H1 b ∧ (mu = false → prot (Mb.who b)) := fun {Ma Ha na nb Mb Hb} ex gr hw b wb => by
          obtain ⟨k1, k2⟩ := hw b wb
          cases qb : H1 b with
          | none => exact absurd qb (wk.at_ b wb).1
          | some o =>
            rw [qb] at k1
            cases hm : mu with
            | true => exact ⟨gr hm b o k1, fun z => by cases z⟩
            | false =>
              obtain ⟨l1, l2⟩ := ex.keep b o k1 (k2 hm)
              exact ⟨l1, fun _ => by rw [l2]; exact k2 hm⟩
        have w2 := wt (g2.ext (n := s'.h.length)) (fun _ b o z => (g2.keep b o z).1) hwt
        have w3 := wt ex3 (fun _ b o z => z) w2
        have w4 := wt e4 (fun z b o y => ((p4 (pu z).1).2.keep b o y).1) w3
        have ex4 : Ext s0.h.length M1 H1 s2.h.length M4 H4 := by
          have a1 := ex.trans (g2.ext (n := s'.h.length))
          have a2 := a1.trans ex3
          rw [hh3] at e4
          exact a2.trans e4
        have kp4 : Keep s'.h.length M' H' s2.h.length M4 H4 := by
          have a1 := (g2.ext (n := s'.h.length)).trans ex3
          rw [hh3] at e4
          exact (a1.trans e4).kept rt'.hp.wf
        have we := wipe_eq out3 len3
        rcases hrest with ⟨rfl, y, s3, hfe, hrec⟩ | ⟨rfl, hrec⟩
        · rw [if_pos rfl]
          refine ⟨M4, s2, rt4, fun z => (pu (lkp (by rw [← ex4.lk]; exact z))).2, ?_⟩
          rw [hfe]
          intro M5 H5 u e5 p5 rt5 rl5
          have d5 := D0 e5 d4.1 d4.2
          have hlen : accV.length < sizeLine := by
            have := comp_more hrec
            have h3 := RD.len_eq ra
            rw [List.length_reverse] at h3
            rw [List.length_cons] at this
            have : xs.length ≤ sizeLine := hxs
            omega
          refine ⟨accV, d5.2, by rw [sizeLine_is]; exact hlen, ?_⟩
          obtain ⟨t1, t2⟩ := rt5.wrTmp (o := .lst (accV ++ [u])) d5.1 trivial
          refine ⟨M5, s3, y :: acc, accV ++ [u], ?_, ?_, d5.1, upd_same, ?_, ?_, hrec⟩
          · have := t1.wiped is
            rw [we] at this
            exact this
          · have a := ex4.trans e5
            refine ⟨fun b o z p => ?_, fun b z => ?_, a.loc, a.le, a.nl, a.lk⟩
            · obtain ⟨k1, k2⟩ := a.keep b o z p
              exact ⟨by rw [upd_ne (L2.ne_of_none z hD)]; exact k1, k2⟩
            · by_cases eb : b = D
              · rw [eb]; exact hD
              · rw [upd_ne eb] at z; exact a.dom b z
          · rw [List.reverse_cons]
            have kp5 := e5.kept rt4.hp.wf
            exact (((ra.mono kp4).mono kp5).mono (t2 _)).app (.cons (RD.mono (t2 _) rl5) .nil)
          · have w5 := wt e5 (fun z b o y => ((p5 (pu z).2).2.keep b o y).1) w4
            exact fun b wb => ⟨by rw [upd_ne (nw b wb)]; exact (w5 b wb).1, (w5 b wb).2⟩
        · rw [if_neg (by intro z; cases z)]
          refine ⟨M4, s2, acc, accV, ?_, ex4, d4.1, d4.2, ra.mono kp4, w4, hrec⟩
          have := rt4.wiped is
          rw [we] at this
          exact this
      · have ei : i = ds.length := by omega
        subst ei
        refine .inl ⟨wk.stop H' fun b wb => (hwt b wb).1, ?_⟩
        rw [List.drop_length] at hc
        simp only [compLoop] at hc
        injection hc with hc1 hc2
        subst hc1 hc2
        have hlen : (backT s0.σ is s').h.length = s'.h.length := rfl
        exact hq M' H' (.ref D) ex (rt1.backT rt' ex) (.own hwD (.lst hHD ra)) (fun c _ a z => by
          injection z with z
          subst z
          exact hD) (fun b wb => (hwt b wb).1)
theorem t_comp {is : List Nat} {it : It} {cs : List E} {e : E} (hi : tgIs is) (h : tE K W C (.comp is it cs e) σ H Q) : L2.tLc (tI K W C it) (tG K is) (tTs K C cs) (tD K noW C e) is σ H Q := by
  obtain ⟨M, s, rt, h⟩ := h
  simp only [evalE, pure] at h
  have lk : M.lk = none := by
    cases z : M.lk with
    | none => rfl
    | some b => have := h.1 (by rw [z]; intro q; cases q); cases this
  have h := h.2
  refine ⟨M, s, lk, rt, ?_⟩
  cases q : evalIt C it s with
  | stuck => rw [q] at h; exact h
  | raise x s1 => rw [q] at h; exact h
  | ok p s0 =>
    obtain ⟨ds, mu⟩ := p
    rw [q, bind_ok] at h
    intro M1 H1 J w e1 rt1 wk
    by_cases g : (mu && !(pures cs && pure e)) = true
    · rw [if_pos g] at h; exact h.elim
    rw [if_neg g] at h
    have pu : mu = true → pures cs = true ∧ pure e = true := fun z => by
      subst z
      simp only [Bool.true_and, Bool.not_eq_true', Bool.and_eq_true] at g
      simpa using g
    cases hl : compLoop is (fun s => evalCs C cs s) (fun s => exports (evalE C e s)) ds s0 [] with
    | stuck => rw [hl] at h; exact h.elim
    | raise x s1 => rw [hl] at h; exact h.elim
    | ok xs sf =>
      rw [hl, calm_ok, bind_ok] at h
      cases hz : newLst xs with
      | none => rw [hz] at h; exact h.elim
      | some z =>
        obtain ⟨rfl, hxs⟩ := newLst_some hz
        rw [hz] at h
        refine comp_core hi rt1 wk pu (fun z => (lkF (e1.lk.trans lk) z).elim) hl hxs fun M' H' v e2 rt2 rr fr _ => ?_
        exact h M' H' v (e1.trans e2) (fun z => by cases z) rt2 ⟨rr, fun c e a z => e1.dom a (fr c e a z)⟩
end
end KW
/-! KwKeys: a dict's keys walked, the dict locked meanwhile. -/
namespace KW
open PySem (Str Addr Value Program World Heap Operator CmpOp binaryOp compareOp PyData Scope Const Env wpAny_bind wpAny_mono)
open PySem.Spec PyProof.Rows
open L2 (V Hp HO upd upd_same upd_ne upd_upd SqL SqT Rd RelV Mut TE TT TA TS TI TG PI PG WX PE PT PW PA PS PSs Cx Inv OpR UnR CallR MtR IxR SlR TruR VK EP XK rI0)
/-- one object is replaced by another that is read alike -/
structure Sw (H H' : Hp) : Prop where
  rdT : ∀ a vs, Rd H a (.tup vs) → Rd H' a (.tup vs)
  rdK : ∀ a gs, Rd H a (.dK gs) → Rd H' a (.dK gs)
  rdL : ∀ a vs, Rd H a (.lst vs) → Rd H' a (.lst vs)
  lst : ∀ a vs, H a = some (.lst vs) → H' a = some (.lst vs)
  ins : ∀ a c d fs, H a = some (.ins c d fs) → H' a = some (.ins c d fs)
section
variable {K : Fr} {n : Nat} {M M' : MM} {H H' : Hp} {σ : L2.St} {s : S}
mutual
theorem RD.sw (w : Sw H H') (hw : M'.who = M.who) (hl : M'.loc = M.loc) : ∀ {d : D} {v : V}, RD K n M H d v → RD K n M' H' d v
  | _, _, .non => .non
  | _, _, .bl b => .bl b
  | _, _, .int i => .int i
  | _, _, .str t h => .str t h
  | _, _, .tup h hs => .tup (h.elim (fun h => .inl (w.rdT _ _ h)) .inr) (RDs.sw w hw hl hs)
  | _, _, .lst h h2 hs => .lst (w.rdL _ _ h) (by rw [hw]; exact h2) (RDs.sw w hw hl hs)
  | _, _, .dct h h2 hk hn hs => .dct (w.rdK _ _ h) (by rw [hw]; exact h2) hk hn (RDs.sw w hw hl hs)
  | _, _, .ref h => by rw [← hl]; exact .ref h
theorem RDs.sw (w : Sw H H') (hw : M'.who = M.who) (hl : M'.loc = M.loc) : ∀ {d : List D} {v : List V}, RDs K n M H d v → RDs K n M' H' d v
  | _, _, .nil => .nil
  | _, _, .cons a b => .cons (RD.sw w hw hl a) (RDs.sw w hw hl b)
end
theorem RC.sw (w : Sw H H') (hw : M'.who = M.who) (hl : M'.loc = M.loc) {c : Cont} {a : Addr} (h : RC K n M H c a) : RC K n M' H' c a := by
  cases h with
  | lst h hs => exact .lst (w.lst _ _ h) (hs.sw w hw hl)
  | dct h hk hn hs => exact .dct (w.rdK _ _ h) hk hn (hs.sw w hw hl)
theorem RS.sw (w : Sw H H') (hw : M'.who = M.who) (hl : M'.loc = M.loc) {p : Pl} {sv : SV} {v : V} (h : RS K n M H p sv v) : RS K n M' H' p sv v := by
  cases h with
  | val h => exact .val (h.sw w hw hl)
  | own h hc => exact .own (by rw [hw]; exact h) (hc.sw w hw hl)
theorem RFs.sw (w : Sw H H') (hw : M'.who = M.who) (hl : M'.loc = M.loc) {i : Nat} : ∀ {fs : List (String × SV)} {gs : List (Str × V)}, RFs K n M H i fs gs → RFs K n M' H' i fs gs
  | _, _, .nil => .nil
  | _, _, .cons a b => .cons (a.sw w hw hl) (RFs.sw w hw hl b)
theorem REs.sw (w : Sw H H') (hw : M'.who = M.who) (hl : M'.loc = M.loc) {i : Nat} : ∀ {fs : List (Key × SV)} {gs : List (L2.Key × V)}, REs K n M H i fs gs → REs K n M' H' i fs gs
  | _, _, .nil => .nil
  | _, _, .cons a b => .cons (a.sw w hw hl) (REs.sw w hw hl b)
theorem RCell.sw (w : Sw H H') (hw : M'.who = M.who) (hl : M'.loc = M.loc) {i : Nat} {c : Cell} (h : RCell K n M H i c) : RCell K n M' H' i c := by
  cases h with
  | ins h hn hf => exact .ins (by rw [hl]; exact w.ins _ _ _ _ h) hn (hf.sw w hw hl)
  | lst h hs => exact .lst (by rw [hl]; exact w.lst _ _ h) (hs.sw w hw hl)
  | dct h hn hf => exact .dct (by rw [hl]; exact w.rdK _ _ h) hn (hf.sw w hw hl)
theorem RR.sw (w : Sw H H') (hw : M'.who = M.who) (hl : M'.loc = M.loc) {x : RV} {v : V} (h : RR K n M H x v) : RR K n M' H' x v := by
  cases h with
  | val h => exact .val (h.sw w hw hl)
  | own h hc => exact .own (by rw [hw]; exact h) (hc.sw w hw hl)
  | pk h hc => exact .pk (by rw [hw]; exact h) (hc.sw w hw hl)
theorem RH.sw {h : List Cell} (r : RH K M H h) (w : Sw H H') (hw : M'.who = M.who) (hl : M'.loc = M.loc) (wf : ∀ a l, M'.who a = some l → Mx M'.lk a (H' a)) : RH K M' H' h :=
  ⟨wf, fun i hi => by rw [hl, hw]; exact r.lb i hi, fun a b l h1 h2 e1 e2 => r.uq a b l h1 h2 (by rw [← hw]; exact e1) (by rw [← hw]; exact e2), fun i c q => (r.cell i c q).sw w hw hl⟩
theorem RT.sw (r : RT K M H σ s) (w : Sw H H') (hw : M'.who = M.who) (hl : M'.loc = M.loc) (wf : ∀ a l, M'.who a = some l → Mx M'.lk a (H' a)) : RT K M' H' σ s := by
  refine ⟨⟨wf, fun i hi => by rw [hl, hw]; exact r.hp.lb i hi, fun a b l h1 h2 e1 e2 => r.hp.uq a b l h1 h2 (by rw [← hw]; exact e1) (by rw [← hw]; exact e2), fun i c q => (r.hp.cell i c q).sw w hw hl⟩, r.len, fun j sv q => ?_⟩
  obtain ⟨v, h1, h2⟩ := r.sl j sv q
  exact ⟨v, h1, h2.sw w hw hl⟩
theorem sw_lock {d : Addr} {o : PySem.Obj} {gs : List (L2.Key × V)} (h : H d = some (.dK gs)) : Sw H (upd H d (.frz o (.dK gs))) := by
  refine ⟨fun a u r => ?_, fun a u r => ?_, fun a u r => ?_, fun a vs r => ?_, fun a c dx fs r => ?_⟩
  · refine rd_eq r (upd_ne fun e => ?_)
    subst e
    rcases r with r | ⟨o', r⟩ <;> (rw [h] at r; cases r)
  · by_cases e : a = d
    · subst e
      rcases r with r | ⟨o', r⟩
      · rw [h] at r; cases r
        exact .inr ⟨o, upd_same⟩
      · rw [h] at r; cases r
    · exact rd_eq r (upd_ne e)
  · refine rd_eq r (upd_ne fun e => ?_)
    subst e
    rcases r with r | ⟨o', r⟩ <;> (rw [h] at r; cases r)
  · rw [upd_ne (fun e => by rw [e, h] at r; cases r)]; exact r
  · rw [upd_ne (fun e => by rw [e, h] at r; cases r)]; exact r
theorem sw_unlock {d : Addr} {o : PySem.Obj} {gs : List (L2.Key × V)} (h : H d = some (.frz o (.dK gs))) : Sw H (upd H d (.dK gs)) := by
  refine ⟨fun a u r => ?_, fun a u r => ?_, fun a u r => ?_, fun a vs r => ?_, fun a c dx fs r => ?_⟩
  · refine rd_eq r (upd_ne fun e => ?_)
    subst e
    rcases r with r | ⟨o', r⟩ <;> (rw [h] at r; cases r)
  · by_cases e : a = d
    · subst e
      rcases r with r | ⟨o', r⟩
      · rw [h] at r; cases r
      · rw [h] at r; cases r
        exact .inl upd_same
    · exact rd_eq r (upd_ne e)
  · refine rd_eq r (upd_ne fun e => ?_)
    subst e
    rcases r with r | ⟨o', r⟩ <;> (rw [h] at r; cases r)
  · rw [upd_ne (fun e => by rw [e, h] at r; cases r)]; exact r
  · rw [upd_ne (fun e => by rw [e, h] at r; cases r)]; exact r
theorem Sw.refl : Sw H H := ⟨fun _ _ r => r, fun _ _ r => r, fun _ _ r => r, fun _ _ r => r, fun _ _ _ _ r => r⟩
end
/-! ### a term that names a thing -/
def pathT (K : Fr) : E → TE
  | .var i => L2.tVar i
  | .fld _ (.var i) f => L2.tFld K (L2.tVar i) (sst f)
  | _ => fun _ _ _ => False
section
variable {G : Tabs} {X : Cx} {W : WX} {C : CallF} {σ : L2.St} {H : Hp} {Q : VK}
theorem p_path {e : E} {p : Py} (hp : isPath e = true) (h : mE G X.env.scope X.N e p = true) : PE X p (pathT X.K e) := by
  have var : ∀ (i : Nat) (p : Py), mE G X.env.scope X.N (.var i) p = true → PE X p (L2.tVar i) := fun i p h => by
    simp only [mE] at h
    split at h
    · rename_i x e
      obtain ⟨q, rfl⟩ := vName_eq e
      simp only [Bool.and_eq_true, decide_eq_true_eq] at h
      exact L2.pe_var h.1.1 (visB_vis h.1.2) (nameB_ne h.2).1 (nameB_ne h.2).2.1
    · cases h
  unfold isPath at hp
  split at hp
  · exact var _ _ h
  · rename_i cs i f
    simp only [mE] at h
    split at h
    · rename_i b g q
      obtain ⟨h12, h3⟩ := Bool.and_eq_true_iff.mp h
      obtain ⟨h1, h2⟩ := Bool.and_eq_true_iff.mp h12
      obtain rfl := of_decide_eq_true h1
      unfold vAttr at q
      split at q
      · split at q
        · rename_i hb
          injection q with q
          injection q with q1 q2
          subst q1 q2
          exact L2.pe_fld (var i _ (by simpa only [mE] using h3)) (base_ok hb _ _)
        · cases q
      · cases q
    · cases h
  · cases hp
theorem path_no {s : S} {e : E} (hp : isPath e = true) {x : Exc} {s' : S} (h : evalE C e s = .raise x s') : False := by
  have slot : ∀ {i : Nat} {x : Exc} {s' : S}, evalE C (.var i) s = .raise x s' → False := fun {i x s'} h => by
    simp only [evalE] at h
    split at h <;> cases h
  unfold isPath at hp
  split at hp
  · exact slot h
  · rename_i cs i f
    unfold evalE at h
    cases q : evalE C (.var i) s with
    | stuck => rw [q] at h; cases h
    | raise y s1 => exact slot q
    | ok y s1 =>
      rw [q, bind_ok] at h
      repeat' first | (cases h; done) | split at h
  · cases hp
theorem path_at {M : MM} {s s' : S} {e : E} {x : RV} (rt : RT X.K M H σ s) (hp : isPath e = true) (fl : ∀ c f, G.fl.contains (c, f) = true → L2.Cls X.K (cA X.K c) ∧ L2.NoAttr X.K (cA X.K c) (sst f)) {p : Py} (hm : mE G X.env.scope X.N e p = true) (h : evalE C e s = .ok x s') :
    s' = s ∧ (∃ v, RR X.K s.h.length M H x v ∧ ∀ H' Q, Sw H H' → Q v H' → pathT X.K e σ H' Q) ∧ ∀ c, x ≠ .own c := by
  have slot : ∀ {i : Nat} {x : RV} {s' : S}, evalE C (.var i) s = .ok x s' → s' = s ∧ (∃ v, σ[i]? = some (some v) ∧ RR X.K s.h.length M H x v) ∧ ∀ c, x ≠ .own c := fun {i x s'} h => by
    simp only [evalE] at h
    cases e : s.σ[i]? with
    | none => rw [e] at h; cases h
    | some o => cases o with
      | none => rw [e] at h; cases h
      | some sv =>
        rw [e] at h
        injection h with h1 h2
        subst h1 h2
        obtain ⟨v, g1, g2⟩ := rt.sl i sv e
        refine ⟨rfl, ⟨v, g1, ?_⟩, fun c z => no_own_rv z⟩
        cases g2 with
        | val r => exact .val r
        | own r1 r2 => exact .pk r1 r2
  unfold isPath at hp
  split at hp
  · obtain ⟨h1, ⟨v, h2, h3⟩, h4⟩ := slot h
    exact ⟨h1, ⟨v, h3, fun H' Q _ q => ⟨v, h2, q⟩⟩, h4⟩
  · rename_i cs i f
    simp only [evalE] at h
    obtain ⟨y, s1, h1, h2⟩ := bind_is h
    obtain ⟨rfl, ⟨v, g2, g3⟩, _⟩ := slot (i := i) (by simp only [evalE]; exact h1)
    have hcs : ∀ c, cs.contains c = true → G.fl.contains (c, f) = true := fun c hc => by
      simp only [mE] at hm
      split at hm
      · obtain ⟨h12, _⟩ := Bool.and_eq_true_iff.mp hm
        obtain ⟨_, h2⟩ := Bool.and_eq_true_iff.mp h12
        exact List.all_eq_true.mp h2 c (by simpa using hc)
      · cases hm
    split at h2
    · rename_i j
      split at h2
      · rename_i c fs q
        split at h2
        · rename_i gc
          split at h2
          · rename_i sv qf
            injection h2 with h3 h4
            subst h3 h4
            cases g3 with
            | val rd =>
              cases rd with
              | ref hi =>
                cases rt.hp.cell _ _ q with
                | ins c1 c2 c3 =>
                  obtain ⟨u, l1, l2⟩ := c3.get qf
                  obtain ⟨k1, k2⟩ := fl c f (hcs c gc)
                  refine ⟨rfl, ⟨u, ?_, fun H' Q w q => ⟨_, g2, _, _, _, _, u, rfl, w.ins _ _ _ _ c1, k1, k2, l1, q⟩⟩, fun c z => no_own_rv z⟩
                  cases l2 with
                  | val r => exact .val r
                  | own r1 r2 => exact .pk r1 r2
          · cases h2
        · cases h2
      · cases h2
    · rename_i cl fs
      cases g3 with
      | val rd => cases rd
    · cases h2
  · cases hp

/-! ### the walk -/
theorem RG.at_ {K : Fr} {n : Nat} {M : MM} {P : Key → SV → V → Prop} : ∀ {fs : List (Key × SV)} {gs : List (L2.Key × V)}, RG K n M H P fs gs → ∀ {i : Nat} {k : L2.Key} {v : V}, gs[i]? = some (k, v) → ∃ k' sv, fs[i]? = some (k', sv) ∧ k = mkey k' ∧ P k' sv v
  | _, _, .nil, i, _, _, h => by simp at h
  | _, _, .cons p r, 0, k, v, h => by
    simp at h
    obtain ⟨rfl, rfl⟩ := h
    exact ⟨_, _, rfl, rfl, p⟩
  | _, _, .cons p r, i + 1, k, v, h => by
    obtain ⟨k', sv, h1, h2, h3⟩ := RG.at_ r (i := i) (by simpa using h)
    exact ⟨k', sv, by simpa using h1, h2, h3⟩
theorem RG.len {K : Fr} {n : Nat} {M : MM} {P : Key → SV → V → Prop} : ∀ {fs : List (Key × SV)} {gs : List (L2.Key × V)}, RG K n M H P fs gs → fs.length = gs.length
  | _, _, .nil => rfl
  | _, _, .cons _ r => by rw [List.length_cons, List.length_cons, RG.len r]
theorem key_rd {K : Fr} {n : Nat} {M : MM} {k : Key} (h : okK k) : RD K n M H (keyD k) (L2.kV (mkey k)) := by
  cases k with
  | inl i => exact .int i
  | inr t => exact .str t h
theorem wk_keys {K : Fr} {n n0 : Nat} {M M0 : MM} {H0 : Hp} {P : Key → SV → V → Prop} {d : Addr} {o : PySem.Obj} {fs : List (Key × SV)} {gs : List (L2.Key × V)} {mu : Bool} (h : H d = some (.frz o (.dK gs))) (ko : KOk (fs.map (·.1))) (rg : RG K n0 M0 H0 P fs gs) (hp : mu = false → prot (M.who d)) :
    Wk K (L2.Itk d o gs) (fs.map fun e => keyD e.1) mu n M H (fun b => b = d) := by
  have hl := rg.len
  refine ⟨fun b e => by subst e; exact ⟨by rw [h]; exact (fun z => by cases z), hp⟩, fun i H' hi e => ⟨by rw [e d rfl]; exact h, by simpa [← hl] using hi⟩, fun H' e => ⟨by rw [e d rfl]; exact h, by simp [← hl]⟩, fun i M' H' σ' s' x H'' hi rt' kp e y => ?_⟩
  obtain ⟨rfl, k, v, y1, rfl⟩ := y
  obtain ⟨k', sv, z1, rfl, _⟩ := rg.at_ y1
  have hm : k' ∈ fs.map (·.1) := List.mem_map.mpr ⟨_, List.mem_of_getElem? z1, rfl⟩
  exact ⟨M', keyD k', by rw [List.getElem?_map, z1]; rfl, .refl, rt', key_rd (ko.ok k' hm)⟩
theorem pe_orLock {X : Cx} {e : Py} {t : TE} (h : PE X e t) : PE X e (fun σ H Q => L2.tLockE t σ H Q ∨ t σ H Q) := ⟨fun pins s σ H Q I q => q.elim (fun q => (L2.pe_lock h).run pins s σ H Q I q) (fun q => h.run pins s σ H Q I q)⟩
theorem vKeys_eq {n : String} {p b : Py} (h : vKeys n p = some b) : ∃ p1 p2, p = .Call (.Attribute b (sst n) p1) [] [] p2 ∧ baseB b = true ∧ p1.endLine = p2.line := by
  unfold vKeys at h
  split at h
  · rename_i b' m e
    split at h
    · rename_i g
      injection h with h
      subst h
      obtain rfl := of_decide_eq_true g
      obtain ⟨p1, p2, h1, h2, h3, _, _⟩ := vAt_eq e
      exact ⟨p1, p2, h1, h2, h3⟩
    · cases h
  · cases h
/-- e.keys() walked -/
theorem pi_keysE {tg : Py} {e0 : E} {p b : Py} (hp : isPath e0 = true) (hk : vKeys "keys" p = some b) (h : mE G X.env.scope X.N e0 b = true) : PI X tg p (L2.iKeysM (pathT X.K e0)) := by
  obtain ⟨p1, p2, rfl, h1, h2⟩ := vKeys_eq hk
  exact L2.pi_keysM (p_path hp h) (base_ok h1 _ _) (by rw [h2]; exact beq_self_eq_true _)
theorem backT_h {σ0 : List (Option SV)} {is : List Nat} {s : S} : (backT σ0 is s).h = s.h := rfl
/-- a comprehension over the keys of a dict: the reading, locked or not -/
theorem t_keysComp {is : List Nat} {cs : List E} {e0 e : E} {p : Py} (hi : tgIs is) (hp : isPath e0 = true) (fl : ∀ c f, G.fl.contains (c, f) = true → L2.Cls X.K (cA X.K c) ∧ L2.NoAttr X.K (cA X.K c) (sst f)) (hm : mE G X.env.scope X.N e0 p = true) (h : tE X.K W C (.comp is (.keys e0) cs e) σ H Q) :
    L2.tLockE (L2.tLc (L2.iKeysM (pathT X.K e0)) (tG X.K is) (tTs X.K C cs) (tD X.K noW C e) is) σ H Q ∨ L2.tLc (L2.iKeysM (pathT X.K e0)) (tG X.K is) (tTs X.K C cs) (tD X.K noW C e) is σ H Q := by
  obtain ⟨M, s, rt, h⟩ := h
  simp only [evalE, evalIt, pure] at h
  have lk : M.lk = none := by
    cases z : M.lk with
    | none => rfl
    | some b => have := h.1 (by rw [z]; intro q; cases q); cases this
  have h := h.2
  cases q : evalE C e0 s with
  | stuck => rw [q] at h; exact h.elim
  | raise x s1 =>
    exact (path_no hp q).elim
  | ok x s' =>
    obtain ⟨rfl, ⟨v, rr, pt⟩, nown⟩ := path_at rt hp fl hm q
    rw [q, bind_ok] at h
    cases hd : dctOf s'.h x with
    | none => rw [hd] at h; exact h.elim
    | some qd =>
      rw [hd] at h
      obtain ⟨a, gs, rfl, ra, ko, rg⟩ := dct_at rt rr hd
      simp only [Option.map_some, opt, bind_ok] at h
      generalize hmu : muOf x = mu at h
      by_cases g : (mu && !(pures cs && pure e)) = true
      · rw [if_pos g] at h; exact h.elim
      rw [if_neg g] at h
      have pu : mu = true → pures cs = true ∧ pure e = true := fun z => by
        rw [z] at g
        simp only [Bool.true_and, Bool.not_eq_true', Bool.and_eq_true] at g
        simpa using g
      have nobody : mu = false → M.who a = none := fun z => by
        cases rr with
        | own _ _ => exact absurd rfl (nown _)
        | pk _ _ => rw [z] at hmu; cases hmu
        | val r => cases r with
          | dct _ hw _ _ _ => exact hw
          | ref _ => rw [z] at hmu; cases hmu
          | _ => cases hd
      cases hl : compLoop is (fun s => evalCs C cs s) (fun s => exports (evalE C e s)) (qd.2.map fun e => keyD e.1) s' [] with
      | stuck => rw [hl] at h; exact h.elim
      | raise x s1 => rw [hl] at h; exact h.elim
      | ok xs sf =>
        rw [hl, calm_ok, bind_ok] at h
        cases hz : newLst xs with
        | none => rw [hz] at h; exact h.elim
        | some z =>
          obtain ⟨rfl, hxs⟩ := newLst_some hz
          rw [hz] at h
          rcases ra with ra | ⟨od, ra⟩
          · left
            refine ⟨a, .dK gs, ra, trivial, fun od => ?_⟩
            refine pt _ _ (sw_lock ra) ⟨a, od, gs, rfl, upd_same, ?_⟩
            have rt1 : RT X.K { M with lk := if mu = true then some a else none } (upd H a (.frz od (.dK gs))) σ s' := by
              refine rt.sw (sw_lock ra) rfl rfl fun b l hb => ?_
              by_cases eb : b = a
              · subst eb
                rw [upd_same]
                cases hmm : mu with
                | true => exact .inr ⟨rfl, od, _, rfl, trivial⟩
                | false => have := nobody hmm; rw [this] at hb; cases hb
              · rw [upd_ne eb]
                have := rt.hp.wf b l hb
                rw [lk] at this
                exact .inl this.off
            refine comp_core (Q := fun v H' => H' a = some (.frz od (.dK gs)) ∧ Q v (upd H' a (.dK gs))) hi rt1 (wk_keys upd_same ko rg fun z => .inl (nobody z)) pu (fun z => ?_) hl hxs fun M' H' v e2 rt2 rr2 fr hw => ?_
            · cases hmm : mu with
              | true => rfl
              | false => rw [hmm] at z; exact absurd rfl z
            · have ha : H' a = some (.frz od (.dK gs)) := (hw a rfl).trans upd_same
              refine ⟨ha, ?_⟩
              have wa : M'.who a = M.who a ∨ prot (M.who a) → True := fun _ => trivial
              have rt3 : RT X.K { M' with lk := none } (upd H' a (.dK gs)) σ (backT s'.σ is sf) := by
                refine rt2.sw (sw_unlock ha) rfl rfl fun b l hb => ?_
                by_cases eb : b = a
                · subst eb; rw [upd_same]; exact .inl trivial
                · rw [upd_ne eb]
                  rcases rt2.hp.wf b l hb with z | ⟨z, _⟩
                  · exact .inl z
                  · rw [e2.lk] at z
                    split at z
                    · injection z with z; exact absurd z.symm eb
                    · cases z
              refine h { M' with lk := none } _ v ?_ (fun z => by cases z) rt3 ⟨RR.sw (M := M') (M' := { M' with lk := none }) (sw_unlock ha) rfl rfl rr2, fun c e0 b z => ?_⟩
              · refine ⟨fun b o hb pb => ?_, fun b hb => ?_, e2.loc, e2.le, fun b hb => ?_, lk.symm⟩
                · by_cases eb : b = a
                  · subst eb
                    rw [ra] at hb; cases hb
                    exact ⟨upd_same, (e2.keep b _ upd_same pb).2⟩
                  · obtain ⟨k1, k2⟩ := e2.keep b o (by rw [upd_ne eb]; exact hb) pb
                    exact ⟨by rw [upd_ne eb]; exact k1, k2⟩
                · by_cases eb : b = a
                  · subst eb; rw [upd_same] at hb; cases hb
                  · rw [upd_ne eb] at hb
                    have := e2.dom b hb
                    rw [upd_ne eb] at this
                    exact this
                · rcases e2.nl b hb with k | k
                  · exact .inl k
                  · by_cases eb : b = a
                    · subst eb; rw [upd_same] at k; cases k
                    · rw [upd_ne eb] at k; exact .inr k
              · have := fr c e0 b z
                by_cases eb : b = a
                · subst eb; rw [upd_same] at this; cases this
                · rw [upd_ne eb] at this; exact this
          · right
            refine pt _ _ .refl ⟨a, od, gs, rfl, ra, ?_⟩
            have hwn : M.who a = none := by
              cases z : M.who a with
              | none => rfl
              | some l =>
                have := rt.hp.wf a l z
                rw [lk, ra] at this
                exact this.off.elim
            refine comp_core hi rt (wk_keys ra ko rg fun z => .inl hwn) pu (fun z => (lkF lk z).elim) hl hxs fun M' H' v e2 rt2 rr2 fr hw => ?_
            exact h M' H' v e2 (fun z => by cases z) rt2 ⟨rr2, fr⟩
end
end KW
/-! KwDict: dicts: entries put, taken out, asked; copies. -/
namespace KW
open PySem (Str Addr Value Program World Heap Operator CmpOp binaryOp compareOp PyData Scope Const Env wpAny_bind wpAny_mono)
open PySem.Spec PyProof.Rows
open L2 (V Hp HO upd upd_same upd_ne upd_upd SqL SqT Rd RelV Mut TE TT TA TS TI TG PI PG WX PE PT PW PA PS PSs Cx Inv OpR UnR CallR MtR IxR SlR TruR VK EP XK rI0)
/-! ### entries -/
theorem putK_cons (p : L2.Key × V) (r : List (L2.Key × V)) (k : L2.Key) (v : V) : L2.putK (p :: r) k v = if p.1 = k then (p.1, v) :: r.map (fun kv => if kv.1 = k then (kv.1, v) else kv) else p :: L2.putK r k v := by
  unfold L2.putK
  by_cases e : p.1 = k
  · simp [e]
  · simp only [List.any_cons, decide_eq_false e, Bool.false_or, List.map_cons, if_neg e]
    split <;> rfl
theorem repl_id {k : L2.Key} {v : V} : ∀ {r : List (L2.Key × V)}, k ∉ r.map (·.1) → r.map (fun kv => if kv.1 = k then (kv.1, v) else kv) = r
  | [], _ => rfl
  | p :: r, h => by
    rw [List.map_cons] at h
    have h1 : ¬ p.1 = k := fun z => h (by rw [z]; exact List.mem_cons_self)
    rw [List.map_cons, if_neg h1, repl_id fun z => h (List.mem_cons_of_mem _ z)]
theorem kput_mem {α : Type} {k : Key} {v : α} : ∀ {fs : List (Key × α)} {j : Key}, j ∈ (kput k v fs).map (·.1) → j = k ∨ j ∈ fs.map (·.1)
  | [], j, h => by simp [kput] at h; exact .inl h
  | q :: r, j, h => by
    unfold kput at h
    split at h
    · exact .inr h
    · rcases List.mem_cons.mp (show j ∈ q.1 :: (kput k v r).map (·.1) from h) with z | z
      · exact .inr (by rw [z]; exact List.mem_cons_self)
      · exact (kput_mem z).imp id fun z => List.mem_cons_of_mem _ z
theorem kput_ok {α : Type} {k : Key} {v : α} (hk : okK k) : ∀ {fs : List (Key × α)}, KOk (fs.map (·.1)) → KOk ((kput k v fs).map (·.1))
  | [], _ => ⟨by simp [kput], fun j hj => by simp [kput] at hj; subst hj; exact hk⟩
  | q :: r, h => by
    have hn := List.nodup_cons.mp (show (q.1 :: r.map (·.1)).Nodup from h.nd)
    have hr : KOk (r.map (·.1)) := ⟨hn.2, fun j hj => h.ok j (List.mem_cons_of_mem _ hj)⟩
    unfold kput
    split
    · exact h
    · rename_i ne
      have ih := kput_ok (v := v) hk hr
      refine ⟨List.nodup_cons.mpr ⟨fun z => ?_, ih.nd⟩, fun j hj => ?_⟩
      · rcases kput_mem z with z | z
        · exact ne z
        · exact hn.1 z
      · rcases List.mem_cons.mp hj with z | z
        · subst z; exact h.ok _ List.mem_cons_self
        · exact ih.ok j z
theorem kdel_ok {α : Type} {k : Key} {fs : List (Key × α)} (h : KOk (fs.map (·.1))) : KOk ((kdel k fs).map (·.1)) :=
  ⟨h.nd.sublist (List.filter_sublist.map _), fun j hj => h.ok j (by
    obtain ⟨q, h1, h2⟩ := List.mem_map.mp hj
    exact List.mem_map.mpr ⟨q, (List.mem_filter.mp h1).1, h2⟩)⟩
section
variable {K : Fr} {n n' : Nat} {M M' : MM} {H H' : Hp} {σ : L2.St} {s : S}
theorem RG.put {P : Key → SV → V → Prop} {k : Key} {sv : SV} {v : V} (p : P k sv v) : ∀ {fs : List (Key × SV)} {gs : List (L2.Key × V)}, RG K n M H P fs gs → (fs.map (·.1)).Nodup → RG K n M H P (kput k sv fs) (L2.putK gs (mkey k) v)
  | _, _, .nil, _ => .cons p .nil
  | _, _, .cons (k := k0) (fs := fs) (gs := gs) a b, h => by
    have hn := List.nodup_cons.mp (show (k0 :: fs.map (·.1)).Nodup from h)
    rw [putK_cons]
    unfold kput
    by_cases e : k0 = k
    · subst e
      rw [if_pos rfl, if_pos rfl]
      rw [repl_id]
      · exact .cons p b
      · rw [b.keys]
        intro z
        obtain ⟨q, h1, h2⟩ := List.mem_map.mp z
        exact hn.1 (List.mem_map.mpr ⟨q, h1, mkey_inj h2⟩)
    · rw [if_neg e, if_neg fun z => e (mkey_inj z)]
      exact .cons a (RG.put p b hn.2)
theorem RG.del {P : Key → SV → V → Prop} {k : Key} : ∀ {fs : List (Key × SV)} {gs : List (L2.Key × V)}, RG K n M H P fs gs → RG K n M H P (kdel k fs) (L2.dropK gs (mkey k))
  | _, _, .nil => .nil
  | _, _, .cons (k := k0) a b => by
    unfold kdel L2.dropK
    rw [List.filter_cons, List.filter_cons]
    by_cases e : k0 = k
    · subst e
      simp only [decide_true, Bool.not_true, ne_eq, not_true_eq_false, decide_false, Bool.false_eq_true, if_false]
      exact RG.del b
    · have e2 : ¬ mkey k0 = mkey k := fun z => e (mkey_inj z)
      simp only [decide_eq_false e, Bool.not_false, if_true, ne_eq, e2, not_false_eq_true, decide_true]
      exact .cons a (RG.del b)
theorem RG.mono {P P' : Key → SV → V → Prop} (hp : ∀ k sv v, P k sv v → P' k sv v) : ∀ {fs : List (Key × SV)} {gs : List (L2.Key × V)}, RG K n M H P fs gs → RG K n' M' H' P' fs gs
  | _, _, .nil => .nil
  | _, _, .cons a b => .cons (hp _ _ _ a) (RG.mono hp b)
theorem plain_put {k : Key} {d : D} : ∀ kvs : List (Key × D), plainEs (kput k d kvs) = kput k (.val d) (plainEs kvs)
  | [] => rfl
  | q :: r => by
    simp only [plainEs, List.map_cons, kput]
    by_cases e : q.1 = k
    · rw [if_pos e, if_pos e]; rfl
    · rw [if_neg e, if_neg e, List.map_cons]
      have := plain_put (k := k) (d := d) r
      simp only [plainEs] at this
      rw [this]
theorem plain_del {k : Key} : ∀ kvs : List (Key × D), plainEs (kdel k kvs) = kdel k (plainEs kvs)
  | [] => rfl
  | q :: r => by
    have ih := plain_del (k := k) r
    unfold kdel at ih ⊢
    simp only [plainEs, List.map_cons, List.filter_cons] at ih ⊢
    split
    · rw [List.map_cons, ih]
    · exact ih
theorem plain_un {kvs : List (Key × D)} : (plainEs kvs).map (fun q => (q.1, unSV q.2)) = kvs := by
  induction kvs with
  | nil => rfl
  | cons q r ih => simp only [plainEs, List.map_cons] at ih ⊢; rw [ih]; rfl
theorem plain_keys (kvs : List (Key × D)) : (plainEs kvs).map (·.1) = kvs.map (·.1) := by simp [plainEs]
/-- plain entries, as a dict's content -/
theorem rg_zip : ∀ {kvs : List (Key × D)} {gs : List (L2.Key × V)}, RG K n M H (fun _ sv v => RD K n M H (unSV sv) v) (plainEs kvs) gs → gs = (kvs.map fun q => mkey q.1).zip (gs.map (·.2)) ∧ RDs K n M H (kvs.map (·.2)) (gs.map (·.2))
  | [], _, .nil => ⟨rfl, .nil⟩
  | q :: r, _, .cons (v := v) (gs := gs) a b => by
    obtain ⟨h1, h2⟩ := rg_zip (kvs := r) b
    exact ⟨by rw [List.map_cons, List.map_cons, List.zip_cons_cons, ← h1], .cons (by simpa using a) h2⟩
theorem rc_dct {kvs : List (Key × D)} {gs : List (L2.Key × V)} {a : Addr} (h : Rd H a (.dK gs)) (ko : KOk (kvs.map (·.1))) (r : RG K n M H (fun _ sv v => RD K n M H (unSV sv) v) (plainEs kvs) gs) : RC K n M H (.dct kvs) a := by
  obtain ⟨h1, h2⟩ := rg_zip r
  exact .dct (by rw [← h1]; exact h) rfl ko h2
theorem rc_rg {kvs : List (Key × D)} {a : Addr} (h : RC K n M H (.dct kvs) a) : ∃ gs, Rd H a (.dK gs) ∧ KOk (kvs.map (·.1)) ∧ RG K n M H (fun _ sv v => RD K n M H (unSV sv) v) (plainEs kvs) gs := by
  cases h with
  | dct h hk hn hs => subst hk; exact ⟨_, h, hn, flat_rg hs⟩
theorem rd_mut {a : Addr} {u : HO} (h : Rd H a u) (m : Mut (H a)) : H a = some u := by
  rcases h with h | ⟨o, h⟩
  · exact h
  · rw [h] at m; exact m.elim
theorem RT.mut (r : RT K M H σ s) (lk : M.lk = none) {a : Addr} {l : Lb} {u : HO} (hw : M.who a = some l) (h : Rd H a u) : H a = some u := by
  have := r.hp.wf a l hw
  rw [lk] at this
  exact rd_mut h this.off
theorem rg_len {P : Key → SV → V → Prop} {fs : List (Key × SV)} {gs : List (L2.Key × V)} (h : RG K n M H P fs gs) : fs.length = gs.length := h.len

/-! ### o[k] = v -/
theorem REs.setE {i : Nat} {k : Key} {sv : SV} {v : V} (kp : Keep n M H n' M' H') (hp : ∀ q, q ≠ .ent i k → plIx q = some i → ∀ b, M.who b = some (.pl q) → M'.who b = some (.pl q) ∧ H' b = H b) (rs : RS K n' M' H' (.ent i k) sv v) {fs : List (Key × SV)} {gs : List (L2.Key × V)} (r : REs K n M H i fs gs) :
    (fs.map (·.1)).Nodup → REs K n' M' H' i (kput k sv fs) (L2.putK gs (mkey k) v) := by
  induction r with
  | nil => intro _; exact .cons rs .nil
  | @cons x sv0 v0 fs gs ra rb ih =>
    intro hn
    have hn2 := List.nodup_cons.mp (show (x :: fs.map (·.1)).Nodup from hn)
    rw [putK_cons]
    unfold kput
    by_cases ef : x = k
    · subst ef
      rw [if_pos rfl, if_pos rfl]
      rw [repl_id]
      · refine .cons rs (REs.mono kp (fun f' hf' b hb => hp _ (fun z => ?_) rfl b hb) rb)
        injection z with _ z
        subst z
        exact hn2.1 hf'
      · rw [rb.rg.keys]
        intro z
        obtain ⟨q, h1, h2⟩ := List.mem_map.mp z
        exact hn2.1 (List.mem_map.mpr ⟨q, h1, mkey_inj h2⟩)
    · rw [if_neg ef, if_neg fun z => ef (mkey_inj z)]
      refine .cons (ra.mono kp (fun b hb => hp _ (fun z => ?_) rfl b hb)) (ih hn2.2)
      injection z with _ z
      exact ef z
end
section
variable {K : Fr} {W : WX} {C : CallF} {M M' : MM} {H H' : Hp} {σ : L2.St} {s s1 : S} {D : L2.Ends} {n n' : Nat}
theorem rr_D {d : KW.D} {x : RV} {v : V} (r : RR K s.h.length M H x v) (h : expo x = some d) (rt : RT K M H σ s) : ∃ M', RT K M' H σ s ∧ M'.lk = M.lk ∧ M'.loc = M.loc ∧ RD K s.h.length M' H d v ∧ (∀ p a, M.who a = some (.pl p) → M'.who a = some (.pl p)) ∧ (∀ a, M.who a = none → M'.who a = none) ∧ (∀ a, M.who a = some .oth → M'.who a = some .oth) ∧
    (∀ a, isLoc (M'.who a) = true → isLoc (M.who a) = true) ∧ (∀ i a, M.who a = some (.cell i) → M'.who a = some (.cell i)) := by
  cases x with
  | val d0 =>
    injection h with h
    subst h
    cases r with
    | val r => exact ⟨M, rt, rfl, rfl, r, fun _ _ h => h, fun _ h => h, fun _ h => h, fun _ h => h, fun _ _ h => h⟩
  | own c =>
    injection h with h
    subst h
    cases r with
    | @own _ a hw hc =>
      obtain ⟨t1, t2⟩ := rt.freeze hw
      have ne : ∀ b l, M.who b = some l → l ≠ .tmp → b ≠ a := fun b l q h z => by rw [z, hw] at q; injection q with q; exact h q.symm
      refine ⟨M.set a none, t1, rfl, rfl, hc.fz t2, fun p b q => ?_, fun b q => ?_, fun b q => ?_, fun b q => ?_, fun i b q => ?_⟩
      · rw [MM.set_ne (ne b _ q (by intro z; cases z))]; exact q
      · by_cases z : b = a
        · subst z; exact MM.set_same
        · rw [MM.set_ne z]; exact q
      · rw [MM.set_ne (ne b _ q (by intro z; cases z))]; exact q
      · by_cases z : b = a
        · subst z; rw [MM.set_same] at q; cases q
        · rw [MM.set_ne z] at q; exact q
      · rw [MM.set_ne (ne b _ q (by intro z; cases z))]; exact q
  | pk p c => cases h
end
section
variable {K : Fr} {n : Nat} {M : MM} {H : Hp}
theorem key_ok {d : D} {k : Key} {v : V} (r : RD K n M H d v) (h : keyOf d = some k) : v = L2.kV (mkey k) ∧ okK k := by
  cases r with
  | int i => simp at h; subst h; exact ⟨rfl, trivial⟩
  | str t ht => simp at h; subst h; exact ⟨rfl, ht⟩
  | _ => simp at h
end
end KW
/-! KwDict2: entries taken out, asked; displays; copies. -/
namespace KW
open PySem (Str Addr Value Program World Heap Operator CmpOp binaryOp compareOp PyData Scope Const Env wpAny_bind wpAny_mono)
open PySem.Spec PyProof.Rows
open L2 (V Hp HO upd upd_same upd_ne upd_upd SqL SqT Rd RelV Mut TE TT TA TS TI TG PI PG WX PE PT PW PA PS PSs Cx Inv OpR UnR CallR MtR IxR SlR TruR VK EP XK rI0)
section
variable {K : Fr} {n n' : Nat} {M M' : MM} {H H' : Hp} {σ : L2.St} {s s' : S}
theorem upd_self {a : Addr} {o : HO} (h : H a = some o) : upd H a o = H := by
  funext b
  by_cases e : b = a
  · subst e; rw [upd_same, h]
  · rw [upd_ne e]
theorem REs.del {i : Nat} {k : Key} : ∀ {fs : List (Key × SV)} {gs : List (L2.Key × V)}, REs K n M H i fs gs → REs K n M H i (kdel k fs) (L2.dropK gs (mkey k))
  | _, _, .nil => .nil
  | _, _, .cons (k := k0) a b => by
    unfold kdel L2.dropK
    rw [List.filter_cons, List.filter_cons]
    by_cases e : k0 = k
    · subst e
      simp only [decide_true, Bool.not_true, ne_eq, not_true_eq_false, decide_false, Bool.false_eq_true, if_false]
      exact REs.del b
    · have e2 : ¬ mkey k0 = mkey k := fun z => e (mkey_inj z)
      simp only [decide_eq_false e, Bool.not_false, if_true, ne_eq, e2, not_false_eq_true, decide_true]
      exact .cons a (REs.del b)
/-- what d.pop(k), d.pop(k, x) ask -/
def rPop (K : Fr) : V → V → Option V → Hp → VK → Prop := fun x y z H Q => ∃ a kvs k, x = .ref a ∧ H a = some (.dK kvs) ∧ y = L2.kV k ∧ (∀ v, L2.valV kvs k = some v → Q v (upd H a (.dK (L2.dropK kvs k)))) ∧ (L2.valV kvs k = none → ∃ u, z = some u ∧ Q u H)
theorem pop_core {x z : RV} {vx vy : V} {o : Mu} {kd : D} {k : Key} {ds : List D} {Q : VK} {zv : Option V} (ho : o = .popK ∧ zv = none ∧ ds = [kd] ∨ o = .popD ∧ ∃ d v, zv = some v ∧ ds = [kd, d] ∧ RD K s.h.length M H d v) (rt : RT K M H σ s) (lk : M.lk = none) (rx : RR K s.h.length M H x vx) (ry : RD K s.h.length M H kd vy) (hk : keyOf kd = some k) (h : runMu s o x ds = .ok z s')
    (hq : ∀ M' H' v, Ext s.h.length M H s'.h.length M' H' → RT K M' H' σ s' → RR K s'.h.length M' H' z v → Fresh H z v → Q v H') : rPop K vx vy zv H Q := by
  have noL : ∀ xs, muL xs o ds = none := fun xs => by
    rcases ho with ⟨rfl, _, rfl⟩ | ⟨rfl, d, v, _, rfl, _⟩ <;> rfl
  have isD : ∀ {kvs : List (Key × SV)} {q : SV × List (Key × SV)}, muD kvs o ds = some q → (∃ v, kfind k kvs = some v ∧ q = (v, kdel k kvs)) ∨ (kfind k kvs = none ∧ ∃ d v, zv = some v ∧ q = (.val d, kvs) ∧ RD K s.h.length M H d v) := fun {kvs q} e => by
    rcases ho with ⟨rfl, _, rfl⟩ | ⟨rfl, d, v, hz, rfl, rd⟩
    · simp only [muD, hk, Option.bind_some] at e
      obtain ⟨v, h1, rfl⟩ := omap e
      exact .inl ⟨v, h1, rfl⟩
    · simp only [muD, hk, Option.map_some] at e
      injection e with e
      cases q2 : kfind k kvs with
      | some v => rw [q2] at e; exact .inl ⟨v, rfl, e.symm⟩
      | none => rw [q2] at e; exact .inr ⟨rfl, d, v, hz, e.symm, rd⟩
  obtain ⟨rfl, okk⟩ := key_ok ry hk
  unfold runMu at h
  split at h
  · rename_i p c0
    split at h
    · rename_i xs gp
      rw [noL] at h; cases h
    · rename_i kvs gp
      split at h
      · rename_i d ys gm
        split at h
        · rename_i s2 gq
          injection h with h1 h2
          subst h1 h2
          cases rx with
          | pk hw hc =>
            obtain ⟨a, w', rc⟩ := rt.getPl gp
            obtain rfl := rt.hp.uq _ _ _ (by intro z; cases z) (by intro z; cases z) w' hw
            obtain ⟨gs, r1, r2, r3⟩ := rc_rg rc
            have hH := rt.mut lk w' r1
            have f := r3.find k
            refine ⟨_, gs, mkey k, rfl, hH, rfl, fun v hv => ?_, fun hv => ?_⟩
            · rcases isD gm with ⟨sv, e1, e2⟩ | ⟨e1, _⟩
              · injection e2 with e2 e3
                subst e2 e3
                rw [e1] at f
                obtain ⟨w0, f1, f2⟩ := f
                rw [f1] at hv
                injection hv with hv
                subst hv
                have kp := keep_upd (o := .dK (L2.dropK gs (mkey k))) (n := s.h.length) rt.hp.wf w'
                have ey : (kdel k (plainEs kvs)).map (fun q => (q.1, unSV q.2)) = kdel k kvs := by rw [← plain_del]; exact plain_un
                rw [ey] at gq
                have rcn : RC K s.h.length M (upd H a (.dK (L2.dropK gs (mkey k)))) (.dct (kdel k kvs)) a := by
                  refine rc_dct (.inl upd_same) (kdel_ok r2) ?_
                  rw [plain_del]
                  exact (RG.mono (n' := s.h.length) (M' := M) (H' := upd H a (.dK (L2.dropK gs (mkey k)))) (P' := fun _ sv w0 => RD K s.h.length M (upd H a (.dK (L2.dropK gs (mkey k)))) (unSV sv) w0) (fun _ _ _ p => RD.mono kp p) r3).del
                obtain ⟨t1, t2⟩ := rt.wrPl (o := .dK (L2.dropK gs (mkey k))) gp w' trivial rcn gq
                have hl : s2.h.length = s.h.length := Nat.le_antisymm (by
                  cases p <;> simp only [putPl] at gq
                  · injection gq with gq; subst gq; exact Nat.le_refl _
                  all_goals
                    split at gq
                    · injection gq with gq; subst gq; simp
                    · cases gq) t2.le
                exact hq _ _ _ t2 t1 (.val (by rw [hl]; exact f2.mono kp)) fresh_val
              · rw [e1] at f; rw [f] at hv; cases hv
            · rcases isD gm with ⟨sv, e1, e2⟩ | ⟨e1, d0, v0, hz, e2, rd0⟩
              · rw [e1] at f
                obtain ⟨w0, f1, f2⟩ := f
                rw [f1] at hv; cases hv
              · injection e2 with e2 e3
                subst e2 e3
                rw [plain_un] at gq
                obtain ⟨t1, t2⟩ := rt.wrPl (o := .dK gs) gp w' trivial (by rw [upd_self hH]; exact rc) gq
                rw [upd_self hH] at t1 t2
                have hl : s2.h.length = s.h.length := Nat.le_antisymm (by
                  cases p <;> simp only [putPl] at gq
                  · injection gq with gq; subst gq; exact Nat.le_refl _
                  all_goals
                    split at gq
                    · injection gq with gq; subst gq; simp
                    · cases gq) t2.le
                exact ⟨v0, hz, hq _ _ _ t2 t1 (.val (by rw [hl]; exact rd0)) fresh_val⟩
        · cases h
      · cases h
    · cases h
  · rename_i i
    split at h
    · rename_i xs q
      rw [noL] at h; cases h
    · rename_i kvs q
      split at h
      · rename_i d ys gm
        injection h with h1 h2
        subst h1 h2
        cases rx with
        | val rd =>
          cases rd with
          | ref hi =>
            have hw := rt.hp.lb i hi
            cases rt.hp.cell _ _ q with
            | @dct _ gs c1 c2 c3 =>
              have hH := rt.mut lk hw c1
              have f := c3.rg.find k
              refine ⟨_, gs, mkey k, rfl, hH, rfl, fun v hv => ?_, fun hv => ?_⟩
              · rcases isD gm with ⟨sv, e1, e2⟩ | ⟨e1, _⟩
                · injection e2 with e2 e3
                  subst e2 e3
                  rw [e1] at f
                  obtain ⟨w0, f1, f2⟩ := f
                  rw [f1] at hv
                  injection hv with hv
                  subst hv
                  have kp := keep_upd (o := .dK (L2.dropK gs (mkey k))) (n := s.h.length) rt.hp.wf hw
                  obtain ⟨t1, t2⟩ := rt.wrCell (o := .dK (L2.dropK gs (mkey k))) (c' := .dct (kdel k kvs)) q trivial (.dct (.inl upd_same) (kdel_ok c2) (REs.mono kp (fun j _ b hb => ⟨hb, upd_ne fun z => by rw [z, hw] at hb; cases hb⟩) c3).del)
                  cases f2 with
                  | val f2 => exact hq _ _ _ t2 t1 (.val (by rw [List.length_set]; exact f2.mono kp)) fresh_val
                · rw [e1] at f; rw [f] at hv; cases hv
              · rcases isD gm with ⟨sv, e1, e2⟩ | ⟨e1, d0, v0, hz, e2, rd0⟩
                · rw [e1] at f
                  obtain ⟨w0, f1, f2⟩ := f
                  rw [f1] at hv; cases hv
                · injection e2 with e2 e3
                  injection e2 with e2
                  subst e2 e3
                  obtain ⟨t1, t2⟩ := rt.wrCell (o := .dK gs) (c' := .dct ys) q trivial (by rw [upd_self hH]; exact .dct c1 c2 c3)
                  rw [upd_self hH] at t1 t2
                  exact ⟨v0, hz, hq _ _ _ t2 t1 (.val (by rw [List.length_set]; exact rd0)) fresh_val⟩
      · cases h
    · cases h
  · cases h
theorem ok_popK : OkM K .popK (fun x vs H Q => ∃ y, vs = [y] ∧ rPop K x y none H Q) := by
  intro M H σ s s' x z vx ds vs Q rt lk rx rs h hq
  have : ∃ kd k, ds = [kd] ∧ keyOf kd = some k := by
    have key : ∀ kvs q, muD kvs .popK ds = some q → ∃ kd k, ds = [kd] ∧ keyOf kd = some k := fun kvs q e => by
      unfold muD at e
      split at e <;> first | cases ‹Mu.popK = _› | skip
      · obtain ⟨k, h1, _⟩ := obind e; exact ⟨_, k, rfl, h1⟩
      · cases e
    have noL : ∀ xs, muL xs .popK ds = none := fun xs => by unfold muL; split <;> first | rfl | (rename_i e; cases e)
    unfold runMu at h
    split at h
    · split at h
      · rw [noL] at h; cases h
      · split at h
        · rename_i e; exact key _ _ e
        · cases h
      · cases h
    · split at h
      · rw [noL] at h; cases h
      · split at h
        · rename_i e; exact key _ _ e
        · cases h
      · cases h
    · cases h
  obtain ⟨kd, k, rfl, hk⟩ := this
  cases rs with
  | cons r1 r2 =>
    cases r2 with
    | nil => exact ⟨_, rfl, pop_core (.inl ⟨rfl, rfl, rfl⟩) rt lk rx r1 hk h hq⟩
theorem ok_popD : OkM K .popD (fun x vs H Q => ∃ y z, vs = [y, z] ∧ rPop K x y (some z) H Q) := by
  intro M H σ s s' x z vx ds vs Q rt lk rx rs h hq
  have : ∃ kd zd k, ds = [kd, zd] ∧ keyOf kd = some k := by
    have key : ∀ kvs q, muD kvs .popD ds = some q → ∃ kd zd k, ds = [kd, zd] ∧ keyOf kd = some k := fun kvs q e => by
      unfold muD at e
      split at e <;> first | cases ‹Mu.popD = _› | skip
      · obtain ⟨k, h1, _⟩ := omap e; exact ⟨_, _, k, rfl, h1⟩
      · cases e
    have noL : ∀ xs, muL xs .popD ds = none := fun xs => by unfold muL; split <;> first | rfl | (rename_i e; cases e)
    unfold runMu at h
    split at h
    · split at h
      · rw [noL] at h; cases h
      · split at h
        · rename_i e; exact key _ _ e
        · cases h
      · cases h
    · split at h
      · rw [noL] at h; cases h
      · split at h
        · rename_i e; exact key _ _ e
        · cases h
      · cases h
    · cases h
  obtain ⟨kd, zd, k, rfl, hk⟩ := this
  cases rs with
  | cons r1 r2 =>
    cases r2 with
    | cons r2 r3 =>
      cases r3 with
      | nil => exact ⟨_, _, rfl, pop_core (.inr ⟨rfl, _, _, rfl, rfl, r2⟩) rt lk rx r1 hk h hq⟩
end
section
variable {G : Tabs} {X : Cx} {W : WX} {C : CallF} {σ : L2.St} {H : Hp} {Q : VK}
theorem tE_mono2 {e : E} {Q Q' : VK} (h : tE X.K W C e σ H Q) (k : ∀ v H, Q v H → Q' v H) : tE X.K W C e σ H Q' := tE_mono h k
/-- a dict -/
theorem isD_ty {o : Mu} (ho : o = .popK ∨ o = .popD) {K : Fr} : ∀ (M : MM) (H : Hp) (σ : L2.St) (s : S) (x : RV) (v : V), RT K M H σ s → RR K s.h.length M H x v → recvM s.h o x = true → ∃ a, v = .ref a ∧ L2.IsD H a := by
  intro M H σ s x v rt rr h
  have h : (dctOf s.h x).isSome = true := by rcases ho with rfl | rfl <;> exact h
  obtain ⟨q, h⟩ := Option.isSome_iff_exists.mp h
  obtain ⟨a, gs, rfl, r1, _, _⟩ := dct_at rt rr h
  exact ⟨a, rfl, .inl ⟨gs, r1⟩⟩
theorem m1_of {o e : Py} {m : Str} {apos cpos : PySem.Pos} (hb : baseB o = true) (hl : apos.endLine = cpos.line) (hs : [e].all noStarB = true) : L2.M1 X o m apos e cpos :=
  ⟨base_ok hb _ _, few_ok hs (by simp), by rw [hl]; exact beq_self_eq_true _, by rw [noStar_eq (all_one hs)]; rfl⟩
theorem m2_of {o e f : Py} {m : Str} {apos cpos : PySem.Pos} (hb : baseB o = true) (hl : apos.endLine = cpos.line) (hs : [e, f].all noStarB = true) : L2.M2 X o m apos e f cpos :=
  ⟨base_ok hb _ _, few_ok hs (by simp), by rw [hl]; exact beq_self_eq_true _, by rw [noStar_eq (all_two hs).1, noStar_eq (all_two hs).2]; rfl⟩
theorem t_one1 {e : E} {Q : List V → Hp → Prop} (h : tEs X.K W C [e] σ H Q) : tE X.K W C e σ H fun v H1 => Q [v] H1 := tE_mono2 (t_cons h) fun v H1 q => t_nil q
theorem p_popK {e a : E} {b x : Py} {p1 p2 : PySem.Pos} (hb : baseB b = true) (hl : p1.endLine = p2.line) (hs : [x].all noStarB = true) (he : PE X b (tE X.K W C e)) (ha : PE X x (tE X.K W C a)) : P2 X W C (.mut .popK e [a]) (.Call (.Attribute b (sst "pop") p1) [x] [] p2) := by
  refine .of ((L2.pe_dpop1 he ha (m1_of hb hl hs)).imp fun σ H Q q => ?_) isT_call
  refine tE_mono2 (t_mutG ok_popK (isD_ty (.inl rfl)) q) fun v H1 ⟨⟨d, e1, e2⟩, q⟩ => ⟨d, e1, e2, tE_mono2 (t_one1 q) fun y H2 ⟨y', e3, a', kvs, k, e4, e5, e6, q1, q2⟩ => ?_⟩
  injection e3 with e3
  subst e3
  subst e1
  injection e4 with e4
  subst e4
  cases z : L2.valV kvs k with
  | some v => exact ⟨kvs, k, v, e5, e6, z, q1 v z⟩
  | none =>
    obtain ⟨u, e7, _⟩ := q2 z
    cases e7
theorem p_popD {e a c : E} {b x y : Py} {p1 p2 : PySem.Pos} (hb : baseB b = true) (hl : p1.endLine = p2.line) (hs : [x, y].all noStarB = true) (he : PE X b (tE X.K W C e)) (ha : PE X x (tE X.K W C a)) (hc : PE X y (tE X.K W C c)) : P2 X W C (.mut .popD e [a, c]) (.Call (.Attribute b (sst "pop") p1) [x, y] [] p2) := by
  refine .of ((L2.pe_dpop2 he ha hc (m2_of hb hl hs)).imp fun σ H Q q => ?_) isT_call
  refine tE_mono2 (t_mutG ok_popD (isD_ty (.inr rfl)) q) fun v H1 ⟨⟨d, e1, e2⟩, q⟩ => ⟨d, e1, e2, tE_mono2 (t_cons q) fun y H2 q => tE_mono2 (t_one1 q) fun z H3 ⟨y', z', e3, a', kvs, k, e4, e5, e6, q1, q2⟩ => ?_⟩
  injection e3 with e3 e7
  injection e7 with e7
  subst e3 e7
  subst e1
  injection e4 with e4
  subst e4
  refine ⟨kvs, k, e5, e6, q1, fun z => ?_⟩
  obtain ⟨u, e7, q⟩ := q2 z
  injection e7 with e7
  subst e7
  exact q
/-! ### d.get(k, x) -/
theorem t_dget {a b c : E} (h : tE X.K W C (.p3 .dget a b c) σ H Q) : L2.tDGet2 (tE X.K W C a) (tE X.K W C b) (tE X.K W C c) σ H Q := by
  obtain ⟨M, s, rt, h⟩ := h
  refine ⟨M, s, rt, ?_⟩
  simp only [evalE, pure] at h
  have pp : (pure a && pure b && pure c) = true → pure a = true ∧ pure b = true ∧ pure c = true := fun z => by
    simp only [Bool.and_eq_true] at z
    exact ⟨z.1.1, z.1.2, z.2⟩
  refine h.bind anti_relE (fun z => (pp z).1) fun x s1 M1 H1 v hx e1 p1 rt1 rl1 k1 => ?_
  have k1 := k1 (pure b && pure c) fun z => by rw [(pp z).2.1, (pp z).2.2]; rfl
  by_cases g0 : ((isPk x && !(pure b && pure c)) || !recv3 s1.h .dget x) = true
  · rw [if_pos g0] at k1; exact k1.2.elim
  rw [if_neg g0] at k1
  have g : ¬ (isPk x && !(pure b && pure c)) = true := fun z => g0 (Bool.or_eq_true_iff.mpr (.inl z))
  have g2 : (dctOf s1.h x).isSome = true := by
    cases z : (dctOf s1.h x).isSome with
    | true => rfl
    | false => exact absurd (Bool.or_eq_true_iff.mpr (.inr (by show (!(dctOf s1.h x).isSome) = true; rw [z]; rfl))) g0
  obtain ⟨q, hq⟩ := Option.isSome_iff_exists.mp g2
  obtain ⟨ad, gs0, rfl, r1, _, _⟩ := dct_at rt1 rl1.1 hq
  refine ⟨ad, rfl, .inl ⟨gs0, r1⟩, M1, s1, rt1, k1.bind anti_relE (fun z => (Bool.and_eq_true_iff.mp z).1) fun y s2 M2 H2 u hy e2 p2 rt2 rl2 k2 => ?_⟩
  have k2 := k2 (pure c) fun z => (Bool.and_eq_true_iff.mp z).2
  by_cases gy : ((isPk y && !pure c) || !recv3b .dget y) = true
  · rw [if_pos gy] at k2; exact k2.2.elim
  rw [if_neg gy] at k2
  have gy : ¬ (isPk y && !pure c) = true := fun z => gy (Bool.or_eq_true_iff.mpr (.inl z))
  have rx : RR X.K s2.h.length M2 H2 x (.ref ad) := by
    cases q : isPk x with
    | false => exact rl1.1.mono rt1.hp.wf e2 q
    | true =>
      have pb : (pure b && pure c) = true := by cases z : (pure b && pure c) with
        | true => rfl
        | false => exact absurd (by rw [q, z]; rfl) g
      obtain ⟨es, gr⟩ := p2 (Bool.and_eq_true_iff.mp pb).1
      rw [es]
      exact rl1.1.grow rt1.hp.wf gr
  have e0 : ((evalE C c s2).bind fun z s => opt s (run3 s.h .dget x y z)) = (exports (evalE C c s2)).bind fun zd s => opt s (oGetD s.h x y zd) := by
    unfold exports
    cases evalE C c s2 with
    | stuck => rfl
    | raise _ _ => rfl
    | ok z s3 =>
      simp only [bind_ok]
      show opt s3 ((expo z).bind fun zd => oGetD s3.h x y zd) = _
      cases expo z <;> rfl
  rw [e0] at k2
  refine (t_D (K := X.K) (W := W) (C := C) (e := c) (σ := σ) (H := H2) ⟨M2, s2, rt2, k2.bind (rel1 := relD X.K) (pu1 := pure c) anti_relE (fun z => z) fun zd s3 M3 H3 w hz e3 p3 rt3 rl3 k3 => ?_⟩)
  obtain ⟨zz, ez, hzz⟩ := (k3 (pure c) fun z => z).op rt3
  obtain ⟨qd, f1, f2⟩ := obind (show (dctOf s3.h x).bind (fun q => match y with
    | .val d => (keyOf d).map fun k => (entOf q k).getD (.val zd)
    | _ => none) = some zz from ez)
  have rx3 : RR X.K s3.h.length M3 H3 x (.ref ad) := by
    cases q : isPk x with
    | false => exact rx.mono rt2.hp.wf e3 q
    | true =>
      have pb : (pure b && pure c) = true := by cases z : (pure b && pure c) with
        | true => rfl
        | false => exact absurd (by rw [q, z]; rfl) g
      obtain ⟨es, gr⟩ := p3 (Bool.and_eq_true_iff.mp pb).2
      rw [es]
      exact rx.grow rt2.hp.wf gr
  obtain ⟨a', gs, ea, r1, _, r2⟩ := dct_at rt3 rx3 f1
  injection ea with ea
  subst ea
  cases y with
  | own _ => cases f2
  | pk _ _ => cases f2
  | val d =>
    obtain ⟨k, f3, rfl⟩ := omap f2
    have ry : RR X.K s3.h.length M3 H3 (.val d) u := rl2.1.mono rt2.hp.wf e3 rfl
    cases key_at ry f3
    have fd := r2.find k
    cases q : entOf qd k with
    | none =>
      have q2 : kfind k qd.2 = none := by
        unfold entOf at q
        exact Option.map_eq_none_iff.mp q
      rw [q2] at fd
      rw [q] at hzz
      exact ⟨none, .inl ⟨gs, mkey k, r1, rfl, fd.symm⟩, hzz M3 H3 w .refl rt3 (.val rl3) fresh_val⟩
    | some z2 =>
      obtain ⟨v2, h5, h6⟩ := ent_at q r2
      rw [q] at hzz
      exact ⟨some v2, .inl ⟨gs, mkey k, r1, rfl, h5.symm⟩, hzz M3 H3 v2 .refl rt3 h6 fun c e => absurd e (ent_fresh q c)⟩
theorem p_dget {a b c : E} {p d e f : Py} (ev : Ev G X W C) (h : v3 .dget p = some (d, e, f)) (ha : PE X d (tE X.K W C a)) (hb : PE X e (tE X.K W C b)) (hc : PE X f (tE X.K W C c)) : P2 X W C (.p3 .dget a b c) p := by
  simp only [v3] at h
  split at h
  · rename_i b' m e' f' q
    split at h
    · rename_i g
      injection h with h
      injection h with h1 h
      injection h with h2 h3
      subst h1 h2 h3
      obtain rfl := of_decide_eq_true g
      obtain ⟨p1, p2, rfl, g1, g2, _, g4⟩ := vAt_eq q
      have hu := ev.hu
      exact .of ((L2.pe_dget2 (by omega) ha hb hc (m2_of g1 g2 g4)).imp fun _ _ _ q => t_dget q) isT_call
    · cases h
  · cases h
end
/-! ### displays -/
def vOf : D → V
  | .int i => .int i
  | .str t => .str (mst t)
  | _ => .non
section
variable {G : Tabs} {X : Cx} {W : WX} {C : CallF} {σ : L2.St} {H : Hp} {Q : VK}
theorem p_key {d : D} {k : Py} (h : (match vCst k with
    | some c => constB d c
    | none => false) = true) (hk : (keyOf d).isSome = true) : PE X k (L2.tC (vOf d)) := by
  split at h
  · rename_i c e
    obtain ⟨j, q, rfl⟩ := vCst_eq e
    unfold constB at h
    split at h
    · cases hk
    · cases hk
    · obtain rfl := of_decide_eq_true h
      exact L2.pe_int
    · obtain ⟨h1, h2⟩ := Bool.and_eq_true_iff.mp h
      obtain rfl := of_decide_eq_true h1
      exact L2.pe_str
    · cases h
  · cases h
def trsOf (K : Fr) (W : WX) (C : CallF) (ks : List D) (es : List E) : List (TE × TE) := (ks.zip es).map fun q => (L2.tC (vOf q.1), tE K W C q.2)
theorem p_pairs {pos : PySem.Pos} : ∀ {ks : List D} {es : List E} {kys : List (Option Py)} {xs : List Py}, vKs ks kys = true → (∀ d ∈ ks, (keyOf d).isSome = true) → mEs G X.env.scope X.N es xs = true → kys.length = xs.length → (∀ e ∈ es, ∀ p, mE G X.env.scope X.N e p = true → P2 X W C e p) → L2.PPs X pos kys xs (trsOf X.K W C ks es)
  | [], es, kys, xs, h, _, hm, hl, hx => by
    cases kys with
    | cons _ _ => simp [vKs] at h
    | nil =>
      have : xs = [] := List.eq_nil_of_length_eq_zero hl.symm
      subst this
      exact L2.pps_nil
  | d :: ks, es, kys, xs, h, hk, hm, hl, hx => by
    cases kys with
    | nil => simp [vKs] at h
    | cons k kys =>
      cases k with
      | none => simp [vKs] at h
      | some k =>
        cases xs with
        | nil => cases hl
        | cons x xs =>
          cases es with
          | nil => simp [mEs] at hm
          | cons e es =>
            simp only [mEs] at hm
            obtain ⟨m1, m2⟩ := Bool.and_eq_true_iff.mp hm
            simp only [vKs] at h
            obtain ⟨g1, g2⟩ := Bool.and_eq_true_iff.mp h
            exact L2.pps_cons (p_key g1 (hk d List.mem_cons_self)) (hx e List.mem_cons_self x m1).v (p_pairs g2 (fun d hd => hk d (List.mem_cons_of_mem _ hd)) m2 (by simpa using hl) fun e he => hx e (List.mem_cons_of_mem _ he))
theorem t_pairs : ∀ {ks : List D} {es : List E} {σ : L2.St} {H : Hp} {Q : List (V × V) → Hp → Prop}, ks.length = es.length → tEs X.K W C es σ H (fun vs H3 => Q ((ks.map vOf).zip vs) H3) → L2.tPairs (trsOf X.K W C ks es) σ H Q
  | [], es, σ, H, Q, hl, h => by
    have : es = [] := List.eq_nil_of_length_eq_zero hl.symm
    subst this
    exact t_nil h
  | d :: ks, es, σ, H, Q, hl, h => by
    cases es with
    | nil => cases hl
    | cons e es =>
      refine tE_mono (t_cons h) fun v H1 q => ?_
      exact t_pairs (ks := ks) (es := es) (Q := fun ps H3 => Q ((vOf d, v) :: ps) H3) (by simpa using hl) q
theorem keys_V : ∀ {ds : List D} {ks : List Key} {vs : List V}, ds.mapM keyOf = some ks → vs.length = ds.length → (ds.map vOf).zip vs = ((ks.map mkey).zip vs).map fun kv => (L2.kV kv.1, kv.2)
  | [], ks, vs, h, _ => by
    simp at h; subst h; rfl
  | d :: ds, ks, vs, h, hl => by
    rw [List.mapM_cons] at h
    cases e : keyOf d with
    | none => rw [e] at h; cases h
    | some k =>
      rw [e] at h
      cases e2 : List.mapM keyOf ds with
      | none => rw [e2] at h; cases h
      | some r =>
        rw [e2] at h
        injection h with h
        subst h
        cases vs with
        | nil => cases hl
        | cons v vs =>
          have ih := keys_V (vs := vs) e2 (by simpa using hl)
          rw [List.map_cons, List.zip_cons_cons, ih, List.map_cons, List.zip_cons_cons, List.map_cons]
          congr 2
          cases d <;> simp at e <;> subst e <;> rfl
theorem merge_rg {K : Fr} {n : Nat} {M : MM} {H : Hp} : ∀ {ks : List Key} {ds : List D} {vs : List V} {l : List (Key × D)} {gs : List (L2.Key × V)}, ks.length = ds.length → RDs K n M H ds vs → (∀ k ∈ ks, okK k) → KOk (l.map (·.1)) → RG K n M H (fun _ sv v => RD K n M H (unSV sv) v) (plainEs l) gs →
    KOk (((ks.zip ds).foldl (fun l q => kput q.1 q.2 l) l).map (·.1)) ∧ RG K n M H (fun _ sv v => RD K n M H (unSV sv) v) (plainEs ((ks.zip ds).foldl (fun l q => kput q.1 q.2 l) l)) (L2.mergeK gs ((ks.map mkey).zip vs))
  | [], _, _, _, _, _, _, _, ko, r => ⟨ko, r⟩
  | k :: ks, [], _, _, _, hl, _, _, _, _ => by cases hl
  | k :: ks, d :: ds, _, l, gs, hl, .cons (v := v) a b, hk, ko, r => by
    have ho := hk k List.mem_cons_self
    exact merge_rg (ks := ks) (ds := ds) (l := kput k d l) (gs := L2.putK gs (mkey k) v) (by simpa using hl) b (fun j hj => hk j (List.mem_cons_of_mem _ hj)) (kput_ok ho ko) (by rw [plain_put]; exact r.put (sv := .val d) a (by rw [plain_keys]; exact ko.nd))
theorem keys_ok : ∀ {ds : List D} {ks : List Key}, ds.mapM keyOf = some ks → ks.length = ds.length ∧ ((∀ d ∈ ds, ∀ t, d = .str t → okT t) → ∀ k ∈ ks, okK k)
  | [], ks, h => by simp at h; subst h; exact ⟨rfl, fun _ k hk => by cases hk⟩
  | d :: ds, ks, h => by
    rw [List.mapM_cons] at h
    cases e : keyOf d with
    | none => rw [e] at h; cases h
    | some k =>
      rw [e] at h
      cases e2 : List.mapM keyOf ds with
      | none => rw [e2] at h; cases h
      | some r =>
        rw [e2] at h
        injection h with h
        subst h
        obtain ⟨i1, i2⟩ := keys_ok e2
        refine ⟨by rw [List.length_cons, List.length_cons, i1], fun ho j hj => ?_⟩
        rcases List.mem_cons.mp hj with z | z
        · subst z
          cases d with
          | int i => simp at e; subst e; trivial
          | str t => simp at e; subst e; exact ho _ List.mem_cons_self t rfl
          | _ => simp at e
        · exact i2 (fun d hd => ho d (List.mem_cons_of_mem _ hd)) j z
theorem vks_ok : ∀ {ds : List D} {kys : List (Option Py)}, vKs ds kys = true → ds.length = kys.length ∧ ∀ d ∈ ds, ∀ t, d = .str t → okT t
  | [], kys, h => by
    cases kys with
    | nil => exact ⟨rfl, fun d hd => by cases hd⟩
    | cons _ _ => simp [vKs] at h
  | d :: ds, kys, h => by
    cases kys with
    | nil => simp [vKs] at h
    | cons k kys =>
      cases k with
      | none => simp [vKs] at h
      | some k =>
        simp only [vKs] at h
        obtain ⟨g1, g2⟩ := Bool.and_eq_true_iff.mp h
        obtain ⟨i1, i2⟩ := vks_ok g2
        refine ⟨by rw [List.length_cons, List.length_cons, i1], fun d' hd t et => ?_⟩
        rcases List.mem_cons.mp hd with z | z
        · subst z et
          split at g1
          · rename_i c e
            unfold constB at g1
            split at g1 <;> first | cases g1 | skip
            all_goals first | (rename_i e1; cases e1; done) | skip
            · rename_i e1
              injection e1 with e1
              subst e1
              exact okTB_ok (Bool.and_eq_true_iff.mp g1).2
          · cases g1
        · exact i2 d' z t et
theorem vks_some : ∀ {ds : List D} {kys : List (Option Py)}, vKs ds kys = true → kys.all (·.isSome) = true
  | [], kys, h => by
    cases kys with
    | nil => rfl
    | cons _ _ => simp [vKs] at h
  | d :: ds, kys, h => by
    cases kys with
    | nil => simp [vKs] at h
    | cons k kys =>
      cases k with
      | none => simp [vKs] at h
      | some k =>
        simp only [vKs] at h
        rw [List.all_cons, vks_some (Bool.and_eq_true_iff.mp h).2]
        rfl
theorem t_dct {ks : List D} {es : List E} (hl : ks.length = es.length) (h15 : ks.length ≤ 15) (hok : ∀ d ∈ ks, ∀ t, d = .str t → okT t) (h : tE X.K W C (.dct ks es) σ H Q) : (∀ d ∈ ks, (keyOf d).isSome = true) → L2.tDisp (trsOf X.K W C ks es) σ H Q := by
  intro hall
  obtain ⟨M, s, rt, h⟩ := h
  intro p hp
  obtain ⟨rt1, g1⟩ := rt.tmp (o := .dK []) hp trivial
  simp only [evalE, pure] at h
  refine t_pairs hl ⟨_, s, rt1, ?_⟩
  have h' : OutR X.K W (relE X.K) (M.set p (some .tmp)) (upd H p (.dK [])) σ s (pures es) _ Q := h.later anti_relE g1.ext (fun _ => ⟨rfl, g1⟩) fun z => z
  refine ⟨h'.1, ?_⟩
  have h2 := h.2
  cases q : evalEs C es s with
  | stuck => rw [q] at h2; exact h2
  | raise x s1 =>
    rw [q] at h2
    exact fun M' H' cls d e rt' rx => h2 M' H' cls d (g1.ext.trans e) rt' rx
  | ok ds s1 =>
    rw [q, bind_ok] at h2
    intro M1 H1 vs e1 p1 rt2 rl
    have hlen := RD.len_eq rl
    by_cases gl : ds.length = ks.length
    · rw [if_pos gl] at h2
      cases ek : ks.mapM keyOf with
      | none => rw [ek] at h2; exact h2.elim
      | some kk =>
        rw [ek] at h2
        obtain ⟨k1, k2⟩ := e1.keep p _ upd_same (by rw [MM.set_same]; exact .inr (.inl rfl))
        have hwp : M1.who p = some .tmp := k2.trans MM.set_same
        obtain ⟨c1, c2⟩ := keys_ok ek
        refine ⟨k1, (kk.map mkey).zip vs, keys_V ek (by omega), ?_, ?_⟩
        · rw [List.length_zip, List.length_map]
          omega
        · obtain ⟨t1, t2⟩ := rt2.wrTmp (o := .dK (L2.mergeK [] ((kk.map mkey).zip vs))) hwp trivial
          obtain ⟨m1, m2⟩ := merge_rg (l := []) (gs := []) (by omega) (rl.mono (t2 s1.h.length)) (c2 hok) .nil .nil
          refine h2 M1 _ (.ref p) ?_ (fun z => ?_) t1 ⟨.own hwp (rc_dct (.inl upd_same) m1 m2), fun c _ a z => by
            injection z with z
            subst z
            exact hp⟩
          · have a := g1.ext.trans e1
            refine ⟨fun b o z pb => ?_, fun b z => ?_, a.loc, a.le, a.nl, a.lk⟩
            · obtain ⟨y1, y2⟩ := a.keep b o z pb
              exact ⟨by rw [upd_ne (L2.ne_of_none z hp)]; exact y1, y2⟩
            · by_cases eb : b = p
              · rw [eb]; exact hp
              · rw [upd_ne eb] at z; exact a.dom b z
          · obtain ⟨y1, y2⟩ := p1 z
            have gg := g1.trans y2
            exact ⟨y1, ⟨fun b o z => ⟨by rw [upd_ne (L2.ne_of_none z hp)]; exact (gg.keep b o z).1, (gg.keep b o z).2⟩, gg.loc, gg.lk⟩⟩
    · rw [if_neg gl] at h2; exact h2.elim
end
end KW
/-! KwOne: more operations of one operand; list.remove. -/
namespace KW
open PySem (Str Addr Value Program World Heap Operator CmpOp binaryOp compareOp PyData Scope Const Env wpAny_bind wpAny_mono)
open PySem.Spec PyProof.Rows
open L2 (V Hp HO upd upd_same upd_ne upd_upd SqL SqT Rd RelV Mut TE TT TA TS TI TG PI PG WX PE PT PW PA PS PSs Cx Inv OpR UnR CallR MtR IxR SlR TruR VK EP XK rI0)
/-! ### list.remove -/
def rRemoveD (K : Fr) : V → List V → Hp → VK → Prop := fun x xs H Q => ∃ (a : Addr) (y : V) (d : PyData) (ds : List PyData) (vs : List V) (j : Nat) (z : PyData), x = V.ref a ∧ xs = [y] ∧ H a = some (.lst vs) ∧ L2.DpAll K H vs ds ∧ L2.Dp K H y d ∧
  PySem.SeqAt.shaped (.list ds) = true ∧ PySem.SeqAt.shaped d = true ∧ ds[j]? = some z ∧ PyData.eqv z d = true ∧ (∀ (m : Nat) (z' : PyData), m < j → ds[m]? = some z' → PyData.eqv z' d = false) ∧ Q .non (upd H a (.lst (vs.eraseIdx j)))
theorem mt_removeD {X : Cx} (hu : X.A.units + 65 < PySem.cLine) : MtR X "list.remove" (rRemoveD X.K) := by
  intro pins s σ H x xs v us Q I rx rxs h
  obtain ⟨a, y, d, ds, vs, j, z, rfl, rfl, hH, ha, hy, sl, sd, hz, hzj, hno, q⟩ := h
  cases rx
  cases rxs with
  | cons ry rt =>
    rename_i uy ut
    cases rt
    obtain ⟨bs, r1⟩ := L2.Dp.reads I d y uy hy ry
    have hxs : PyData.canLayAll0 ds = true := PySem.SeqAt.canLay_of_shaped sl
    have hroom : X.A.units + 1 + min (PyData.depthAll ds) d.depth < PySem.cLine := PyProof.Rows.room_in_shaped sd hu
    obtain ⟨z0, its, n, r, hlen, e⟩ := I.lstM hH
    obtain ⟨as, h4⟩ := L2.Dp.readsAll I ds _ its ha r
    have hn : its.length = ds.length := PySem.SeqAt.ReadsAll.length ds its as h4
    have hmap : its.map (PySem.SeqAt.readOf s.heap) = ds := PySem.SeqAt.readsAll_map ds its as hxs h4
    have hvl := r.length
    have hsl := PySem.sizeLine_eq
    obtain ⟨hjd, _⟩ := List.getElem?_eq_some_iff.mp hz
    have hjl : j < its.length := by omega
    have hj : j < its.toArray.size := by simpa using hjl
    have at_ : ∀ (m : Nat) (hm : m < its.toArray.size) (z' : PyData), ds[m]? = some z' → PySem.SeqAt.readOf s.heap its.toArray[m] = z' := by
      intro m hm z' hz'
      have hml : m < its.length := by simpa using hm
      rw [← hmap, List.getElem?_map, List.getElem?_eq_getElem hml] at hz'
      have e1 : PySem.SeqAt.readOf s.heap its[m] = z' := Option.some.inj (show some (PySem.SeqAt.readOf s.heap its[m]) = some z' from hz')
      simpa using e1
    refine PySem.call_meets PySem.F.slot_list_remove ⟨_, e, rfl⟩ PySem.F.entry_list_remove (PySem.F.args_list_remove_2 _ _)
      (PySem.SeqAt.list_removeAt a its.toArray n none #[] uy (fun u => PyData.eqv (PySem.SeqAt.readOf s.heap u) d) j hj ?_ ?_ (by rw [List.size_toArray]; omega)) ⟨e, PySem.SeqAt.items_eqAt (vs := its.toArray) (show PySem.ReadsAll s.heap its.toArray.toList ds as from h4) r1 hxs (PySem.SeqAt.canLay_of_shaped sd) hroom, ?_⟩
    · show PyData.eqv (PySem.SeqAt.readOf s.heap its.toArray[j]) d = true
      rw [at_ j hj z hz]
      exact hzj
    · intro m hm hmj
      have hmd : m < ds.length := by omega
      have hz' : ds[m]? = some ds[m] := List.getElem?_eq_getElem hmd
      show PyData.eqv (PySem.SeqAt.readOf s.heap its.toArray[m]) d = false
      rw [at_ m hm _ hz']
      exact hno m _ hmj hz'
    · refine ⟨.non, _, I.lset (its' := its.eraseIdx j) (t' := s.toks) hH e ?_ (r.eraseIdx j) ?_, rfl, q⟩
      · show its.toArray.eraseIdxIfInBounds j = (its.eraseIdx j).toArray
        rw [List.eraseIdxIfInBounds_toArray]
      · have := List.length_eraseIdx_le (l := vs) (i := j)
        omega
theorem ok_remove {K : Fr} : OkM K .remove (rRemoveD K) := by
  intro M H σ s s' x z vx ds vs Q rt _ rx rs h hq
  obtain ⟨a, xs, ws, d, ys, rfl, ha, rw_, hm, rfl, hl, go, kp⟩ := lst_mut rfl rt rx h
  cases rs with
  | nil => cases hm
  | @cons d0 _ _ _ r1 r2 =>
    cases r2 with
    | cons _ _ => cases d0 <;> cases hm
    | nil =>
      obtain ⟨g, e⟩ := oif (show (if (shaped d0 && xs.all shaped) = true then (xs.findIdx? fun z => deq z d0).map fun j => (D.non, xs.eraseIdx j) else none) = some (d, ys) from hm)
      obtain ⟨j, h3, e⟩ := omap e
      injection e with e1 e2
      subst e1 e2
      obtain ⟨g1, g2⟩ := Bool.and_eq_true_iff.mp g
      obtain ⟨p1, p2⟩ := dp_at (d := d0) rt (.val r1) (by
        cases d0 <;> first | rfl | (simp [shaped, isData] at g1)) g1
      obtain ⟨hd, _⟩ := datas_of_shaped g2
      obtain ⟨_, p4⟩ := list_shape rt.hp.wf g2 (.inl ha) rw_
      obtain ⟨hj, hp, hno⟩ := List.findIdx?_eq_some_iff_getElem.mp h3
      have e : xs[j]? = some xs[j] := List.getElem?_eq_getElem hj
      refine ⟨a, _, pyd d0, pyds xs, ws, j, pyd xs[j], rfl, rfl, ha, dps_of rt.hp.wf xs ws hd rw_, p1, p4, p2, by rw [pyds_get, e]; rfl, ?_, fun m z' hm hz' => ?_, ?_⟩
      · rw [← deq_eqv _ _ (datas_get hd e) (isData_of g1)]; exact hp
      · rw [pyds_get] at hz'
        have em : xs[m]? = some xs[m] := List.getElem?_eq_getElem (by omega)
        rw [em] at hz'
        injection hz' with hz'
        rw [← hz', ← deq_eqv _ _ (datas_get hd em) (isData_of g1)]
        simpa using hno m hm
      · obtain ⟨t1, t2⟩ := go _ (rw_.erase j)
        exact hq _ _ _ t2 t1 (.val .non) fresh_val
end KW
/-! KwSort: orders; sorting by insertion is what any sort gives. -/
namespace KW
structure Slo {α : Type} (lt : α → α → Bool) : Prop where
  irr : ∀ x, lt x x = false
  tr : ∀ x y z, lt x y = true → lt y z = true → lt x z = true
  tot : ∀ x y, lt x y = false → lt y x = false → x = y
theorem Slo.swo {α β : Type} {lt : β → β → Bool} (h : Slo lt) (f : α → β) : SrtO.Swo fun x y => lt (f x) (f y) := by
  refine ⟨fun x y e => ?_, fun x y z e1 e2 => ?_⟩
  · cases q : lt (f y) (f x) with
    | false => rfl
    | true => have := h.tr _ _ _ e q; rw [h.irr] at this; cases this
  · cases q : lt (f z) (f x) with
    | false => rfl
    | true =>
      cases p : lt (f x) (f y) with
      | true =>
        have := h.tr _ _ _ q p
        have e2 : lt (f z) (f y) = false := e2
        rw [e2] at this; cases this
      | false =>
        have := h.tot _ _ p e1
        have e2 : lt (f z) (f y) = false := e2
        rw [this, e2] at q; cases q
def ltI (a b : Int) : Bool := decide (a < b)
theorem slo_I : Slo ltI := ⟨fun x => decide_eq_false (Int.lt_irrefl x), fun x y z h1 h2 => decide_eq_true (Int.lt_trans (of_decide_eq_true h1) (of_decide_eq_true h2)), fun x y h1 h2 => by
  have a := of_decide_eq_false h1
  have b := of_decide_eq_false h2
  omega⟩
theorem ltT_irr : ∀ x : T, ltT x x = false
  | [] => rfl
  | a :: r => by simp [ltT, ltT_irr r]
theorem ltT_tr : ∀ x y z : T, ltT x y = true → ltT y z = true → ltT x z = true
  | [], y, [], _, h => by cases y <;> simp [ltT] at h
  | [], _, _ :: _, _, _ => rfl
  | _ :: _, [], _, h, _ => by simp [ltT] at h
  | _ :: _, _ :: _, [], _, h => by simp [ltT] at h
  | a :: r, b :: s, c :: t, h1, h2 => by
    simp only [ltT] at h1 h2 ⊢
    split at h1
    · split at h2
      · rw [if_pos (by omega)]
      · split at h2
        · cases h2
        · rw [if_pos (by omega)]
    · split at h1
      · cases h1
      · split at h2
        · rw [if_pos (by omega)]
        · split at h2
          · cases h2
          · rw [if_neg (by omega), if_neg (by omega)]
            exact ltT_tr r s t h1 h2
theorem ltT_tot : ∀ x y : T, ltT x y = false → ltT y x = false → x = y
  | [], [], _, _ => rfl
  | [], _ :: _, h, _ => by simp [ltT] at h
  | _ :: _, [], _, h => by simp [ltT] at h
  | a :: r, b :: s, h1, h2 => by
    simp only [ltT] at h1 h2
    split at h1
    · cases h1
    · rename_i n1
      split at h2
      · rename_i n2
        simp at h2
      · rename_i n2
        rw [if_neg n2] at h1
        have e : a = b := by omega
        rw [e, ltT_tot r s h1 h2]
theorem slo_T : Slo ltT := ⟨ltT_irr, ltT_tr, ltT_tot⟩
def lexL {α β : Type} [DecidableEq α] (l1 : α → α → Bool) (l2 : β → β → Bool) (a b : α × β) : Bool := if a.1 = b.1 then l2 a.2 b.2 else l1 a.1 b.1
theorem slo_lex {α β : Type} [DecidableEq α] {l1 : α → α → Bool} {l2 : β → β → Bool} (h1 : Slo l1) (h2 : Slo l2) : Slo (lexL l1 l2) := by
  refine ⟨fun x => ?_, fun x y z e1 e2 => ?_, fun x y e1 e2 => ?_⟩
  · unfold lexL; rw [if_pos rfl]; exact h2.irr _
  · unfold lexL at e1 e2 ⊢
    by_cases a : x.1 = y.1
    · rw [if_pos a] at e1
      by_cases b : y.1 = z.1
      · rw [if_pos b] at e2
        rw [if_pos (a.trans b)]
        exact h2.tr _ _ _ e1 e2
      · rw [if_neg b] at e2
        rw [if_neg (by rw [a]; exact b), a]
        exact e2
    · rw [if_neg a] at e1
      by_cases b : y.1 = z.1
      · rw [if_neg (by rw [← b]; exact a), ← b]
        exact e1
      · rw [if_neg b] at e2
        have c := h1.tr _ _ _ e1 e2
        rw [if_neg fun z0 => by rw [z0, h1.irr] at c; cases c]
        exact c
  · unfold lexL at e1 e2
    by_cases a : x.1 = y.1
    · rw [if_pos a] at e1
      rw [if_pos a.symm] at e2
      exact Prod.ext a (h2.tot _ _ e1 e2)
    · rw [if_neg a] at e1
      rw [if_neg fun z => a z.symm] at e2
      exact absurd (h1.tot _ _ e1 e2) a
abbrev KA := Int × T
def ltA : KA → KA → Bool := lexL ltI ltT
def ltK : KA × KA → KA × KA → Bool := lexL ltA ltA
theorem slo_A : Slo ltA := slo_lex slo_I slo_T
theorem slo_K : Slo ltK := slo_lex slo_A slo_A
def kaOf : D → KA
  | .int i => (i, [])
  | .str t => (0, t)
  | _ => (0, [])
def kOf : D → KA × KA
  | .tup [a, b] => (kaOf a, kaOf b)
  | d => (kaOf d, (0, []))
theorem ltA_i (i j : Int) : ltA (i, []) (j, []) = decide (i < j) := by
  unfold ltA lexL
  by_cases e : i = j
  · subst e; simp [ltT]
  · rw [if_neg e]; rfl
theorem ltA_s (s t : T) : ltA (0, s) (0, t) = ltT s t := rfl
theorem ltK_1 (a b : KA) (c : KA) : ltK (a, c) (b, c) = ltA a b := by
  unfold ltK lexL
  by_cases e : a = b
  · subst e; simp [slo_A.irr]
  · rw [if_neg e]
theorem srt_eq {a : D} {k : Srt} (h : srtOf a = some k) : (k = .i ∧ ∃ i, a = .int i) ∨ (k = .s ∧ ∃ t, a = .str t) ∨ (k = .pii ∧ ∃ i j, a = .tup [.int i, .int j]) ∨ (k = .pis ∧ ∃ i t, a = .tup [.int i, .str t]) ∨ (k = .psi ∧ ∃ t i, a = .tup [.str t, .int i]) ∨ (k = .pss ∧ ∃ t u, a = .tup [.str t, .str u]) := by
  unfold srtOf at h
  split at h <;> first | cases h | skip
  · exact .inl ⟨rfl, _, rfl⟩
  · exact .inr (.inl ⟨rfl, _, rfl⟩)
  · exact .inr (.inr (.inl ⟨rfl, _, _, rfl⟩))
  · exact .inr (.inr (.inr (.inl ⟨rfl, _, _, rfl⟩)))
  · exact .inr (.inr (.inr (.inr (.inl ⟨rfl, _, _, rfl⟩))))
  · exact .inr (.inr (.inr (.inr (.inr ⟨rfl, _, _, rfl⟩))))
theorem ltD_is {a b : D} {k : Srt} (ha : srtOf a = some k) (hb : srtOf b = some k) : ltD a b = ltK (kOf a) (kOf b) := by
  rcases srt_eq ha with ⟨rfl, i, rfl⟩ | ⟨rfl, t, rfl⟩ | ⟨rfl, i, j, rfl⟩ | ⟨rfl, i, t, rfl⟩ | ⟨rfl, t, i, rfl⟩ | ⟨rfl, t, u, rfl⟩ <;>
  rcases srt_eq hb with ⟨h, i', rfl⟩ | ⟨h, t', rfl⟩ | ⟨h, i', j', rfl⟩ | ⟨h, i', t', rfl⟩ | ⟨h, t', i', rfl⟩ | ⟨h, t', u', rfl⟩ <;>
  first | (cases h; done) | skip
  · show decide (i < i') = ltK ((i, []), _) ((i', []), _)
    rw [ltK_1, ltA_i]
  · show ltT t t' = ltK ((0, t), _) ((0, t'), _)
    rw [ltK_1, ltA_s]
  · show (if i = i' then decide (j < j') else decide (i < i')) = ltK ((i, []), (j, [])) ((i', []), (j', []))
    unfold ltK lexL
    by_cases e : i = i'
    · subst e; rw [if_pos rfl]; simp [ltA_i]
    · rw [if_neg e, if_neg (by intro z; injection z with z; exact e z), ltA_i]
  · show (if i = i' then ltT t t' else decide (i < i')) = ltK ((i, []), (0, t)) ((i', []), (0, t'))
    unfold ltK lexL
    by_cases e : i = i'
    · subst e; rw [if_pos rfl]; simp [ltA_s]
    · rw [if_neg e, if_neg (by intro z; injection z with z; exact e z), ltA_i]
  · show (if t = t' then decide (i < i') else ltT t t') = ltK ((0, t), (i, [])) ((0, t'), (i', []))
    unfold ltK lexL
    by_cases e : t = t'
    · subst e; rw [if_pos rfl]; simp [ltA_i]
    · rw [if_neg e, if_neg (by intro z; injection z with _ z; exact e z), ltA_s]
  · show (if t = t' then ltT u u' else ltT t t') = ltK ((0, t), (0, u)) ((0, t'), (0, u'))
    unfold ltK lexL
    by_cases e : t = t'
    · subst e; rw [if_pos rfl]; simp [ltA_s]
    · rw [if_neg e, if_neg (by intro z; injection z with _ z; exact e z), ltA_s]

/-! ### by insertion -/
def insB {α : Type} (lt : α → α → Bool) (x : α) : List α → List α
  | [] => [x]
  | y :: r => if lt y x then y :: insB lt x r else x :: y :: r
def sortB {α : Type} (lt : α → α → Bool) (l : List α) : List α := l.foldr (insB lt) []
theorem ins_is {lt : D → D → Bool} {x : D} : ∀ {l : List D}, (∀ y ∈ l, ltD y x = lt y x) → sortD.insDb x l = insB lt x l
  | [], _ => rfl
  | y :: r, h => by
    unfold sortD.insDb insB
    rw [h y List.mem_cons_self, ins_is fun z hz => h z (List.mem_cons_of_mem _ hz)]
theorem ins_perm {α : Type} {lt : α → α → Bool} (x : α) : ∀ l : List α, (insB lt x l).Perm (x :: l)
  | [] => List.Perm.refl _
  | y :: r => by
    unfold insB
    split
    · exact ((ins_perm x r).cons y).trans (List.Perm.swap x y r)
    · exact List.Perm.refl _
theorem sortB_perm {α : Type} {lt : α → α → Bool} : ∀ l : List α, (sortB lt l).Perm l
  | [] => List.Perm.refl _
  | x :: r => (ins_perm x _).trans ((sortB_perm r).cons x)
theorem sort_is {lt : D → D → Bool} : ∀ {l : List D}, (∀ x ∈ l, ∀ y ∈ l, ltD y x = lt y x) → sortD l = sortB lt l
  | [], _ => rfl
  | x :: r, h => by
    show sortD.insDb x (sortD r) = insB lt x (sortB lt r)
    have e := sort_is (l := r) fun a ha b hb => h a (List.mem_cons_of_mem _ ha) b (List.mem_cons_of_mem _ hb)
    rw [e]
    exact ins_is fun y hy => h x List.mem_cons_self y (List.mem_cons_of_mem _ ((sortB_perm r).mem_iff.mp hy))
theorem ins_srtd {α : Type} {lt : α → α → Bool} (O : SrtO.Swo lt) (x : α) : ∀ {l : List α}, SrtO.Srtd lt l → SrtO.Srtd lt (insB lt x l)
  | [], _ => SrtO.srtd_one x
  | y :: r, h => by
    have h2 := List.pairwise_cons.mp h
    unfold insB
    by_cases e : lt y x = true
    · rw [if_pos e]
      refine List.pairwise_cons.mpr ⟨fun z hz => ?_, ins_srtd O x h2.2⟩
      rcases List.mem_cons.mp ((ins_perm x r).mem_iff.mp hz) with q | q
      · rw [q]; exact O.asym _ _ e
      · exact h2.1 z q
    · rw [if_neg e]
      have e : lt y x = false := by simpa using e
      refine List.pairwise_cons.mpr ⟨fun z hz => ?_, h⟩
      rcases List.mem_cons.mp hz with q | q
      · rw [q]; exact e
      · exact O.tr x y z e (h2.1 z q)
theorem ins_cls {α : Type} {lt : α → α → Bool} (O : SrtO.Swo lt) (x u : α) : ∀ l : List α, (insB lt x l).filter (SrtO.eqv lt u) = (x :: l).filter (SrtO.eqv lt u)
  | [] => rfl
  | y :: r => by
    unfold insB
    by_cases e : lt y x = true
    · rw [if_pos e, List.filter_cons, ins_cls O x u r]
      by_cases px : SrtO.eqv lt u x = true
      · have py : SrtO.eqv lt u y = false := by
          cases q : SrtO.eqv lt u y with
          | false => rfl
          | true =>
            obtain ⟨a1, a2⟩ := SrtO.eqv_iff.mp px
            obtain ⟨b1, b2⟩ := SrtO.eqv_iff.mp q
            have := O.tr x u y a1 b2
            have h2 : lt y x = false := this
            rw [h2] at e; cases e
        simp [List.filter_cons, px, py]
      · have px : SrtO.eqv lt u x = false := by simpa using px
        simp [List.filter_cons, px]
    · rw [if_neg e]
theorem sortB_srtd {α : Type} {lt : α → α → Bool} (O : SrtO.Swo lt) : ∀ l : List α, SrtO.Srtd lt (sortB lt l)
  | [] => .nil
  | x :: r => ins_srtd O x (sortB_srtd O r)
theorem sortB_stb {α : Type} {lt : α → α → Bool} (O : SrtO.Swo lt) (l : List α) : SrtO.Stb lt (sortB lt l) l := by
  refine ⟨sortB_perm l, fun u => ?_⟩
  induction l with
  | nil => rfl
  | cons x r ih =>
    show (insB lt x (sortB lt r)).filter _ = _
    rw [ins_cls O, List.filter_cons, List.filter_cons, ih]
theorem sortable_kind {l : List D} (h : sortable l = true) : l = [] ∨ ∃ k, ∀ d ∈ l, srtOf d = some k := by
  cases l with
  | nil => exact .inl rfl
  | cons x r =>
    unfold sortable at h
    split at h
    · rename_i e; cases e
    · rename_i y r' e
      injection e with e1 e2
      subst e1 e2
      split at h
      · rename_i k _
        exact .inr ⟨k, fun d hd => of_decide_eq_true (List.all_eq_true.mp h d hd)⟩
      · cases h
theorem kOf_swo : SrtO.Swo fun x y : D => ltK (kOf x) (kOf y) := slo_K.swo kOf
/-- any stable sort gives sortD -/
theorem sort_uniq {l m : List D} (h : sortable l = true) (hs : SrtO.Srtd (fun x y : D => ltK (kOf x) (kOf y)) m) (hb : SrtO.Stb (fun x y : D => ltK (kOf x) (kOf y)) m l) : m = sortD l := by
  have e : sortD l = sortB (fun x y : D => ltK (kOf x) (kOf y)) l := sort_is fun x hx y hy => by
    rcases sortable_kind h with e | ⟨k, hk⟩
    · subst e; cases hx
    · exact ltD_is (hk y hy) (hk x hx)
  rw [e]
  have b := sortB_stb kOf_swo l
  exact SrtO.stb_uniq kOf_swo hs (sortB_srtd kOf_swo l) (hb.trans ⟨b.perm.symm, fun x => (b.cls x).symm⟩)
end KW
/-! KwSort2: sorted, for texts, ints and pairs. -/
namespace KW
open PySem (Str Addr Value Program World Heap Operator CmpOp binaryOp compareOp PyData Scope Const Env Around Shared Tok wpAny wpAny_bind wpAny_mono wpAny_pure model)
open PySem.Spec PyProof.Rows
open L2 (V Hp HO upd upd_same upd_ne upd_upd SqL SqT Rd RelV Mut TE TT TA TS TI TG PI PG WX PE PT PW PA PS PSs Cx Inv OpR UnR CallR MtR IxR SlR TruR VK EP XK rI0)
/-- an int or a text -/
def AtA (u : Value) : D → Prop
  | .int i => ∃ t, u = Value.int i t
  | .str x => ∃ t, u = Value.str (mst x) t
  | _ => False
/-- what a value reads as -/
def AtD (h : Heap) (u : Value) : D → Prop
  | .tup [a, b] => ∃ p o ua ub n, u = Value.ref p ∧ h.get? p = some o ∧ o.cls = Value.type "tuple" ∧ o.data = .seq #[ua, ub] n ∧ AtA ua a ∧ AtA ub b
  | d => AtA u d
theorem atA_fun {u : Value} {d e : D} (h : AtA u d) (h' : AtA u e) : d = e := by
  cases d <;> try exact h.elim
  · obtain ⟨t, rfl⟩ := h
    cases e <;> try exact h'.elim
    · obtain ⟨t', h'⟩ := h'; injection h' with h' _; rw [h']
    · obtain ⟨t', h'⟩ := h'; cases h'
  · obtain ⟨t, rfl⟩ := h
    cases e <;> try exact h'.elim
    · obtain ⟨t', h'⟩ := h'; cases h'
    · obtain ⟨t', h'⟩ := h'; injection h' with h' _; rw [mst_inj h']
theorem ltT_is : ∀ a b : T, decide (a < b) = ltT a b
  | [], [] => by simp [ltT]
  | [], _ :: _ => by simp [ltT]
  | _ :: _, [] => by simp [ltT]
  | a :: r, b :: s => by
    have ih := ltT_is r s
    unfold ltT
    by_cases h1 : a < b
    · rw [if_pos h1]
      exact decide_eq_true (List.cons_lt_cons_iff.mpr (.inl h1))
    · rw [if_neg h1]
      by_cases h2 : b < a
      · rw [if_pos h2]
        refine decide_eq_false fun h => ?_
        rcases List.cons_lt_cons_iff.mp h with h | ⟨h, _⟩ <;> omega
      · rw [if_neg h2, ← ih]
        have e : a = b := by omega
        subst e
        by_cases g : r < s
        · rw [decide_eq_true g]; exact decide_eq_true (List.cons_lt_cons_iff.mpr (.inr ⟨rfl, g⟩))
        · rw [decide_eq_false g]
          refine decide_eq_false fun h => ?_
          rcases List.cons_lt_cons_iff.mp h with h | ⟨_, h⟩
          · omega
          · exact g h
/-- two of one type -/
def sameA (a b : D) : Prop := (∃ i j, a = .int i ∧ b = .int j) ∨ ∃ s t, a = .str s ∧ b = .str t
section
variable {prog : Program} {w : World} {A : Around} {E : Value → Shared → Prop} {s : Shared}
theorem atom_eq {p q : Value} {a b : D} (hs : sameA a b) (hp : AtA p a) (hq : AtA q b) {Q : Bool → Shared → Prop} (h : Q (decide (kaOf a = kaOf b)) s) : wpAny (model prog w) A (PySem.eqBool p q) Q E s := by
  rcases hs with ⟨i, j, rfl, rfl⟩ | ⟨x, y, rfl, rfl⟩
  · obtain ⟨t, rfl⟩ := hp
    obtain ⟨t', rfl⟩ := hq
    refine PySem.SeqAt.EqAt.int_int i t j t' prog w _ _ ?_
    have e : decide (kaOf (.int i) = kaOf (.int j)) = (i == j) := by
      by_cases z : i = j
      · subst z; simp
      · simp [kaOf, z]
    rw [← e]; exact h
  · obtain ⟨t, rfl⟩ := hp
    obtain ⟨t', rfl⟩ := hq
    refine PySem.SeqAt.EqAt.str_str (mst x) t (mst y) t' prog w _ _ ?_
    have e : decide (kaOf (.str x) = kaOf (.str y)) = (mst x == mst y) := by
      by_cases z : x = y
      · subst z; simp
      · have : mst x ≠ mst y := fun e => z (mst_inj e)
        simp [kaOf, z, this]
    rw [← e]; exact h
theorem atom_lt {p q : Value} {a b : D} (hs : sameA a b) (hp : AtA p a) (hq : AtA q b) {Q : Bool → Shared → Prop} (h : Q (ltA (kaOf a) (kaOf b)) s) : wpAny (model prog w) A (oneLt' true p q) Q E s := by
  rcases hs with ⟨i, j, rfl, rfl⟩ | ⟨x, y, rfl, rfl⟩
  · obtain ⟨t, rfl⟩ := hp
    obtain ⟨t', rfl⟩ := hq
    refine oneLt_int ?_
    rw [← ltA_i]; exact h
  · obtain ⟨t, rfl⟩ := hp
    obtain ⟨t', rfl⟩ := hq
    refine oneLt_str ?_
    rw [mst_cps, mst_cps, ltT_is]; exact h
theorem atom_lt2 {p q : Value} {a b : D} (hs : sameA a b) (hp : AtA p a) (hq : AtA q b) {Q : Bool → Shared → Prop} (h : Q (ltA (kaOf a) (kaOf b)) s) : wpAny (model prog w) A (oneLt' false p q) Q E s := by
  refine PySem.W.kat_one _ _ ?_
  rcases hs with ⟨i, j, rfl, rfl⟩ | ⟨x, y, rfl, rfl⟩
  · obtain ⟨t, rfl⟩ := hp
    obtain ⟨t', rfl⟩ := hq
    refine PyProof.Rows.lt_int ?_
    show Q (decide (i < j)) s
    rw [← ltA_i]; exact h
  · obtain ⟨t, rfl⟩ := hp
    obtain ⟨t', rfl⟩ := hq
    refine PyProof.Rows.lt_str ?_
    show Q (decide ((mst x).cps.toList < (mst y).cps.toList)) s
    rw [mst_cps, mst_cps, ltT_is]; exact h
theorem pair_lt {u v : Value} {a b a' b' : D} (h1 : sameA a a') (h2 : sameA b b') (hu : AtD s.heap u (.tup [a, b])) (hv : AtD s.heap v (.tup [a', b'])) :
    wpAny (model prog w) A (keyLt' (tuples' true) u v) (fun r s' => s' = s ∧ r = ltK (kOf (.tup [a, b])) (kOf (.tup [a', b']))) (fun _ _ => False) s := by
  obtain ⟨p, o, ua, ub, n, rfl, ho, hc, hd, ha, hb⟩ := hu
  obtain ⟨p', o', ua', ub', n', rfl, ho', hc', hd', ha', hb'⟩ := hv
  refine PySem.W.kat_lt ho hd ho' hd' ?_
  show PySem.W.KatLex prog w A true (decide (2 < 2)) _ [(ua, ua'), (ub, ub')] 0 s
  have e3 : ltK (kOf (.tup [a, b])) (kOf (.tup [a', b'])) = if kaOf a = kaOf a' then ltA (kaOf b) (kaOf b') else ltA (kaOf a) (kaOf a') := rfl
  rw [e3]
  refine PySem.W.kat_cons (atom_eq h1 ha ha' ?_)
  refine PySem.W.kat_go (fun e1 => ?_) (fun e1 => ?_)
  · have e1 := of_decide_eq_true e1
    rw [if_pos e1]
    refine PySem.W.kat_yes (PySem.W.kat_cons (atom_eq h2 hb hb' ?_))
    refine PySem.W.kat_go (fun e2 => ?_) (fun e2 => ?_)
    · have e2 := of_decide_eq_true e2
      refine PySem.W.kat_yes (PySem.W.kat_nil ⟨rfl, ?_⟩)
      rw [e2, slo_A.irr]
      rfl
    · exact PySem.W.kat_no (atom_lt2 h2 hb hb' ⟨rfl, rfl⟩)
  · have e1 := of_decide_eq_false e1
    rw [if_neg e1]
    exact PySem.W.kat_no (atom_lt h1 ha ha' ⟨rfl, rfl⟩)
end
theorem AtD.keeps {h h' : Heap} {u : Value} {d : D} (k : ∀ b o, h.get? b = some o → o.cls = Value.type "tuple" → h'.get? b = some o) (hu : AtD h u d) : AtD h' u d := by
  unfold AtD at hu ⊢
  split at hu
  · obtain ⟨p, o, ua, ub, n, rfl, ho, hc, r⟩ := hu
    exact ⟨p, o, ua, ub, n, rfl, k _ _ ho hc, hc, r⟩
  · exact hu
theorem atD_fun {h : Heap} {u : Value} {d e : D} {k k' : Srt} (hd : srtOf d = some k) (he : srtOf e = some k') (h1 : AtD h u d) (h2 : AtD h u e) : d = e := by
  have at1 : ∀ {d : D} {k : Srt}, srtOf d = some k → AtD h u d → (AtA u d) ∨ ∃ a b, d = .tup [a, b] := fun {d k} hd hu => by
    rcases srt_eq hd with ⟨rfl, i, rfl⟩ | ⟨rfl, t, rfl⟩ | ⟨rfl, i, j, rfl⟩ | ⟨rfl, i, t, rfl⟩ | ⟨rfl, t, i, rfl⟩ | ⟨rfl, t, u, rfl⟩
    · exact .inl hu
    · exact .inl hu
    all_goals exact .inr ⟨_, _, rfl⟩
  rcases at1 hd h1 with g1 | ⟨a, b, rfl⟩
  · rcases at1 he h2 with g2 | ⟨a, b, rfl⟩
    · exact atA_fun g1 g2
    · obtain ⟨p, o, ua, ub, n, rfl, _⟩ := h2
      cases d <;> try exact g1.elim
      · obtain ⟨t, g1⟩ := g1; cases g1
      · obtain ⟨t, g1⟩ := g1; cases g1
  · obtain ⟨p, o, ua, ub, n, rfl, ho, hc, hdt, ha, hb⟩ := h1
    rcases at1 he h2 with g2 | ⟨a', b', rfl⟩
    · cases e <;> try exact g2.elim
      · obtain ⟨t, g2⟩ := g2; cases g2
      · obtain ⟨t, g2⟩ := g2; cases g2
    · obtain ⟨p', o', ua', ub', n', e, ho', hc', hd', ha', hb'⟩ := h2
      injection e with e
      subst e
      rw [ho] at ho'
      cases ho'
      rw [hdt] at hd'
      injection hd' with hd' _
      have e1 : ua = ua' := by have := congrArg (fun z : Array Value => z[0]?) hd'; simpa using this
      have e2 : ub = ub' := by have := congrArg (fun z : Array Value => z[1]?) hd'; simpa using this
      subst e1 e2
      rw [atA_fun ha ha', atA_fun hb hb']
section
variable {prog : Program} {w : World} {A : Around} {E : Value → Shared → Prop} {s : Shared}
theorem firsts_D {h : Heap} {P : D → Prop} : ∀ {vs : List Value}, (∀ v ∈ vs, ∃ a b, AtD h v (.tup [a, b]) ∧ P a) → ∃ fs : List Value, PySem.W.KatTups h vs fs ∧ fs.length = vs.length ∧ ∀ f ∈ fs, ∃ a, AtA f a ∧ P a
  | [], _ => ⟨[], PySem.W.KatTups.nil, rfl, fun _ hm => by simp at hm⟩
  | v :: vs, hp => by
    obtain ⟨fs, h1, h2, h3⟩ := firsts_D (vs := vs) fun v' hm => hp v' (List.mem_cons_of_mem _ hm)
    obtain ⟨a, b, ⟨p, o, ua, ub, n, e, ho, hc, hd, ha, hb⟩, pa⟩ := hp v List.mem_cons_self
    subst e
    refine ⟨ua :: fs, PySem.W.KatTups.cons ho hc hd rfl h1, by rw [List.length_cons, List.length_cons, h2], fun f hm => ?_⟩
    rcases List.mem_cons.mp hm with rfl | hm
    · exact ⟨a, ha, pa⟩
    · exact h3 f hm
theorem cmp_one {vs : List Value} {kd : Value → D} (hk : ∀ v ∈ vs, AtA v (kd v)) (hs : ∀ v ∈ vs, ∀ u ∈ vs, sameA (kd v) (kd u)) (hf : ∀ v ∈ vs, kOf (kd v) = (kaOf (kd v), (0, []))) : SrtO.Cmp prog w A s oneType' (fun p => p.1 ∈ vs) (SrtO.lt2 fun v u => ltK (kOf (kd v)) (kOf (kd u))) := by
  intro p q hm hm'
  show wpAny (model prog w) A (keyLt' oneType' p.1 q.1) (fun r s' => s' = s ∧ r = ltK (kOf (kd p.1)) (kOf (kd q.1))) (fun _ _ => False) s
  rw [keyLt'_oneType]
  refine atom_lt (hs _ hm _ hm') (hk _ hm) (hk _ hm') ⟨rfl, ?_⟩
  rw [hf _ hm, hf _ hm', ltK_1]
theorem cmp_two {vs : List Value} {kd : Value → D} (hk : ∀ v ∈ vs, ∀ u ∈ vs, ∃ a b a' b', kd v = .tup [a, b] ∧ kd u = .tup [a', b'] ∧ sameA a a' ∧ sameA b b') (ha : ∀ v ∈ vs, AtD s.heap v (kd v)) : SrtO.Cmp prog w A s (tuples' true) (fun p => p.1 ∈ vs) (SrtO.lt2 fun v u => ltK (kOf (kd v)) (kOf (kd u))) := by
  intro p q hm hm'
  show wpAny (model prog w) A (keyLt' (tuples' true) p.1 q.1) (fun r s' => s' = s ∧ r = ltK (kOf (kd p.1)) (kOf (kd q.1))) (fun _ _ => False) s
  obtain ⟨a, b, a', b', e1, e2, s1, s2⟩ := hk _ hm _ hm'
  have h1 := ha _ hm
  have h2 := ha _ hm'
  rw [e1] at h1 ⊢
  rw [e2] at h2 ⊢
  exact pair_lt s1 s2 h1 h2
theorem kind_two {vs : List Value} {P : D → Prop} {T : String} (hp : ∀ v ∈ vs, ∃ a b, AtD s.heap v (.tup [a, b]) ∧ P a) (h0 : 0 < vs.length) (hT : ∀ f a, AtA f a → P a → PySem.W.Looks (model prog w) s.heap (PySem.typeOf f) (.type T)) (hne : (Value.type T != Value.type "tuple") = true) {Q : PyProof.Rows.SortKind → Shared → Prop} (hq : Q (tuples' true) s) : wpAny (model prog w) A (keyKind' vs.toArray) Q E s := by
  obtain ⟨fs, h1, h2, h3⟩ := firsts_D hp
  refine PySem.W.kat_kind (T := .type T) h1 (by omega) (fun f hm => ?_) (by simp) ?_
  · obtain ⟨a, g1, g2⟩ := h3 f hm
    exact hT f a g1 g2
  · rw [hne]; exact hq
end
section
variable {prog : Program} {w : World} {A : Around} {E : Value → Shared → Prop} {s : Shared}
theorem looks_int {f : Value} {a : D} (h : AtA f a) (p : ∃ i, a = .int i) {h0 : Heap} : PySem.W.Looks (model prog w) h0 (PySem.typeOf f) (.type "int") := by
  obtain ⟨i, rfl⟩ := p
  obtain ⟨t, rfl⟩ := h
  exact PySem.W.Looks.now
theorem looks_str {f : Value} {a : D} (h : AtA f a) (p : ∃ t, a = .str t) {h0 : Heap} : PySem.W.Looks (model prog w) h0 (PySem.typeOf f) (.type "str") := by
  obtain ⟨i, rfl⟩ := p
  obtain ⟨t, rfl⟩ := h
  exact PySem.W.Looks.now
theorem sortable_D {a : Addr} {vs : List Value} {kd : Value → D} {k : Srt} (hk : ∀ v ∈ vs, srtOf (kd v) = some k ∧ AtD s.heap v (kd v)) (h2 : 2 ≤ vs.length) (ha : ∀ o, s.heap.get? a = some o → o.cls ≠ .type "tuple") : SrtO.SortableO prog w A s a vs (fun v u => ltK (kOf (kd v)) (kOf (kd u))) := by
  intro h' keep
  have hk' : ∀ v ∈ vs, srtOf (kd v) = some k ∧ AtD h' v (kd v) := fun v hv => ⟨(hk v hv).1, (hk v hv).2.keeps fun b o e c => keep b o (fun z => by subst z; exact ha o e c) e⟩
  have ni : (Value.type "int" != Value.type "tuple") = true := by first | decide +kernel | rfl | decide
  have nst : (Value.type "str" != Value.type "tuple") = true := by first | decide +kernel | rfl | decide
  have two : (∀ v ∈ vs, ∃ a b, kd v = .tup [a, b]) → (∀ v ∈ vs, ∀ u ∈ vs, ∃ a b a' b', kd v = .tup [a, b] ∧ kd u = .tup [a', b'] ∧ sameA a a' ∧ sameA b b') → ((∀ v ∈ vs, ∀ a b, kd v = .tup [a, b] → ∃ i, a = .int i) ∨ (∀ v ∈ vs, ∀ a b, kd v = .tup [a, b] → ∃ t, a = .str t)) →
      ∃ κ, (∀ (Q : PyProof.Rows.SortKind → Shared → Prop) (E : Value → Shared → Prop), Q κ { s with heap := h' } → wpAny (model prog w) A (keyKind' vs.toArray) Q E { s with heap := h' }) ∧ SrtO.Cmp prog w A { s with heap := h' } κ (fun p => p.1 ∈ vs) (SrtO.lt2 fun v u => ltK (kOf (kd v)) (kOf (kd u))) := fun ht hs hf => by
    refine ⟨tuples' true, fun Q E hq => ?_, cmp_two hs fun v hv => (hk' v hv).2⟩
    rcases hf with hf | hf
    · refine kind_two (s := { s with heap := h' }) (P := fun a => ∃ i, a = .int i) (T := "int") (fun v hv => ?_) (by omega) (fun f a g p => looks_int g p) ni hq
      obtain ⟨a, b, e⟩ := ht v hv
      have := (hk' v hv).2
      rw [e] at this
      exact ⟨a, b, this, hf v hv a b e⟩
    · refine kind_two (s := { s with heap := h' }) (P := fun a => ∃ i, a = .str i) (T := "str") (fun v hv => ?_) (by omega) (fun f a g p => looks_str g p) nst hq
      obtain ⟨a, b, e⟩ := ht v hv
      have := (hk' v hv).2
      rw [e] at this
      exact ⟨a, b, this, hf v hv a b e⟩
  have inj : ∀ {a b c d : D}, D.tup [a, b] = D.tup [c, d] → a = c ∧ b = d := fun {a b c d} e => by
    injection e with e
    injection e with e1 e2
    injection e2 with e2 _
    exact ⟨e1, e2⟩
  cases k with
  | i =>
    have hi : ∀ v ∈ vs, ∃ i, kd v = .int i := fun v hv => by
      rcases srt_eq (hk' v hv).1 with ⟨_, i, e⟩ | ⟨h, _⟩ | ⟨h, _⟩ | ⟨h, _⟩ | ⟨h, _⟩ | ⟨h, _⟩ <;> first | exact ⟨i, e⟩ | cases h
    have hat : ∀ v ∈ vs, AtA v (kd v) := fun v hv => by
      obtain ⟨i, e⟩ := hi v hv
      have := (hk' v hv).2
      rw [e] at this ⊢
      exact this
    refine ⟨oneType', fun Q E hq => ?_, cmp_one hat (fun v hv u hu => ?_) fun v hv => ?_⟩
    · have hI := SrtO.ints_iv (vs := vs) fun v hv => by
        obtain ⟨i, e⟩ := hi v hv
        have := hat v hv
        rw [e] at this
        obtain ⟨t, e2⟩ := this
        exact ⟨i, t, e2⟩
      match vs, hI, h2 with
      | v1 :: v2 :: rest, hI, _ =>
        rw [keyKind_ints hI]
        exact wpAny_pure hq
      | [], _, h => exact absurd h (by decide)
      | [v], _, h => exact absurd h (by simp)
    · obtain ⟨i, e⟩ := hi v hv
      obtain ⟨j, e2⟩ := hi u hu
      exact .inl ⟨i, j, e, e2⟩
    · obtain ⟨i, e⟩ := hi v hv
      rw [e]; rfl
  | s =>
    have hi : ∀ v ∈ vs, ∃ i, kd v = .str i := fun v hv => by
      rcases srt_eq (hk' v hv).1 with ⟨h, _⟩ | ⟨_, i, e⟩ | ⟨h, _⟩ | ⟨h, _⟩ | ⟨h, _⟩ | ⟨h, _⟩ <;> first | exact ⟨i, e⟩ | cases h
    have hat : ∀ v ∈ vs, AtA v (kd v) := fun v hv => by
      obtain ⟨i, e⟩ := hi v hv
      have := (hk' v hv).2
      rw [e] at this ⊢
      exact this
    refine ⟨oneType', fun Q E hq => ?_, cmp_one hat (fun v hv u hu => ?_) fun v hv => ?_⟩
    · have hI := strsAre_map vs fun v hv => by
        obtain ⟨i, e⟩ := hi v hv
        have := hat v hv
        rw [e] at this
        obtain ⟨t, e2⟩ := this
        exact ⟨mst i, t, e2⟩
      match vs, hI, h2 with
      | v1 :: v2 :: rest, hI, _ =>
        rw [keyKind_strs hI]
        exact wpAny_pure hq
      | [], _, h => exact absurd h (by decide)
      | [v], _, h => exact absurd h (by simp)
    · obtain ⟨i, e⟩ := hi v hv
      obtain ⟨j, e2⟩ := hi u hu
      exact .inr ⟨i, j, e, e2⟩
    · obtain ⟨i, e⟩ := hi v hv
      rw [e]; rfl
  | pii =>
    have hi : ∀ v ∈ vs, ∃ i j, kd v = .tup [.int i, .int j] := fun v hv => by
      rcases srt_eq (hk' v hv).1 with ⟨h, _⟩ | ⟨h, _⟩ | ⟨_, i, j, e⟩ | ⟨h, _⟩ | ⟨h, _⟩ | ⟨h, _⟩ <;> first | exact ⟨i, j, e⟩ | cases h
    refine two (fun v hv => let ⟨i, j, e⟩ := hi v hv; ⟨_, _, e⟩) (fun v hv u hu => ?_) (.inl fun v hv a b e => ?_)
    · obtain ⟨i, j, e⟩ := hi v hv
      obtain ⟨i', j', e'⟩ := hi u hu
      exact ⟨_, _, _, _, e, e', .inl ⟨_, _, rfl, rfl⟩, .inl ⟨_, _, rfl, rfl⟩⟩
    · obtain ⟨i, j, e'⟩ := hi v hv
      exact ⟨i, (inj (e.symm.trans e')).1⟩
  | pis =>
    have hi : ∀ v ∈ vs, ∃ i j, kd v = .tup [.int i, .str j] := fun v hv => by
      rcases srt_eq (hk' v hv).1 with ⟨h, _⟩ | ⟨h, _⟩ | ⟨h, _⟩ | ⟨_, i, j, e⟩ | ⟨h, _⟩ | ⟨h, _⟩ <;> first | exact ⟨i, j, e⟩ | cases h
    refine two (fun v hv => let ⟨i, j, e⟩ := hi v hv; ⟨_, _, e⟩) (fun v hv u hu => ?_) (.inl fun v hv a b e => ?_)
    · obtain ⟨i, j, e⟩ := hi v hv
      obtain ⟨i', j', e'⟩ := hi u hu
      exact ⟨_, _, _, _, e, e', .inl ⟨_, _, rfl, rfl⟩, .inr ⟨_, _, rfl, rfl⟩⟩
    · obtain ⟨i, j, e'⟩ := hi v hv
      exact ⟨i, (inj (e.symm.trans e')).1⟩
  | psi =>
    have hi : ∀ v ∈ vs, ∃ i j, kd v = .tup [.str i, .int j] := fun v hv => by
      rcases srt_eq (hk' v hv).1 with ⟨h, _⟩ | ⟨h, _⟩ | ⟨h, _⟩ | ⟨h, _⟩ | ⟨_, i, j, e⟩ | ⟨h, _⟩ <;> first | exact ⟨i, j, e⟩ | cases h
    refine two (fun v hv => let ⟨i, j, e⟩ := hi v hv; ⟨_, _, e⟩) (fun v hv u hu => ?_) (.inr fun v hv a b e => ?_)
    · obtain ⟨i, j, e⟩ := hi v hv
      obtain ⟨i', j', e'⟩ := hi u hu
      exact ⟨_, _, _, _, e, e', .inr ⟨_, _, rfl, rfl⟩, .inl ⟨_, _, rfl, rfl⟩⟩
    · obtain ⟨i, j, e'⟩ := hi v hv
      exact ⟨i, (inj (e.symm.trans e')).1⟩
  | pss =>
    have hi : ∀ v ∈ vs, ∃ i j, kd v = .tup [.str i, .str j] := fun v hv => by
      rcases srt_eq (hk' v hv).1 with ⟨h, _⟩ | ⟨h, _⟩ | ⟨h, _⟩ | ⟨h, _⟩ | ⟨h, _⟩ | ⟨_, i, j, e⟩ <;> first | exact ⟨i, j, e⟩ | cases h
    refine two (fun v hv => let ⟨i, j, e⟩ := hi v hv; ⟨_, _, e⟩) (fun v hv u hu => ?_) (.inr fun v hv a b e => ?_)
    · obtain ⟨i, j, e⟩ := hi v hv
      obtain ⟨i', j', e'⟩ := hi u hu
      exact ⟨_, _, _, _, e, e', .inr ⟨_, _, rfl, rfl⟩, .inr ⟨_, _, rfl, rfl⟩⟩
    · obtain ⟨i, j, e'⟩ := hi v hv
      exact ⟨i, (inj (e.symm.trans e')).1⟩
end
/-! ### readings of a list's items -/
section
variable {X : Cx} {pins : List (Addr × PySem.Obj)} {σ : L2.St} {H : Hp} {s : Shared} {n : Nat} {M : MM}
theorem atA_of {d : D} {v : V} {u : Value} (hd : (∃ i, d = .int i) ∨ ∃ t, d = .str t) (r : RD X.K n M H d v) (ru : RelV v u) : AtA u d := by
  rcases hd with ⟨i, rfl⟩ | ⟨t, rfl⟩
  · cases r; exact ru
  · cases r; exact ru
theorem atD_of (I : Inv X pins σ H s) {d : D} {v : V} {u : Value} {k : Srt} (hd : srtOf d = some k) (r : RD X.K n M H d v) (ru : RelV v u) : AtD s.heap u d := by
  have pair : ∀ a b, d = .tup [a, b] → ((∃ i, a = .int i) ∨ ∃ t, a = .str t) → ((∃ i, b = .int i) ∨ ∃ t, b = .str t) → AtD s.heap u d := fun a b e ha hb => by
    subst e
    cases r with
    | @tup p _ _ hq hs =>
      cases hs with
      | cons r1 hs =>
        cases hs with
        | cons r2 hs =>
          cases hs with
          | nil =>
            obtain ⟨its, rv, ⟨o, ho, hc, n, hdt⟩, _⟩ := I.tuple hq
            cases rv with
            | cons q1 rv =>
              cases rv with
              | cons q2 rv =>
                cases rv with
                | nil => exact ⟨p, o, _, _, n, ru, ho, hc, hdt, atA_of ha r1 q1, atA_of hb r2 q2⟩
  rcases srt_eq hd with ⟨_, i, rfl⟩ | ⟨_, t, rfl⟩ | ⟨_, i, j, e⟩ | ⟨_, i, t, e⟩ | ⟨_, t, i, e⟩ | ⟨_, t, t', e⟩
  · exact atA_of (.inl ⟨i, rfl⟩) r ru
  · exact atA_of (.inr ⟨t, rfl⟩) r ru
  · exact pair _ _ e (.inl ⟨_, rfl⟩) (.inl ⟨_, rfl⟩)
  · exact pair _ _ e (.inl ⟨_, rfl⟩) (.inr ⟨_, rfl⟩)
  · exact pair _ _ e (.inr ⟨_, rfl⟩) (.inl ⟨_, rfl⟩)
  · exact pair _ _ e (.inr ⟨_, rfl⟩) (.inr ⟨_, rfl⟩)
/-- each item's datum and value -/
structure It3 (X : Cx) (n : Nat) (M : MM) (H : Hp) (h : Heap) (its : List Value) (xs : List D) (kd : Value → D) (kv : Value → V) : Prop where
  eq : its.map kd = xs
  rd : ∀ u ∈ its, RD X.K n M H (kd u) (kv u) ∧ RelV (kv u) u ∧ AtD h u (kd u)
theorem it3_of (I : Inv X pins σ H s) {k : Srt} {xs : List D} {vs : List V} {its : List Value} (hk : ∀ d ∈ xs, srtOf d = some k) (rs : RDs X.K n M H xs vs) (rv : L2.Vals vs its) : ∃ kd kv, It3 X n M H s.heap its xs kd kv := by
  classical
  have ex : ∀ {xs : List D} {vs : List V} {its : List Value}, (∀ d ∈ xs, srtOf d = some k) → RDs X.K n M H xs vs → L2.Vals vs its → ∀ u ∈ its, ∃ p : D × V, srtOf p.1 = some k ∧ RD X.K n M H p.1 p.2 ∧ RelV p.2 u := by
    intro xs
    induction xs with
    | nil => intro vs its _ rs rv u hu; cases rs; cases rv; cases hu
    | cons d ds ih =>
      intro vs its hk rs rv u hu
      cases rs with
      | cons a b =>
        cases rv with
        | cons q r =>
          rcases List.mem_cons.mp hu with z | z
          · subst z; exact ⟨(d, _), hk d List.mem_cons_self, a, q⟩
          · exact ih (fun d hd => hk d (List.mem_cons_of_mem _ hd)) b r u z
  let f : Value → D × V := fun u => if h : ∃ p : D × V, srtOf p.1 = some k ∧ RD X.K n M H p.1 p.2 ∧ RelV p.2 u then h.choose else (.non, .non)
  have hf : ∀ u, (∃ p : D × V, srtOf p.1 = some k ∧ RD X.K n M H p.1 p.2 ∧ RelV p.2 u) → srtOf (f u).1 = some k ∧ RD X.K n M H (f u).1 (f u).2 ∧ RelV (f u).2 u := fun u h => by
    have : f u = h.choose := dif_pos h
    rw [this]
    exact h.choose_spec
  have mp : ∀ {xs : List D} {vs : List V} {its : List Value}, (∀ d ∈ xs, srtOf d = some k) → RDs X.K n M H xs vs → L2.Vals vs its → its.map (fun u => (f u).1) = xs := by
    intro xs
    induction xs with
    | nil => intro vs its _ rs rv; cases rs; cases rv; rfl
    | cons d ds ih =>
      intro vs its hk rs rv
      cases rs with
      | @cons _ v _ _ a b =>
        cases rv with
        | @cons _ u _ us q r =>
          have hd := hk d List.mem_cons_self
          obtain ⟨g1, g2, g3⟩ := hf u ⟨(d, v), hd, a, q⟩
          rw [List.map_cons, ih (fun d hd => hk d (List.mem_cons_of_mem _ hd)) b r]
          congr 1
          exact atD_fun g1 hd (atD_of I g1 g2 g3) (atD_of I hd a q)
  refine ⟨fun u => (f u).1, fun u => (f u).2, mp hk rs rv, fun u hu => ?_⟩
  obtain ⟨g1, g2, g3⟩ := hf u (ex hk rs rv u hu)
  exact ⟨g2, g3, atD_of I g1 g2 g3⟩
theorem it3_out {h : Heap} {its out : List Value} {xs : List D} {kd : Value → D} {kv : Value → V} (t : It3 X n M H h its xs kd kv) (hm : ∀ u ∈ out, u ∈ its) : RDs X.K n M H (out.map kd) (out.map kv) ∧ L2.Vals (out.map kv) out := by
  induction out with
  | nil => exact ⟨.nil, .nil⟩
  | cons u r ih =>
    obtain ⟨i1, i2⟩ := ih fun u hu => hm u (List.mem_cons_of_mem _ hu)
    obtain ⟨g1, g2, _⟩ := t.rd u (hm u List.mem_cons_self)
    exact ⟨.cons g1 i1, .cons g2 i2⟩
/-- what a stable sort of the items gives -/
theorem it3_sorted {h : Heap} {its out : List Value} {xs : List D} {kd : Value → D} {kv : Value → V} (t : It3 X n M H h its xs kd kv) (hs : sortable xs = true) (h1 : SrtO.Srtd (fun v u => ltK (kOf (kd v)) (kOf (kd u))) out) (h2 : SrtO.Stb (fun v u => ltK (kOf (kd v)) (kOf (kd u))) out its) : ∃ us, RDs X.K n M H (sortD xs) us ∧ L2.Vals us out := by
  have hm : ∀ u ∈ out, u ∈ its := fun u hu => h2.perm.mem_iff.mp hu
  obtain ⟨g1, g2⟩ := it3_out t hm
  have e : out.map kd = sortD xs := by
    refine sort_uniq hs (SrtO.srtd_map h1) ?_
    rw [← t.eq]
    exact SrtO.Stb.map kOf_swo kd h2
  rw [e] at g1
  exact ⟨_, g1, g2⟩
end
end KW
/-! KwKeysV: sorted(list), sorted(d.keys()), list(d.keys()). -/
namespace KW
open PySem (Str Addr Value Program World Heap Operator CmpOp binaryOp compareOp PyData Scope Const Env Around Shared Tok wpAny wpAny_bind wpAny_mono wpAny_pure model)
open PySem.Spec PyProof.Rows
open L2 (V Hp HO upd upd_same upd_ne upd_upd SqL SqT Rd RelV Mut TE TT TA TS TI TG PI PG WX PE PT PW PA PS PSs Cx Inv OpR UnR CallR MtR IxR SlR TruR VK EP XK rI0)
def rSortD (K : Fr) : List V → Hp → VK → Prop := fun ws H Q => ∃ a vs xs n M, ws = [V.ref a] ∧ SqL K H a vs ∧ RDs K n M H xs vs ∧ sortable xs = true ∧ ∀ us p, RDs K n M H (sortD xs) us → H p = none → Q (.ref p) (upd H p (.lst us))
section
variable {X : Cx}
theorem notTup : (Value.type "list" : Value) ≠ Value.type "tuple" := fun c => absurd (Value.type.inj c) (by decide)
theorem kind_of {xs : List D} (h : sortable xs = true) : ∃ k, ∀ d ∈ xs, srtOf d = some k := by
  rcases sortable_kind h with e | e
  · exact ⟨.i, fun d hd => by rw [e] at hd; cases hd⟩
  · exact e
theorem cr_sortD : CallR X (.builtin "sorted") (rSortD X.K) := by
  intro pins s σ H vs us Q I r h
  obtain ⟨a, ws, xs, n, M, rfl, hs, rs, so, q⟩ := h
  obtain ⟨its, rv, hl, hz⟩ := I.list hs
  rw [L2.Vals.ref1 r]
  obtain ⟨k, hk⟩ := kind_of so
  obtain ⟨kd, kv, t⟩ := it3_of I hk rs rv
  have hkd : ∀ v ∈ its, srtOf (kd v) = some k := fun v hv => hk _ (by rw [← t.eq]; exact List.mem_map.mpr ⟨v, hv, rfl⟩)
  refine SrtO.sorted_ord (ltv := fun v u => ltK (kOf (kd v)) (kOf (kd u))) (slo_K.swo fun v => kOf (kd v)) hl.isList (by rw [← rv.length]; exact hz) (fun h2 h₁ a' ha kk => ?_) fun out h1 h2 => ?_
  · refine sortable_D (s := { s with heap := h₁ }) (k := k) (fun v hv => ⟨hkd v hv, (t.rd v hv).2.2.keeps fun b o e _ => (kk b o e).2⟩) h2 fun o e => ?_
    have e' : some o = some (PyProof.Rows.seqObj "list" its.toArray 0) := e.symm.trans ha
    cases e'
    exact notTup
  · obtain ⟨us, g1, g2⟩ := it3_sorted t so h1 h2
    obtain ⟨ep, he'⟩ := PyProof.Rows.sortedAll_at s.heap its out.toArray
    have hlen : us.length ≤ PySem.sizeLine := by
      rw [g2.length, h2.perm.length_eq, ← rv.length]
      exact hz
    exact ⟨.ref _, upd H (s.heap.objs.size + 1) (.lst us), I.laid (t' := s.toks) (fun _ _ => PyProof.Rows.sortedAll_old) (Nat.le_succ _) ⟨hlen, out, ep, g2, he'⟩, rfl, q _ _ g1 (I.hok.fresh (Nat.le_succ _))⟩
theorem ok_sorted {K : Fr} : Ok1 K .sorted (fun x H Q => rSortD K [x] H Q) := by
  intro M H σ s x vx z Q rt rx hz hq
  obtain ⟨xs, h1, h2⟩ := obind (show (lstOf s.h x).bind oSort = some z from hz)
  obtain ⟨g, h3⟩ := oif (show (if sortable xs = true then newLst (sortD xs) else none) = some z from h2)
  obtain ⟨rfl, _⟩ := newLst_some h3
  obtain ⟨a, vs, rfl, r1, r2⟩ := lst_at rt rx h1
  exact ⟨a, vs, xs, _, M, rfl, .inl r1, r2, g, fun us p hu hp => give_lst rt hu hq p hp⟩
/-! ### the keys of a dict -/
abbrev M0 : MM := ⟨fun _ => default, fun _ => none, none⟩
theorem keys_items {P : Program} {w : World} {kvs : List (L2.Key × Value)} {acc : Array Value} (h : PySem.ItemsOf (fun i v => ∃ k x, kvs[i]? = some (k, x) ∧ (L2.mixKind P w).is k v = true) acc kvs.length) : L2.Vals (kvs.map fun q => L2.kV q.1) acc.toList := by
  obtain ⟨hn, hi⟩ := h
  have go : ∀ (l : List Value) (kvs : List (L2.Key × Value)), l.length = kvs.length → (∀ (j : Nat) (v : Value), l[j]? = some v → ∃ k x, kvs[j]? = some (k, x) ∧ (L2.mixKind P w).is k v = true) → L2.Vals (kvs.map fun q => L2.kV q.1) l := by
    intro l
    induction l with
    | nil => intro kvs hl _; have : kvs = [] := List.eq_nil_of_length_eq_zero hl.symm; subst this; exact .nil
    | cons v l ih =>
      intro kvs hl hv
      cases kvs with
      | nil => cases hl
      | cons q r =>
        obtain ⟨k, x, e1, e2⟩ := hv 0 v rfl
        simp at e1
        refine .cons ?_ (ih r (by simpa using hl) fun j u hu => ?_)
        · rw [e1]; exact L2.relV_key e2
        · obtain ⟨k, x, e1, e2⟩ := hv (j + 1) u (by simpa using hu)
          exact ⟨k, x, by simpa using e1, e2⟩
  exact go acc.toList kvs (by rw [Array.length_toList]; exact hn) fun j v e => hi j v (by rw [← Array.getElem?_toList]; exact e)
theorem keys_rds {K : Fr} {n : Nat} {M : MM} {H : Hp} : ∀ {ks : List Key}, (∀ k ∈ ks, okK k) → RDs K n M H (ks.map keyD) (ks.map fun k => L2.kV (mkey k))
  | [], _ => .nil
  | k :: ks, h => .cons (key_rd (h k List.mem_cons_self)) (keys_rds fun j hj => h j (List.mem_cons_of_mem _ hj))
/-- ints and texts -/
theorem atoms_V {K : Fr} {n : Nat} {M : MM} {H : Hp} : ∀ {xs : List D} {vs : List V}, (∀ d ∈ xs, (keyOf d).isSome = true) → RDs K n M H xs vs → vs = xs.map vOf ∧ ∀ n' M' H', RDs K n' M' H' xs vs
  | _, _, _, .nil => ⟨rfl, fun _ _ _ => .nil⟩
  | _, _, h, .cons a b => by
    obtain ⟨i1, i2⟩ := atoms_V (fun d hd => h d (List.mem_cons_of_mem _ hd)) b
    have hd := h _ List.mem_cons_self
    cases a with
    | int i => exact ⟨by rw [i1]; rfl, fun n' M' H' => .cons (.int i) (i2 n' M' H')⟩
    | str t ht => exact ⟨by rw [i1]; rfl, fun n' M' H' => .cons (.str t ht) (i2 n' M' H')⟩
    | _ => cases hd
theorem keyD_key (ks : List Key) : ∀ d ∈ ks.map keyD, (keyOf d).isSome = true := fun d hd => by
  obtain ⟨k, _, rfl⟩ := List.mem_map.mp hd
  cases k <;> rfl
/-- what list(d.keys()), sorted(d.keys()) ask -/
def tKeysL (te : TE) (f : List D → List D) (ok : List D → Prop) : TE := fun σ H Q => te σ H fun x H1 => ∃ (d : Addr) (gs : List (L2.Key × V)) (ks : List Key), x = .ref d ∧ Rd H1 d (.dK gs) ∧ gs.map (·.1) = ks.map mkey ∧ (∀ k ∈ ks, okK k) ∧ ok (ks.map keyD) ∧ ∀ p, H1 p = none → Q (.ref p) (upd H1 p (.lst ((f (ks.map keyD)).map vOf)))
variable {e : Py} {te : TE} {p apos cpos pos : PySem.Pos}
theorem gs_ks {gs : List (L2.Key × V)} {ks : List Key} (h : gs.map (·.1) = ks.map mkey) : (gs.map fun q => L2.kV q.1) = ks.map fun k => L2.kV (mkey k) := by
  have := congrArg (List.map L2.kV) h
  simpa [List.map_map, Function.comp_def] using this
abbrev KeysR (X : Cx) (fv : Value) (f : List D → List D) (ok : List D → Prop) : Prop := ∀ (pins : List (Addr × PySem.Obj)) (s : Shared) (σ : L2.St) (H : Hp) (Q : VK) (d v : Addr) (gs : List (L2.Key × V)) (ks : List Key), Inv X pins σ H s → Rd H d (.dK gs) → gs.map (·.1) = ks.map mkey → (∀ k ∈ ks, okK k) → ok (ks.map keyD) → PySem.W.KdlKeysView s.heap v d →
      (∀ p, H p = none → Q (.ref p) (upd H p (.lst ((f (ks.map keyD)).map vOf)))) → wpAny (model X.prog X.w) X.A (PySem.call fv [.ref v]) (L2.EP X pins σ Q) X.xe s
theorem keys_arg {f : List D → List D} {ok : List D → Prop} {fv : Value} (r : KeysR X fv f ok) (he : PE X e te) (hbase : PySem.attributeBase e "keys" X.env (PySem.eval e X.env) = PySem.eval e X.env) (hline : (apos.endLine == cpos.line) = true) {pins : List (Addr × PySem.Obj)} {s : Shared} {σ : L2.St} {H : Hp} {Q : VK} (I : Inv X pins σ H s) (hq : tKeysL te f ok σ H Q) :
    wpAny (model X.prog X.w) X.A (PySem.spliced (PySem.backTo pos (PySem.starEach [.Call (.Attribute e "keys" apos) [] [] cpos] X.env))) (fun us s' => wpAny (model X.prog X.w) X.A (PySem.call fv us) (L2.EP X pins σ Q) X.xe s') X.xe s := by
  show wpAny _ _ (PySem.spliced [(false, PySem.eval (.Call (.Attribute e "keys" apos) [] [] cpos) X.env)]) _ _ s
  refine PySem.Calls.spliced_cons ?_
  refine PySem.wpAny_Call_method (T := "dict") (id := "dict.keys") hbase rfl hline PySem.F.plainAttrs_dict PySem.F.slot_dict_keys PySem.F.type_dict_keys (L2.thn (he.run pins s σ H _ I hq) fun u s1 ⟨x, H1, I1, rx, d, gs, ks, ex, hd, h1, h2, h3, q⟩ => ?_)
  subst ex
  obtain rfl : u = Value.ref d := rx
  obtain ⟨hz, hs0, vs, kv, hdo⟩ := L2.dk_rd I1.hok hd
  have I2 : Inv X pins σ H1 { s1 with heap := s1.heap.push { cls := .type "dict_keys", data := .fields #[.ref d] } } := I1.kept (t' := s1.toks) fun b ob q => PySem.Heap.get?_push_of_some _ q
  refine ⟨hdo.typeIs, hdo.mapOf.noDict, ?_⟩
  show wpAny _ _ (PySem.callWith cpos (.builtin "dict.keys") [.ref d] [] []) _ X.xe s1
  refine PySem.method_meetsIn PySem.F.slot_dict_keys PySem.F.entry_dict_keys rfl (PySem.evalArgs_none ⟨rfl, hdo.typeIs, PySem.F.args_dict_keys_1 _, _, PySem.W.kdl_meets_keys (L2.mixKind X.prog X.w) d hs0, ⟨vs, hdo⟩, ?_⟩)
  refine PySem.Calls.spliced_nil ?_
  exact r pins _ σ H1 Q d _ gs ks I2 hd h1 h2 h3 ⟨_, PySem.Heap.get?_push_size _ rfl, rfl, rfl⟩ q
theorem sorted_keysR (hc : X.calm = true) : KeysR X (.builtin "sorted") sortD (fun ds => sortable ds = true) := by
  intro pins s σ H Q d v gs ks I hd h1 h2 h3 hv q
  obtain ⟨hz, hs0, vs, kv, hdo⟩ := L2.dk_rd I.hok hd
  obtain ⟨ep, hat⟩ := hdo.dictAt
  have lk : gs.length = vs.length := kv.length
  have hh := I.ok.hd hc
  refine PySem.Calls.call_function_entry kind_sorted plain_sorted entry_sorted (args_sorted1 _) ?_
  unfold PySem.Builtin.«sorted»
  refine wpAny_bind (m := PySem.checkCount "sorted" 1 1 _) (wpAny_pure ?_)
  refine wpAny_bind (PySem.W.kdu_collect (A := X.A.in1) (PySem.W.kdl_keys (knd := L2.mixKind X.prog X.w) (kvs := vs) (ep := ep)) hh ⟨hv, hat⟩ (by omega) fun h' tk acc hk hacc => ?_)
  have hl : acc.toList.length = vs.length := by rw [Array.length_toList]; exact hacc.1
  refine wpAny_bind (PySem.wpAny_newList ?_ (by rw [hl]; omega))
  have I1 : Inv X pins σ H { s with heap := h', toks := tk } := I.kept hk
  have hoL : (h'.push (PyProof.Rows.seqObj "list" acc.toList.toArray 0)).get? h'.objs.size = some (PyProof.Rows.seqObj "list" acc.toList.toArray 0) := PySem.Heap.get?_push_size _ rfl
  have I2 : Inv X pins σ H { s with heap := h'.push (PyProof.Rows.seqObj "list" acc.toList.toArray 0), toks := tk } := I1.kept (t' := tk) fun b o e => PySem.Heap.get?_push_of_some _ e
  have rv : L2.Vals (ks.map fun k => L2.kV (mkey k)) acc.toList := by
    have := keys_items hacc
    have e : (vs.map fun q => L2.kV q.1) = ks.map fun k => L2.kV (mkey k) := by
      rw [← gs_ks h1]
      have := congrArg (List.map L2.kV) kv.keys
      simpa [List.map_map, Function.comp_def] using this.symm
    rw [e] at this
    exact this
  obtain ⟨k, hkk⟩ := kind_of h3
  obtain ⟨kd, kv2, t⟩ := it3_of (n := 0) (M := M0) I2 hkk (keys_rds h2) rv
  have hkd : ∀ v ∈ acc.toList, srtOf (kd v) = some k := fun v hv => hkk _ (by rw [← t.eq]; exact List.mem_map.mpr ⟨v, hv, rfl⟩)
  refine wpAny_bind (PySem.wpAny_holding (PySem.wpAny_call_entry slot_list_sort ⟨_, hoL, rfl⟩ entry_list_sort (SrtO.list_sort_ord (ltv := fun v u => ltK (kOf (kd v)) (kOf (kd u))) (slo_K.swo fun v => kOf (kd v)) hoL (by rw [hl]; omega)
    (fun g2 => sortable_D (k := k) (fun v hv => ⟨hkd v hv, (t.rd v hv).2.2⟩) g2 fun o e => ?_) fun out hs hb => ⟨_, rfl, ?_⟩) (args_list_sort _)))
  · have e' : some o = some (PyProof.Rows.seqObj "list" acc.toList.toArray 0) := e.symm.trans hoL
    cases e'
    exact notTup
  · obtain ⟨us, g1, g2⟩ := it3_sorted t h3 hs hb
    have hsd : ∀ d ∈ sortD (ks.map keyD), (keyOf d).isSome = true := fun d hd => keyD_key ks d (by
      rw [sort_is (lt := fun x y => ltK (kOf x) (kOf y)) fun x hx y hy => ltD_is (hkk y hy) (hkk x hx)] at hd
      exact (sortB_perm _).mem_iff.mp hd)
    obtain ⟨e1, _⟩ := atoms_V hsd g1
    obtain ⟨ep2, he'⟩ := PyProof.Rows.sortedHeap_at (vs := acc.toList) (out := out.toArray) hoL
    have hlen : us.length ≤ PySem.sizeLine := by
      rw [g2.length, hb.perm.length_eq, hl]
      omega
    refine wpAny_pure ⟨_, rfl, .ref h'.objs.size, upd H h'.objs.size (.lst us), ?_, rfl, ?_⟩
    · refine I1.laid (a := h'.objs.size) (h' := PyProof.Rows.sortedHeap (h'.push (PyProof.Rows.seqObj "list" acc.toList.toArray 0)) h'.objs.size acc.toList out.toArray) (t' := tk) (fun b o e => ?_) (Nat.le_refl _) ⟨hlen, out, ep2, g2, he'⟩
      have hb := PySem.Heap.lt_size e
      rw [PyProof.Rows.sortedHeap_old (Nat.ne_of_lt hb) (by rw [PyProof.Rows.size_push']; exact Nat.lt_succ_of_lt hb)]
      exact PySem.Heap.get?_push_of_some _ e
    · rw [e1]
      exact q _ (I1.hok.fresh (Nat.le_refl _))
end
section
variable {G : Tabs} {X : Cx} {W : WX} {C : CallF} {σ : L2.St} {H : Hp} {Q : VK} {e : Py} {te : TE} {p apos cpos pos : PySem.Pos}
theorem list_keysR (hc : X.calm = true) : KeysR X (.type "list") (fun ds => ds) (fun _ => True) := by
  intro pins s σ H Q d v gs ks I hd h1 h2 h3 hv q
  obtain ⟨hz, hs0, vs, kv, hdo⟩ := L2.dk_rd I.hok hd
  obtain ⟨ep, hat⟩ := hdo.dictAt
  have lk : gs.length = vs.length := kv.length
  have hh := I.ok.hd hc
  refine PySem.W.kdl_call (PySem.W.kdl_keys (knd := L2.mixKind X.prog X.w) (kvs := vs) (ep := ep)) hh ⟨hv, hat⟩ (by omega) fun h' tk acc c hk hS hacc => ?_
  have hl : acc.toList.length = vs.length := by rw [Array.length_toList]; exact hacc.1
  have rv : L2.Vals (ks.map fun k => L2.kV (mkey k)) acc.toList := by
    have := keys_items hacc
    have e : (vs.map fun q => L2.kV q.1) = ks.map fun k => L2.kV (mkey k) := by
      rw [← gs_ks h1]
      have := congrArg (List.map L2.kV) kv.keys
      simpa [List.map_map, Function.comp_def] using this.symm
    rw [e] at this
    exact this
  have e2 : (ks.map fun k => L2.kV (mkey k)) = (ks.map keyD).map vOf := by
    rw [List.map_map]
    refine List.map_congr_left fun k _ => ?_
    cases k <;> rfl
  refine ⟨.ref s.heap.objs.size, upd H s.heap.objs.size (.lst ((ks.map keyD).map vOf)), ?_, rfl, q _ (I.hok.fresh (Nat.le_refl _))⟩
  refine I.laid (a := s.heap.objs.size) (t' := tk) hk (Nat.le_refl _) ⟨?_, acc.toList, c, by rw [← e2]; exact rv, by rw [Array.toArray_toList]; exact hS⟩
  rw [← e2, rv.length, hl]; omega
theorem pe_sortedKeys (hc : X.calm = true) (he : PE X e te) (hg : L2.Gl X (sst "sorted")) (hm : X.mg (sst "sorted") = none) (hbase : PySem.attributeBase e "keys" X.env (PySem.eval e X.env) = PySem.eval e X.env) (hline : (apos.endLine == cpos.line) = true) :
    PE X (.Call (.Name (sst "sorted") p) [.Call (.Attribute e "keys" apos) [] [] cpos] [] pos) (tKeysL te sortD (fun ds => sortable ds = true)) := by
  refine ⟨fun pins s σ H Q I hq => ?_⟩
  refine PySem.wpAny_Call_Name_kw (L2.ld_blt I hg hm (u := .builtin "sorted") rfl ?_ (by decide) (by decide))
  exact PyProof.Rows.callWith_builtin1 (keys_arg (sorted_keysR hc) he hbase hline I hq) rfl rfl
theorem pe_listKeys (hc : X.calm = true) (he : PE X e te) (hg : L2.Gl X (sst "list")) (hm : X.mg (sst "list") = none) (hbase : PySem.attributeBase e "keys" X.env (PySem.eval e X.env) = PySem.eval e X.env) (hline : (apos.endLine == cpos.line) = true) :
    PE X (.Call (.Name (sst "list") p) [.Call (.Attribute e "keys" apos) [] [] cpos] [] pos) (tKeysL te (fun ds => ds) (fun _ => True)) := by
  refine ⟨fun pins s σ H Q I hq => ?_⟩
  refine PySem.wpAny_Call_Name_kw (L2.ld_blt I hg hm (u := .type "list") rfl ?_ (by decide) (by decide))
  exact PyProof.Rows.callWith_type1 (keys_arg (list_keysR hc) he hbase hline I hq) rfl rfl
theorem atoms_rds {K : Fr} {n : Nat} {M : MM} {H : Hp} : ∀ {xs : List D}, (∀ d ∈ xs, ∃ k, d = keyD k ∧ okK k) → RDs K n M H xs (xs.map vOf)
  | [], _ => .nil
  | d :: xs, h => by
    obtain ⟨k, rfl, hk⟩ := h d List.mem_cons_self
    refine .cons ?_ (atoms_rds fun d hd => h d (List.mem_cons_of_mem _ hd))
    cases k with
    | inl i => exact .int i
    | inr t => exact .str t hk
theorem t_keysL {o : Op1} {a : E} {f : List D → List D} {ok : List D → Prop} (ho : ∀ h x z, run1 h o x = some z → ∃ q, dctOf h x = some q ∧ ok (q.2.map fun e => keyD e.1) ∧ newLst (f (q.2.map fun e => keyD e.1)) = some z) (hf : ∀ ds, ok ds → ∀ d ∈ f ds, d ∈ ds) (h : tE X.K W C (.p1 o a) σ H Q) : tKeysL (tE X.K W C a) f ok σ H Q := by
  obtain ⟨M, s, rt, h⟩ := h
  refine ⟨M, s, rt, ?_⟩
  simp only [evalE, pure] at h
  refine h.bind anti_relE (fun z => z) fun x s1 M1 H1 v hx e1 p1 rt1 rl1 h1 => ?_
  obtain ⟨z, ez, hz⟩ := (h1 _ fun z => z).op rt1
  obtain ⟨q, h2, h3, h4⟩ := ho _ _ _ ez
  obtain ⟨rfl, _⟩ := newLst_some h4
  obtain ⟨d, gs, rfl, r1, ko, r2⟩ := dct_at rt1 rl1.1 h2
  have ek : (q.2.map fun e => keyD e.1) = (q.2.map (·.1)).map keyD := by rw [List.map_map]; rfl
  refine ⟨d, gs, q.2.map (·.1), rfl, r1, by rw [r2.keys, List.map_map]; rfl, ko.ok, by rw [← ek]; exact h3, fun p hp => ?_⟩
  rw [← ek]
  refine give_lst rt1 (atoms_rds fun d hd => ?_) hz p hp
  have := hf _ h3 d hd
  rw [ek] at this
  obtain ⟨k, hk, rfl⟩ := List.mem_map.mp this
  exact ⟨k, rfl, ko.ok k hk⟩
theorem mem_sortD {ds : List D} (h : sortable ds = true) {d : D} (hd : d ∈ sortD ds) : d ∈ ds := by
  obtain ⟨k, hk⟩ := kind_of h
  rw [sort_is (lt := fun x y => ltK (kOf x) (kOf y)) fun x hx y hy => ltD_is (hk y hy) (hk x hx)] at hd
  exact (sortB_perm _).mem_iff.mp hd
theorem t_sortedKeys {a : E} (h : tE X.K W C (.p1 .sortedKeys a) σ H Q) : tKeysL (tE X.K W C a) sortD (fun ds => sortable ds = true) σ H Q := by
  refine t_keysL (fun h x z e => ?_) (fun ds h d hd => mem_sortD h hd) h
  obtain ⟨ds, e1, e2⟩ := obind (show (oKeys h x).bind oSort = some z from e)
  obtain ⟨q, e3, rfl⟩ := omap e1
  obtain ⟨g, e4⟩ := oif (show (if sortable _ = true then newLst (sortD _) else none) = some z from e2)
  exact ⟨q, e3, g, e4⟩
theorem t_listKeys {a : E} (h : tE X.K W C (.p1 .listKeys a) σ H Q) : tKeysL (tE X.K W C a) (fun ds => ds) (fun _ => True) σ H Q := by
  refine t_keysL (fun h x z e => ?_) (fun ds h d hd => hd) h
  obtain ⟨ds, e1, e2⟩ := obind (show (oKeys h x).bind newLst = some z from e)
  obtain ⟨q, e3, rfl⟩ := omap e1
  exact ⟨q, e3, trivial, e2⟩
/-! ### d.copy() -/
def tCopy (te : TE) : TE := fun σ H Q => te σ H fun x H1 => ∃ (d : Addr) (gs : List (L2.Key × V)), x = .ref d ∧ Rd H1 d (.dK gs) ∧ ∀ p, H1 p = none → Q (.ref p) (upd H1 p (.dK gs))
theorem pe_copy (he : PE X e te) (hbase : PySem.attributeBase e "copy" X.env (PySem.eval e X.env) = PySem.eval e X.env) (hline : (apos.endLine == cpos.line) = true) : PE X (.Call (.Attribute e "copy" apos) [] [] cpos) (tCopy te) := by
  refine ⟨fun pins s σ H Q I h => ?_⟩
  refine PySem.wpAny_Call_method (T := "dict") (id := "dict.copy") hbase rfl hline PySem.F.plainAttrs_dict PySem.F.slot_dict_copy PySem.F.type_dict_copy (L2.thn (he.run pins s σ H _ I h) fun u s1 ⟨x, H1, I1, rx, d, gs, ex, hd, q⟩ => ?_)
  subst ex
  obtain rfl : u = Value.ref d := rx
  obtain ⟨z, hs, vs, kv, dd⟩ := L2.dk_rd I1.hok hd
  have hl : gs.length = vs.length := kv.length
  refine ⟨dd.typeIs, dd.mapOf.noDict, ?_⟩
  show wpAny _ _ (PySem.callWith cpos (.builtin "dict.copy") [.ref d] [] []) _ X.xe s1
  refine PySem.method_meetsIn PySem.F.slot_dict_copy PySem.F.entry_dict_copy rfl (PySem.evalArgs_none ⟨rfl, dd.typeIs, PySem.F.args_dict_copy_1 _, _, PySem.meets_dict_copy (L2.mixKind X.prog X.w) d hs, ⟨vs, dd, by omega, fun h' d1 d2 keep => ?_⟩⟩)
  exact ⟨.ref s1.heap.objs.size, _, I1.laid (a := s1.heap.objs.size) (o := .dK gs) (t' := s1.toks) keep (Nat.le_refl _) (L2.dk_new z (beq_eq_false_iff_ne.mpr (Ne.symm (Nat.ne_of_lt I1.big))) kv d1), rfl, q _ (I1.hok.fresh (Nat.le_refl _))⟩
theorem t_copy {a : E} (h : tE X.K W C (.p1 .copy a) σ H Q) : tCopy (tE X.K W C a) σ H Q := by
  obtain ⟨M, s, rt, h⟩ := h
  refine ⟨M, s, rt, ?_⟩
  simp only [evalE, pure] at h
  refine h.bind anti_relE (fun z => z) fun x s1 M1 H1 v hx e1 p1 rt1 rl1 h1 => ?_
  obtain ⟨z, ez, hz⟩ := (h1 _ fun z => z).op rt1
  have ez : oCopy x = some z := ez
  have key : ∃ kvs gs d, z = .own (.dct kvs) ∧ v = .ref d ∧ Rd H1 d (.dK gs) ∧ KOk (kvs.map (·.1)) ∧ RG X.K s1.h.length M1 H1 (fun _ sv v => RD X.K s1.h.length M1 H1 (unSV sv) v) (plainEs kvs) gs := by
    cases rl1.1 with
    | own _ hc =>
      cases hc with
      | lst _ _ => simp [oCopy] at ez
      | dct h hk hn hs => simp [oCopy] at ez; subst ez; subst hk; exact ⟨_, _, _, rfl, rfl, h, hn, flat_rg hs⟩
    | pk _ hc =>
      cases hc with
      | lst _ _ => simp [oCopy] at ez
      | dct h hk hn hs => simp [oCopy] at ez; subst ez; subst hk; exact ⟨_, _, _, rfl, rfl, h, hn, flat_rg hs⟩
    | val r =>
      cases r with
      | dct h _ hk hn hs => simp [oCopy] at ez; subst ez; subst hk; exact ⟨_, _, _, rfl, rfl, h, hn, flat_rg hs⟩
      | _ => simp [oCopy] at ez
  obtain ⟨kvs, gs, d, rfl, rfl, r1, ko, rg⟩ := key
  refine ⟨d, gs, rfl, r1, fun p hp => ?_⟩
  obtain ⟨rt', g⟩ := rt1.tmp (o := .dK gs) hp trivial
  refine hz _ _ _ g rt' (.own MM.set_same (rc_dct (.inl upd_same) ko (rg.mono fun _ _ _ q => RD.mono (g.ext.kept rt1.hp.wf) q))) fun c e a z => ?_
  injection z with z
  subst z
  exact hp
/-! ### xs[::-1] -/
theorem t_rev {a : E} (h : tE X.K W C (.p1 .rev a) σ H Q) : L2.tRevL X.K (tE X.K W C a) σ H Q := by
  obtain ⟨M, s, rt, h⟩ := h
  refine ⟨M, s, rt, ?_⟩
  simp only [evalE, pure] at h
  refine h.bind anti_relE (fun z => z) fun x s1 M1 H1 v hx e1 p1 rt1 rl1 h1 => ?_
  obtain ⟨z, ez, hz⟩ := (h1 _ fun z => z).op rt1
  obtain ⟨xs, e2, e3⟩ := obind (show (lstOf s1.h x).bind (fun xs => newLst xs.reverse) = some z from ez)
  obtain ⟨rfl, _⟩ := newLst_some e3
  obtain ⟨d, vs, rfl, r1, r2⟩ := lst_at rt1 rl1.1 e2
  exact ⟨d, vs, rfl, .inl r1, give_lst rt1 r2.rev hz⟩
end
end KW
/-! KwMore: the other terms of one operand. -/
namespace KW
open PySem (Str Addr Value Program World Heap Operator CmpOp binaryOp compareOp PyData Scope Const Env wpAny_bind wpAny_mono)
open PySem.Spec PyProof.Rows
open L2 (V Hp HO upd upd_same upd_ne upd_upd SqL SqT Rd RelV Mut TE TT TA TS TI TG PI PG WX PE PT PW PA PS PSs Cx Inv OpR UnR CallR MtR IxR SlR TruR VK EP XK rI0)
section
variable {G : Tabs} {X : Cx} {W : WX} {C : CallF} {σ : L2.St} {H : Hp} {Q : VK}
theorem vkeys_one {sc : Scope} {n : String} {p c : Py} (h : (match vFn sc p with
    | some (x, [b]) => if decide (x = sst n) then (match vAt b with
      | some (c, m, []) => if decide (m = sst "keys") then some c else none
      | _ => none) else none
    | _ => none) = some c) : ∃ q r p1 p2, p = .Call (.Name (sst n) q) [.Call (.Attribute c (sst "keys") p1) [] [] p2] [] r ∧ glB sc (sst n) = true ∧ baseB c = true ∧ p1.endLine = p2.line := by
  split at h
  · rename_i x b e
    split at h
    · rename_i g
      obtain rfl := of_decide_eq_true g
      obtain ⟨q, r, rfl, g1, _, _⟩ := vFn_eq e
      split at h
      · rename_i c' m e2
        split at h
        · rename_i g2
          injection h with h
          subst h
          obtain rfl := of_decide_eq_true g2
          obtain ⟨p1, p2, rfl, k1, k2, _, _⟩ := vAt_eq e2
          exact ⟨q, r, p1, p2, rfl, g1, k1, k2⟩
        · cases h
      · cases h
    · cases h
  · cases h
theorem isM1_eq {m : Py} (h : isM1 m = true) : ∃ j q r, m = .UnaryOp .USub (.Constant (.int 1) j q) r := by
  unfold isM1 at h
  split at h
  · exact ⟨_, _, _, rfl⟩
  · cases h
theorem p_more {o : Op1} {a : E} {py b : Py} (ev : Ev G X W C) (h : v1 X.env.scope o py = some b) (ih : PE X b (tE X.K W C a)) (hm : isMore o = true) : P2 X W C (.p1 o a) py := by
  cases o with
  | sorted =>
    obtain ⟨q, r, rfl, h2, h3, h4⟩ := vfn_one h
    exact p_fn ev cr_sortD ok_sorted (by decide) rfl h2 h3 h4 ih
  | sortedKeys =>
    obtain ⟨q, r, p1, p2, rfl, g1, g2, g3⟩ := vkeys_one (n := "sorted") h
    exact .of ((pe_sortedKeys ev.calm ih (glB_gl g1) (ev.bl _ (by decide)) (base_ok g2 _ _) (by rw [g3]; exact beq_self_eq_true _)).imp fun _ _ _ q => t_sortedKeys q) isT_call
  | listKeys =>
    obtain ⟨q, r, p1, p2, rfl, g1, g2, g3⟩ := vkeys_one (n := "list") h
    exact .of ((pe_listKeys ev.calm ih (glB_gl g1) (ev.bl _ (by decide)) (base_ok g2 _ _) (by rw [g3]; exact beq_self_eq_true _)).imp fun _ _ _ q => t_listKeys q) isT_call
  | copy =>
    simp only [v1] at h
    split at h
    · rename_i b' m e
      split at h
      · rename_i g
        injection h with h
        subst h
        obtain rfl := of_decide_eq_true g
        obtain ⟨p1, p2, rfl, k1, k2, _, _⟩ := vAt_eq e
        exact .of ((pe_copy ih (base_ok k1 _ _) (by rw [k2]; exact beq_self_eq_true _)).imp fun _ _ _ q => t_copy q) isT_call
      · cases h
    · cases h
  | rev =>
    simp only [v1] at h
    split at h
    · split at h
      · rename_i g
        injection h with h
        subst h
        obtain ⟨j, q, r, rfl⟩ := isM1_eq g
        exact .of ((L2.pe_revL ih).imp fun _ _ _ q => t_rev q) isT_sub
      · cases h
    · cases h
  | _ => first | cases h | cases hm
end
end KW
/-! KwSound: a term that matches a text reads it. -/
namespace KW
open PySem (Str Addr Value Program World Heap Operator CmpOp binaryOp compareOp PyData Scope Const Env wpAny_bind wpAny_mono)
open PySem.Spec PyProof.Rows
open L2 (V Hp HO upd upd_same upd_ne upd_upd SqL SqT Rd RelV Mut TE TT TA TS TI TG PI PG WX PE PT PW PA PS PSs Cx Inv OpR UnR CallR MtR IxR SlR TruR VK EP XK rI0)
theorem isT_plain {p : Py} {env : Env} (h : plainTB p = true) : ∀ whole, PySem.isTrue p env whole = (do let v ← whole; PySem.standAt p.pos; PySem.holding [v] (PySem.truthy v)) := by
  cases p <;> first | (intro _; rfl) | cases h
theorem andT {a b : Bool} (h : (a && b) = true) : a = true ∧ b = true := Bool.and_eq_true_iff.mp h
section
variable {G : Tabs} {X : Cx} {W : WX} {C : CallF}
/-- the context of a comprehension's block -/
theorem Ev.blk (ev : Ev G X W C) {s : PySem.Shared} {H : Hp} {scope : Scope} {ce : Env} {fp : List Addr} : Ev G (X.blk s H scope ce fp) noW C where
  hu := ev.hu
  calm := ev.calm
  nd := ev.nd
  tk := fun u s' ⟨a, B, sI, pins, σ, H, cls, d, e, I, nb, up, sky, na, os, ag, w⟩ => w
  bl := ev.bl
  gl := ev.gl
  tb := ev.tb
  ls := ev.ls
  fs := ev.fs
  cs := ev.cs
  ms := ev.ms
  fl := ev.fl
theorem own_ix {N : List Str} : ∀ {is : List Nat} {own : List (Str × Nat)}, ownOf N is = some own → own.map (·.2) = is
  | [], own, h => by
    simp [ownOf] at h
    subst h
    rfl
  | i :: is, own, h => by
    unfold ownOf at h
    rw [List.mapM_cons] at h
    cases e : N[i]? with
    | none => rw [e] at h; cases h
    | some x =>
      rw [e] at h
      cases e2 : List.mapM (fun i => (N[i]?).map fun x => (x, i)) is with
      | none => rw [e2] at h; cases h
      | some r =>
        rw [e2] at h
        injection h with h
        subst h
        rw [List.map_cons, own_ix (N := N) (is := is) e2]
theorem fold_set {i : Py} {env : Env} (h : noSetB i = true) : ∀ x, PySem.foldedSetIterable i env x = Pure.pure x := by
  intro x
  cases i <;> first | rfl | cases h
theorem mu_eq {o : Mu} {n : Nat} {m : Str} (h : muB o n m = true) : (o = .append ∧ n = 1 ∧ m = sst "append") ∨ (o = .extend ∧ n = 1 ∧ m = sst "extend") ∨ (o = .pop ∧ n = 0 ∧ m = sst "pop") ∨ (o = .popI ∧ n = 1 ∧ m = sst "pop") ∨
    (o = .popK ∧ n = 1 ∧ m = sst "pop") ∨ (o = .popD ∧ n = 2 ∧ m = sst "pop") ∨ (o = .remove ∧ n = 1 ∧ m = sst "remove") ∨ (o = .clear ∧ n = 0 ∧ m = sst "clear") := by
  unfold muB at h
  split at h <;> first | cases h | (obtain rfl := of_decide_eq_true h; simp)

theorem vGl_ne {sc : Scope} {p : Py} {x : String} (h : decide (vGl sc p = some (sst x)) = true) : ∃ q, p = .Name (sst x) q ∧ glB sc (sst x) = true ∧ nameB (sst x) = true := vGl_eq (of_decide_eq_true h)
theorem p_name {i : Nat} {p : Py} (h : mE G X.env.scope X.N (.var i) p = true) : P2 X W C (.var i) p := by
  simp only [mE] at h
  split at h
  · rename_i x e
    obtain ⟨q, rfl⟩ := vName_eq e
    simp only [Bool.and_eq_true, decide_eq_true_eq] at h
    exact .of (p_var h.1.1 h.1.2 h.2) fun _ => rfl
  · cases h
theorem p_const {d : D} {p : Py} (h : mE G X.env.scope X.N (.cst d) p = true) : P2 X W C (.cst d) p := by
  simp only [mE] at h
  split at h
  · rename_i x e
    obtain ⟨j, q, rfl⟩ := vCst_eq e
    exact .of (p_cst h) fun _ => rfl
  · cases h
theorem p_glob {x : String} {d : D} {p : Py} (ev : Ev G X W C) (h : mE G X.env.scope X.N (.glb x d) p = true) : P2 X W C (.glb x d) p := by
  simp only [mE] at h
  obtain ⟨h1, h2⟩ := andT h
  obtain ⟨q, rfl, g1, g2⟩ := vGl_ne h1
  exact .of (p_glb g1 g2 (ev.gl x d h2)) fun _ => rfl
theorem vseq_eq {p : Py} {b : Bool} {xs : List Py} (h : vSeqs p = some (b, xs)) : xs.length < 1000 ∧ xs.all noStarB = true ∧ ((b = true ∧ ∃ k q, p = .Tuple xs k q) ∨ (b = false ∧ ∃ q, p = .List xs q)) := by
  unfold vSeqs at h
  split at h
  · split at h
    · rename_i g
      injection h with h
      injection h with h1 h2
      subst h1 h2
      simp only [Bool.and_eq_true, decide_eq_true_eq] at g
      exact ⟨g.1, g.2, .inl ⟨rfl, _, _, rfl⟩⟩
    · cases h
  · split at h
    · rename_i g
      injection h with h
      injection h with h1 h2
      subst h1 h2
      simp only [Bool.and_eq_true, decide_eq_true_eq] at g
      exact ⟨g.1, g.2, .inr ⟨rfl, _, rfl⟩⟩
    · cases h
  · cases h
theorem vattr_eq {p b : Py} {g : Str} (h : vAttr p = some (b, g)) : ∃ q, p = .Attribute b g q ∧ baseB b = true := by
  unfold vAttr at h
  split at h
  · split at h
    · rename_i g
      injection h with h
      injection h with h1 h2
      subst h1 h2
      exact ⟨_, rfl, g⟩
    · cases h
  · cases h
theorem mEs_len : ∀ {es : List E} {xs : List Py} {sc : Scope} {N : List Str}, mEs G sc N es xs = true → es.length = xs.length
  | [], xs, _, _, h => by
    simp only [mEs] at h
    cases xs with
    | nil => rfl
    | cons _ _ => cases h
  | e :: es, xs, sc, N, h => by
    cases xs with
    | nil => simp [mEs] at h
    | cons x xs =>
      simp only [mEs] at h
      rw [List.length_cons, List.length_cons, mEs_len (andT h).2]
/-- a list of terms -/
theorem p_list {es : List E} (ih : ∀ e ∈ es, ∀ p, mE G X.env.scope X.N e p = true → P2 X W C e p) : ∀ {xs : List Py}, xs.all noStarB = true → mEs G X.env.scope X.N es xs = true → PA X xs (tEs X.K W C es) := by
  induction es with
  | nil =>
    intro xs hs h
    have := mEs_len h
    cases xs with
    | nil => exact pa_nil
    | cons _ _ => cases this
  | cons e es ihs =>
    intro xs hs h
    cases xs with
    | nil => simp [mEs] at h
    | cons x xs =>
      simp only [mEs] at h
      obtain ⟨h1, h2⟩ := andT h
      obtain ⟨g1, g2⟩ := andT (show (noStarB x && xs.all noStarB) = true from hs)
      exact pa_cons g1 (ih e List.mem_cons_self x h1).v (ihs (fun e' he' => ih e' (List.mem_cons_of_mem _ he')) g2 h2)
theorem p_comp {is : List Nat} {it : It} {cs : List E} {e : E} {p : Py} (ev : Ev G X W C) (h : mE G X.env.scope X.N (.comp is it cs e) p = true)
    (ii : ∀ tg i, nk it = true → mI G X.env.scope X.N it i = true → PI X tg i (tI X.K W C it)) (ic : ∀ (X' : Cx) (x : Py) (c : E), c ∈ cs → Ev G X' noW C → mE G X'.env.scope X'.N c x = true → P2 X' noW C c x) (ie : ∀ (X' : Cx) (x : Py), Ev G X' noW C → mE G X'.env.scope X'.N e x = true → P2 X' noW C e x) : P2 X W C (.comp is it cs e) p := by
  simp only [mE] at h
  split at h
  · rename_i b i fs s2 e0
    obtain ⟨h12, h3⟩ := andT h
    obtain ⟨h1, h2⟩ := andT h12
    unfold vComp at e0
    split at e0
    · rename_i b' t i' fs' a scope pos
      split at e0
      · rename_i g
        injection e0 with e0
        injection e0 with z1 e0
        injection e0 with z2 e0
        injection e0 with z3 z4
        subst z1 z2 z3 z4
        simp only [Bool.and_eq_true, decide_eq_true_eq] at g
        obtain ⟨⟨g1, g2⟩, g3⟩ := g
        subst g1
        unfold blkB at g3
        split at g3
        · rename_i own eo
          obtain ⟨g4, g5⟩ := andT g3
          have hix := own_ix eo
          have tgi : tgIs is := by
            unfold tgtB at g5
            split at g5
            · exact .inl ⟨_, rfl⟩
            · simp only [Bool.and_eq_true, decide_eq_true_eq] at g5
              exact .inr ⟨_, _, rfl, g5.2⟩
            · cases g5
          have pg : ∀ (s : PySem.Shared) (H : Hp) (cl : List (Str × Addr)) (D : Addr) (fp : List Addr), PG (X.blk s H scope (PySem.compEnvC scope cl D X.env) fp) t (tG X.K is) := fun s H cl D fp => (p_tgt (X := X.blk s H scope (PySem.compEnvC scope cl D X.env) fp) ev.calm ev.nd g5).1
          have pt : ∀ (s : PySem.Shared) (H : Hp) (cl : List (Str × Addr)) (D : Addr) (fp : List Addr), L2.PTs (X.blk s H scope (PySem.compEnvC scope cl D X.env) fp) fs' (tTs X.K C cs) := fun s H cl D fp => by
            cases cs with
            | nil =>
              simp only [mC] at h2
              cases fs' with
              | nil => exact pts_none
              | cons _ _ => cases h2
            | cons c cs =>
              simp only [mC] at h2
              split at h2
              · obtain ⟨k1, k2⟩ := andT h2
                cases cs with
                | cons _ _ => cases k2
                | nil => exact pts_some (ic _ _ c List.mem_cons_self ev.blk k1).t
              · cases h2
          have pe : ∀ (s : PySem.Shared) (H : Hp) (cl : List (Str × Addr)) (D : Addr) (fp : List Addr), PE (X.blk s H scope (PySem.compEnvC scope cl D X.env) fp) b' (tD X.K noW C e) := fun s H cl D fp => (ie _ _ ev.blk h3).v.imp fun _ _ _ q => t_D q
          by_cases hn : nk it = true
          · refine .of ((L2.pe_lc (g := tG X.K is) (tt := tTs X.K C cs) (te := tD X.K noW C e) ev.calm ev.nd (ii _ _ hn h1) (L2.blkOk_by g4) (fun s H D cl fp => pg s H cl D fp) (fun s H D cl fp => pt s H cl D fp) (fun s H D cl fp => pe s H cl D fp) (fold_set g2)).imp fun σ H Q q => ?_) fun _ => rfl
            rw [hix]
            exact t_comp tgi q
          · cases it with
            | keys e0 =>
              simp only [mI] at h1
              split at h1
              · rename_i b0 hk
                obtain ⟨j1, j2⟩ := andT h1
                refine .of ((pe_orLock (L2.pe_lc (g := tG X.K is) (tt := tTs X.K C cs) (te := tD X.K noW C e) ev.calm ev.nd (pi_keysE j1 hk j2) (L2.blkOk_by g4) (fun s H D cl fp => pg s H cl D fp) (fun s H D cl fp => pt s H cl D fp) (fun s H D cl fp => pe s H cl D fp) (fold_set g2))).imp fun σ H Q q => ?_) fun _ => rfl
                rw [hix]
                exact t_keysComp tgi j1 ev.fl j2 q
              · cases h1
            | vals e0 => simp [mI] at h1
            | _ => exact absurd rfl hn
        · cases g3
      · cases e0
    · cases e0
  · cases h
end
end KW
set_option maxHeartbeats 2000000
/-! KwAll: every term that matches. -/
namespace KW
open PySem (Str Addr Value Program World Heap Operator CmpOp binaryOp compareOp PyData Scope Const Env wpAny_bind wpAny_mono)
open PySem.Spec PyProof.Rows
open L2 (V Hp HO upd upd_same upd_ne upd_upd SqL SqT Rd RelV Mut TE TT TA TS TI TG PI PG WX PE PT PW PA PS PSs Cx Inv OpR UnR CallR MtR IxR SlR TruR VK EP XK rI0)
section
variable {G : Tabs} {C : CallF}
theorem len_two {α : Type} {l : List α} (h : l.length = 2) : ∃ a b, l = [a, b] := by
  cases l with
  | nil => cases h
  | cons a r => cases r with
    | nil => cases h
    | cons b r => cases r with
      | nil => exact ⟨a, b, rfl⟩
      | cons _ _ => simp at h
theorem t_slBoth {K : Fr} {W : WX} {σ : L2.St} {H : Hp} {Q : VK} {a b c : E} (h : tE K W C (.p3 .slBoth a b c) σ H Q) : L2.tSl (rSl K) (tE K W C a) (L2.tPart (tE K W C b)) (L2.tPart (tE K W C c)) σ H Q := by
  obtain ⟨M, s, rt, h⟩ := h
  refine ⟨M, s, rt, ?_⟩
  simp only [evalE, pure] at h
  have pp : (pure a && pure b && pure c) = true → pure a = true ∧ pure b = true ∧ pure c = true := fun z => by
    simp only [Bool.and_eq_true] at z
    exact ⟨z.1.1, z.1.2, z.2⟩
  refine h.bind anti_relE (fun z => (pp z).1) fun x s1 M1 H1 v hx e1 p1 rt1 rl1 k1 => ?_
  have k1 := k1 (pure b && pure c) fun z => by rw [(pp z).2.1, (pp z).2.2]; rfl
  by_cases g0 : ((isPk x && !(pure b && pure c)) || !recv3 s1.h .slBoth x) = true
  · rw [if_pos g0] at k1; exact k1.2.elim
  rw [if_neg g0] at k1
  have g : ¬ (isPk x && !(pure b && pure c)) = true := fun z => g0 (Bool.or_eq_true_iff.mpr (.inl z))
  refine ⟨M1, s1, rt1, k1.bind anti_relE (fun z => (Bool.and_eq_true_iff.mp z).1) fun y s2 M2 H2 u hy e2 p2 rt2 rl2 k2 => ?_⟩
  have k2 := k2 (pure c) fun z => (Bool.and_eq_true_iff.mp z).2
  by_cases gy : ((isPk y && !pure c) || !recv3b .slBoth y) = true
  · rw [if_pos gy] at k2; exact k2.2.elim
  rw [if_neg gy] at k2
  have rx : RR K s2.h.length M2 H2 x v := by
    cases q : isPk x with
    | false => exact rl1.1.mono rt1.hp.wf e2 q
    | true =>
      have pb : (pure b && pure c) = true := by cases z : (pure b && pure c) with
        | true => rfl
        | false => exact absurd (by rw [q, z]; rfl) g
      obtain ⟨es, gr⟩ := p2 (Bool.and_eq_true_iff.mp pb).1
      rw [es]
      exact rl1.1.grow rt1.hp.wf gr
  have tail : ∀ k : Int, y = .val (.int k) → tE K W C c σ H2 fun w H3 => ∃ j, w = .int j ∧ rSl K v (some k) (some j) H3 Q := fun k ek => by
    subst ek
    refine ⟨M2, s2, rt2, k2.bind anti_relE (fun z => z) fun z s3 M3 H3 w hz e3 p3 rt3 rl3 k3 => ?_⟩
    obtain ⟨zz, ez, hzz⟩ := (k3 _ fun z => z).op rt3
    obtain ⟨i1, f1, f2⟩ := obind (show (part (.val (.int k))).bind (fun i => (part z).bind fun j => runCut s3.h x i j) = some zz from ez)
    obtain ⟨j1, f3, f4⟩ := obind f2
    obtain ⟨j, rfl, rfl⟩ := part_some f3
    injection f1 with f1
    subst f1
    cases int_at rl3.1
    refine ⟨j, rfl, ok_cut rt3 ?_ f4 hzz⟩
    cases q : isPk x with
    | false => exact rx.mono rt2.hp.wf e3 q
    | true =>
      have pb : (pure b && pure c) = true := by cases z : (pure b && pure c) with
        | true => rfl
        | false => exact absurd (by rw [q, z]; rfl) g
      obtain ⟨es, gr⟩ := p3 (Bool.and_eq_true_iff.mp pb).2
      rw [es]
      exact rx.grow rt2.hp.wf gr
  have gi : ∃ k, y = .val (.int k) := by
    have : recv3b .slBoth y = true := by
      cases z : recv3b .slBoth y with
      | true => rfl
      | false => exact absurd (Bool.or_eq_true_iff.mpr (.inr (by rw [z]; rfl))) gy
    cases y with
    | val d => cases d <;> first | exact ⟨_, rfl⟩ | cases this
    | _ => cases this
  obtain ⟨k, rfl⟩ := gi
  have hu : u = .int k := int_at rl2.1
  exact ⟨k, hu, tail k rfl⟩
theorem p_slBoth {X : Cx} {W : WX} {a b c : E} {p d e f : Py} (ev : Ev G X W C) (h : v3 .slBoth p = some (d, e, f)) (ha : PE X d (tE X.K W C a)) (hb : PE X e (tE X.K W C b)) (hc : PE X f (tE X.K W C c)) : P2 X W C (.p3 .slBoth a b c) p := by
  simp only [v3] at h
  split at h
  · injection h with h
    injection h with h1 h
    injection h with h2 h3
    subst h1 h2 h3
    exact .of ((L2.pe_slice sl_all ha (L2.po_some hb) (L2.po_some hc)).imp fun _ _ _ q => t_slBoth q) isT_sub
  · cases h
theorem t_dnew {K : Fr} {W : WX} {σ : L2.St} {H : Hp} {Q : VK} (h : tE K W C (.dct [] []) σ H Q) : L2.tDNewK σ H Q := by
  obtain ⟨M, s, rt, h⟩ := h
  intro p hp
  obtain ⟨rt', g⟩ := rt.tmp (o := .dK []) hp trivial
  have h : OutR K W (relE K) M H σ s true (.ok (.own (.dct [])) s) Q := by simpa [evalE, evalEs, KW.pure, pures] using h
  refine h.2 _ _ _ g.ext (fun _ => ⟨rfl, g⟩) rt' ⟨.own MM.set_same (.dct (ks := []) (vs := []) (.inl (by simpa using upd_same)) rfl .nil .nil), fun c e a z => ?_⟩
  injection z with z
  subst z
  exact hp
theorem p_dctN {X : Cx} {W : WX} {ks : List D} {es : List E} {p : Py} {kys : List (Option Py)} {xs : List Py} (ev : Ev G X W C) (h : vDct p = some (kys, xs)) (h0 : kys ≠ []) (hk : vKs ks kys = true) (hks : (ks.all fun d => (keyOf d).isSome) = true) (hl : kys.length = xs.length) (hx : ∀ e ∈ es, ∀ p, mE G X.env.scope X.N e p = true → P2 X W C e p) (hm : mEs G X.env.scope X.N es xs = true) : P2 X W C (.dct ks es) p := by
  unfold vDct at h
  split at h
  · split at h
    · rename_i g
      injection h with h
      injection h with h1 h2
      subst h1 h2
      have g := of_decide_eq_true g
      obtain ⟨l1, l2⟩ := vks_ok hk
      have l3 := mEs_len hm
      refine .of ((L2.pe_disp (p_pairs hk (fun d hd => List.all_eq_true.mp hks d hd) hm hl hx) (vks_some hk) hl h0 (by omega)).imp fun σ H Q q => t_dct (by omega) (by omega) l2 q fun d hd => List.all_eq_true.mp hks d hd) fun _ => rfl
    · cases h
  · cases h
theorem p_dct {X : Cx} {W : WX} {ks : List D} {es : List E} {p : Py} {kys : List (Option Py)} {xs : List Py} (ev : Ev G X W C) (h : vDct p = some (kys, xs)) (hk : vKs ks kys = true) (hks : (ks.all fun d => (keyOf d).isSome) = true) (hl : kys.length = xs.length) (hx : ∀ e ∈ es, ∀ p, mE G X.env.scope X.N e p = true → P2 X W C e p) (hm : mEs G X.env.scope X.N es xs = true) : P2 X W C (.dct ks es) p := by
  cases kys with
  | cons k kys => exact p_dctN ev h (by intro z; cases z) hk hks hl hx hm
  | nil =>
    have hx0 : xs = [] := List.eq_nil_of_length_eq_zero hl.symm
    subst hx0
    have he0 : es = [] := List.eq_nil_of_length_eq_zero (mEs_len hm)
    subst he0
    cases ks with
    | cons d ds => cases hk
    | nil =>
      unfold vDct at h
      split at h
      · split at h
        · injection h with h
          injection h with h1 h2
          subst h1 h2
          exact .of (L2.pe_dnewK.imp fun _ _ _ q => t_dnew q) fun _ => rfl
        · cases h
      · cases h
theorem vIn_eq {sc : Scope} {x : String} {p b : Py} (h : vIn sc x p = some b) : ∃ q r, p = .Compare b [.In] [.Name (sst x) q] r ∧ glB sc (sst x) = true ∧ nameB (sst x) = true := by
  unfold vIn at h
  split at h
  · rename_i b' c e
    split at h
    · rename_i g
      injection h with h
      subst h
      obtain ⟨q, rfl, g1, g2⟩ := vGl_ne g
      obtain ⟨r, rfl, _⟩ := vCmp_eq e
      exact ⟨q, r, rfl, g1, g2⟩
    · cases h
  · cases h
theorem t_gIn {K : Fr} {W : WX} {σ : L2.St} {H : Hp} {Q : VK} {x : String} {kvs : List (T × D)} {e : E} {d : Addr} (ht : ∀ t : T, match tfind t kvs with
    | some dd => ∃ u v, PySem.W.nsIn K d (mst t) = some (some u) ∧ RelV v u ∧ ∀ n M H, RD K n M H dd v
    | none => PySem.W.nsIn K d (mst t) = some none) (h : tE K W C (.gIn x kvs e) σ H Q) :
    L2.tOp (fun x y H Q => ∃ (z : Str) (r : Option Value), x = .str z ∧ y = .ref d ∧ PySem.W.nsIn K d z = some r ∧ Q (.bl r.isSome) H) (tE K W C e) (L2.tC (.ref d)) σ H Q := by
  obtain ⟨M, s, rt, h⟩ := h
  refine ⟨M, s, rt, ?_⟩
  simp only [evalE, pure] at h
  refine h.bind anti_relE (fun z => z) fun y s1 M1 H1 v hx e1 p1 rt1 rl1 k1 => ?_
  have k1 := k1 true fun _ => rfl
  split at k1
  · rename_i t _
    obtain ⟨rfl, _⟩ := str_at rl1.1
    have q := ht t
    have fin : ∀ b : Bool, b = (tfind t kvs).isSome → Q (.bl b) H1 := fun b eb => by
      rw [← eb] at k1
      exact k1.2 M1 H1 (.bl b) .refl (fun _ => ⟨rfl, .refl⟩) rt1 ⟨.val (.bl b), fun c z => by cases z⟩
    cases z : tfind t kvs with
    | none => rw [z] at q; exact ⟨_, none, rfl, rfl, q, fin _ (by rw [z]; rfl)⟩
    | some dd =>
      rw [z] at q
      obtain ⟨u, w, q1, _⟩ := q
      exact ⟨_, some u, rfl, rfl, q1, fin _ (by rw [z]; rfl)⟩
  · exact k1.2.elim
theorem bl_gIn {x : String} {kvs : List (T × D)} {e : E} : ∀ s y s', evalE C (.gIn x kvs e) s = .ok y s' → ∃ k, y = .val (.bl k) := fun s y s' h => by
  simp only [evalE] at h
  obtain ⟨u, s1, _, h⟩ := bind_is h
  split at h
  · cases h; exact ⟨_, rfl⟩
  · cases h
theorem p_gIn {X : Cx} {W : WX} {x : String} {kvs : List (T × D)} {e : E} {p b : Py} (ev : Ev G X W C) (h : vIn X.env.scope x p = some b) (ht : (G.tb.any fun q => q.1 == x && beqTs q.2 kvs) = true) (he : PE X b (tE X.K W C e)) : P2 X W C (.gIn x kvs e) p := by
  obtain ⟨d, es, n, m1, kd, tt⟩ := ev.tb x kvs ht
  obtain ⟨q, r, rfl, g1, g2⟩ := vIn_eq h
  have hn : PE X (.Name (sst x) q) (L2.tC (.ref d)) := L2.pe_glob (glB_gl g1) m1 rfl (nameB_ne g2).1
  exact ⟨(L2.pe_cmpR (L2.op_in_kd kd) he hn rfl).imp fun _ _ _ q => t_gIn tt q, (L2.pt_cmpR (L2.op_in_kd kd) he hn rfl).imp fun σ H Q q => by
    obtain ⟨M, s, rt, k⟩ := t_gIn tt (t_test bl_gIn q)
    exact ⟨M, s, rt, k⟩⟩
theorem t_gIdx {K : Fr} {W : WX} {w : World} {σ : L2.St} {H : Hp} {Q : VK} {x : String} {kvs : List (T × D)} {e : E} {d : Addr} {es : Array PySem.DictEntry} {n : Nat} (kd : L2.KDict K w d es n) (ht : ∀ t : T, match tfind t kvs with
    | some dd => ∃ u v, PySem.W.nsIn K d (mst t) = some (some u) ∧ RelV v u ∧ ∀ n M H, RD K n M H dd v
    | none => PySem.W.nsIn K d (mst t) = some none) (h : tE K W C (.gIdx x kvs e) σ H Q) :
    L2.tOp (L2.rIxD K w) (L2.tC (.ref d)) (tE K W C e) σ H Q := by
  obtain ⟨M, s, rt, h⟩ := h
  refine ⟨M, s, rt, ?_⟩
  simp only [evalE, pure] at h
  refine h.bind anti_relE (fun z => z) fun y s1 M1 H1 v hx e1 p1 rt1 rl1 k1 => ?_
  have k1 := k1 true fun _ => rfl
  split at k1
  · rename_i t _
    obtain ⟨rfl, _⟩ := str_at rl1.1
    have q := ht t
    cases z : tfind t kvs with
    | none => rw [z] at k1; exact k1.2.elim
    | some dd =>
      rw [z] at q k1
      obtain ⟨u, v, q1, q2, q3⟩ := q
      exact ⟨d, _, v, rfl, rfl, ⟨es, n, u, kd.at_, kd.lit, q1, q2⟩, k1.2 M1 H1 v .refl (fun _ => ⟨rfl, .refl⟩) rt1 ⟨.val (q3 _ _ _), fun c z => by cases z⟩⟩
  · exact k1.2.elim
theorem p_gIdx {X : Cx} {W : WX} {x : String} {kvs : List (T × D)} {e : E} {p b : Py} (ev : Ev G X W C) (h : vGIdx X.env.scope x p = some b) (ht : (G.tb.any fun q => q.1 == x && beqTs q.2 kvs) = true) (he : PE X b (tE X.K W C e)) : P2 X W C (.gIdx x kvs e) p := by
  obtain ⟨d, es, n, m1, kd, tt⟩ := ev.tb x kvs ht
  unfold vGIdx at h
  split at h
  · rename_i c b' e0
    split at h
    · rename_i g
      injection h with h
      subst h
      obtain ⟨q, rfl, g1, g2⟩ := vGl_ne g
      obtain ⟨r, rfl, hs⟩ := vSub_eq e0
      have hn : PE X (.Name (sst x) q) (L2.tC (.ref d)) := L2.pe_glob (glB_gl g1) m1 rfl (nameB_ne g2).1
      exact .of ((L2.pe_ix L2.ix_kdict hn he (plainIx hs)).imp fun _ _ _ q => t_gIdx kd tt q) isT_sub
    · cases h
  · cases h
theorem strs_rd {K : Fr} {n : Nat} {M : MM} {H : Hp} : ∀ {ts : List T}, (∀ t ∈ ts, okT t) → RDs K n M H (ts.map D.str) ((ts.map mst).map V.str)
  | [], _ => .nil
  | t :: ts, h => .cons (.str t (h t List.mem_cons_self)) (strs_rd fun u hu => h u (List.mem_cons_of_mem _ hu))
theorem strs_flat : ∀ ts : List T, (ts.map D.str).all flat = true
  | [] => rfl
  | _ :: ts => by rw [List.map_cons, List.all_cons, strs_flat ts]; rfl
theorem strs_any (t : T) : ∀ ts : List T, ((ts.map D.str).any fun z => deq z (.str t)) = decide (t ∈ ts)
  | [] => rfl
  | u :: ts => by
    rw [List.map_cons, List.any_cons, strs_any t ts]
    by_cases e : u = t
    · subst e; simp [deq]
    · have e2 : ¬ t = u := fun z => e z.symm
      simp [deq, e, e2]
theorem t_inL {K : Fr} {W : WX} {σ : L2.St} {H : Hp} {Q : VK} {x : String} {ts : List T} {e : E} {a : Addr} (ho : ∀ t ∈ ts, okT t) (hl : ∀ H, SqL K H a ((ts.map mst).map V.str)) (h : tE K W C (.inL x ts e) σ H Q) :
    L2.tOp (rInAll K) (tE K W C e) (L2.tC (.ref a)) σ H Q := by
  obtain ⟨M, s, rt, h⟩ := h
  refine ⟨M, s, rt, ?_⟩
  simp only [evalE, pure] at h
  refine h.bind anti_relE (fun z => z) fun y s1 M1 H1 v hx e1 p1 rt1 rl1 k1 => ?_
  have k1 := k1 true fun _ => rfl
  split at k1
  · rename_i t _
    have hx : RD K s1.h.length M1 H1 (.str t) v := by
      cases rl1.1 with
      | val r => exact r
    have r2 : RDs K s1.h.length M1 H1 (ts.map D.str) ((ts.map mst).map V.str) := strs_rd ho
    have ea := any_inV (d := .str t) rfl hx (strs_flat ts) r2
    rw [strs_any] at ea
    refine .inr (.inl ⟨a, _, rfl, .inl (hl H1), flat_flatV (d := .str t) rfl hx, flats_flatV (strs_flat ts) r2, ?_⟩)
    rw [ea]
    exact k1.2 M1 H1 _ .refl (fun _ => ⟨rfl, .refl⟩) rt1 ⟨.val (.bl _), fun c z => by cases z⟩
  · exact k1.2.elim
theorem bl_inL {x : String} {ts : List T} {e : E} : ∀ s y s', evalE C (.inL x ts e) s = .ok y s' → ∃ k, y = .val (.bl k) := fun s y s' h => by
  simp only [evalE] at h
  obtain ⟨u, s1, _, h⟩ := bind_is h
  split at h
  · cases h; exact ⟨_, rfl⟩
  · cases h
theorem p_inL {X : Cx} {W : WX} {x : String} {ts : List T} {e : E} {p b : Py} (ev : Ev G X W C) (h : vIn X.env.scope x p = some b) (ht : (G.ls.any fun q => q.1 == x && decide (q.2 = ts)) = true) (he : PE X b (tE X.K W C e)) : P2 X W C (.inL x ts e) p := by
  obtain ⟨a, m1, m2, m3⟩ := ev.ls x ts ht
  obtain ⟨q, r, rfl, g1, g2⟩ := vIn_eq h
  have hn : PE X (.Name (sst x) q) (L2.tC (.ref a)) := L2.pe_glob (glB_gl g1) m1 rfl (nameB_ne g2).1
  exact ⟨(L2.pe_cmpR (op_inAll ev.hu) he hn rfl).imp fun _ _ _ q => t_inL m2 m3 q, (L2.pt_cmpR (op_inAll ev.hu) he hn rfl).imp fun σ H Q q => by
    obtain ⟨M, s, rt, k⟩ := t_inL m2 m3 (t_test bl_inL q)
    exact ⟨M, s, rt, k⟩⟩
theorem p_itRest {X : Cx} {W : WX} : True := trivial
mutual
theorem sE : ∀ (e : E) (X : Cx) (W : WX) (p : Py), Ev G X W C → mE G X.env.scope X.N e p = true → P2 X W C e p
  | .var i, X, W, p, ev, h => p_name h
  | .cst d, X, W, p, ev, h => p_const h
  | .glb x d, X, W, p, ev, h => p_glob ev h
  | .p1 o a, X, W, p, ev, h => by
    simp only [mE] at h
    split at h
    · rename_i b e
      have ih := (sE a X W b ev h).v
      exact p_one ev e ih (p_more ev e ih)
    · cases h
  | .p2 o a b, X, W, p, ev, h => by
    simp only [mE] at h
    split at h
    · rename_i c d e
      obtain ⟨h1, h2⟩ := andT h
      exact p_two ev e (sE a X W c ev h1).v (sE b X W d ev h2).v
    · cases h
  | .p3 o a b c, X, W, p, ev, h => by
    simp only [mE] at h
    split at h
    · rename_i d e f q
      obtain ⟨h12, h3⟩ := andT h
      obtain ⟨h1, h2⟩ := andT h12
      cases o with
      | slBoth => exact p_slBoth ev q (sE a X W d ev h1).v (sE b X W e ev h2).v (sE c X W f ev h3).v
      | dget => exact p_dget ev q (sE a X W d ev h1).v (sE b X W e ev h2).v (sE c X W f ev h3).v
    · cases h
  | .tup es, X, W, p, ev, h => by
    simp only [mE] at h
    split at h
    · rename_i xs e
      obtain ⟨h1, h2, h3⟩ := vseq_eq e
      rcases h3 with ⟨_, k, q, rfl⟩ | ⟨h3, _⟩
      · exact p_tup (by rw [mEs_len h]; exact h1) (p_list (fun e he p hp => sEs es X W ev e he p hp) h2 h)
      · cases h3
    · cases h
  | .lst es, X, W, p, ev, h => by
    simp only [mE] at h
    split at h
    · rename_i xs e
      obtain ⟨h1, h2, h3⟩ := vseq_eq e
      rcases h3 with ⟨h3, _⟩ | ⟨_, q, rfl⟩
      · cases h3
      · exact p_lst (p_list (fun e he p hp => sEs es X W ev e he p hp) h2 h)
    · cases h
  | .dct ks es, X, W, p, ev, h => by
    simp only [mE] at h
    split at h
    · rename_i kys xs e
      obtain ⟨h123, h3⟩ := andT h
      obtain ⟨h12, h2⟩ := andT h123
      obtain ⟨h1, h1b⟩ := andT h12
      exact p_dct ev e h1 h1b (of_decide_eq_true h2) (fun e he p hp => sEs es X W ev e he p hp) h3
    · cases h
  | .fld cs e f, X, W, p, ev, h => by
    simp only [mE] at h
    split at h
    · rename_i b g q
      obtain ⟨h12, h3⟩ := andT h
      obtain ⟨h1, h2⟩ := andT h12
      obtain rfl := of_decide_eq_true h1
      obtain ⟨r, rfl, hb⟩ := vattr_eq q
      exact p_fld (fun c hc => ev.fl c f (List.all_eq_true.mp h2 c (by simpa using hc))) hb (sE e X W b ev h3).v
    · cases h
  | .and a b, X, W, p, ev, h => by
    simp only [mE] at h
    split at h
    · rename_i x y q
      obtain ⟨h1, h2⟩ := andT h
      exact p_and q (sE a X W x ev h1) (sE b X W _ ev h2)
    · cases h
  | .or a b, X, W, p, ev, h => by
    simp only [mE] at h
    split at h
    · rename_i x y q
      obtain ⟨h1, h2⟩ := andT h
      exact p_or q (sE a X W x ev h1) (sE b X W _ ev h2)
    · cases h
  | .not a, X, W, p, ev, h => by
    simp only [mE] at h
    split at h
    · rename_i b q
      unfold vNot at q
      split at q
      · injection q with q
        subst q
        exact p_not (sE a X W _ ev h)
      · cases q
    · cases h
  | .ife c a b, X, W, p, ev, h => by
    simp only [mE] at h
    split at h
    · rename_i x y z q
      obtain ⟨h12, h3⟩ := andT h
      obtain ⟨h1, h2⟩ := andT h12
      unfold vIf at q
      split at q
      · injection q with q
        injection q with q1 q
        injection q with q2 q3
        subst q1 q2 q3
        exact p_ife (sE c X W _ ev h1) (sE a X W _ ev h2) (sE b X W _ ev h3)
      · cases q
    · cases h
  | .chain o o2 a b c, X, W, p, ev, h => by
    simp only [mE] at h
    split at h
    · rename_i x y z q
      obtain ⟨h12, h3⟩ := andT h
      obtain ⟨h1, h2⟩ := andT h12
      exact p_chain ev q (sE a X W _ ev h1).v (sE b X W _ ev h2).v (sE c X W _ ev h3).v
    · cases h
  | .call f es, X, W, p, ev, h => by
    simp only [mE] at h
    split at h
    · rename_i x xs q
      obtain ⟨h12, h3⟩ := andT h
      obtain ⟨h1, h2⟩ := andT h12
      obtain rfl := of_decide_eq_true h1
      obtain ⟨q1, q2, rfl, g1, g2, g3⟩ := vFn_eq q
      have hl := mEs_len h3
      cases xs with
      | nil =>
        cases es with
        | nil => exact p_call0 ev h2 g1 g2
        | cons _ _ => cases hl
      | cons x xs => exact p_call ev h2 g1 g2 g3 (p_list (fun e he p hp => sEs es X W ev e he p hp) g3 h3)
    · cases h
  | .new c es, X, W, p, ev, h => by
    simp only [mE] at h
    split at h
    · rename_i x xs q
      obtain ⟨h12, h3⟩ := andT h
      obtain ⟨h1, h2⟩ := andT h12
      obtain rfl := of_decide_eq_true h1
      obtain ⟨q1, q2, rfl, g1, g2, g3⟩ := vFn_eq q
      have hl := mEs_len h3
      cases xs with
      | nil =>
        cases es with
        | nil => exact p_new0 ev h2 g1 g2
        | cons _ _ => cases hl
      | cons x xs => exact p_new ev h2 g1 g2 g3 (p_list (fun e he p hp => sEs es X W ev e he p hp) g3 h3)
    · cases h
  | .meth c m e es, X, W, p, ev, h => by
    simp only [mE] at h
    split at h
    · rename_i b g xs q
      obtain ⟨h123, h4⟩ := andT h
      obtain ⟨h12, h3⟩ := andT h123
      obtain ⟨h1, h2⟩ := andT h12
      obtain rfl := of_decide_eq_true h1
      obtain ⟨p1, p2, rfl, g1, g2, g3, g4⟩ := vAt_eq q
      have hl := mEs_len h4
      exact p_meth ev h2 g1 g2 g4 g3 (fun z => by
        subst z
        exact List.eq_nil_of_length_eq_zero hl) (sE e X W b ev h3).v (p_list (fun e he p hp => sEs es X W ev e he p hp) g4 h4)
    · cases h
  | .mut o e es, X, W, p, ev, h => by
    simp only [mE] at h
    split at h
    · rename_i b g xs q
      obtain ⟨h12, h3⟩ := andT h
      obtain ⟨h1, h2⟩ := andT h12
      obtain ⟨p1, p2, rfl, g1, g2, g3, g4⟩ := vAt_eq q
      have hl := mEs_len h3
      have he := (sE e X W b ev h2).v
      have ha := p_list (fun e he p hp => sEs es X W ev e he p hp) g4 h3
      have one : es.length = 1 → ∃ x, xs = [x] := fun z => List.length_eq_one_iff.mp (by rw [← hl]; exact z)
      have zero : es.length = 0 → xs = [] ∧ es = [] := fun z => ⟨List.eq_nil_of_length_eq_zero (by rw [← hl]; exact z), List.eq_nil_of_length_eq_zero z⟩
      rcases mu_eq h1 with ⟨rfl, hn, rfl⟩ | ⟨rfl, hn, rfl⟩ | ⟨rfl, hn, rfl⟩ | ⟨rfl, hn, rfl⟩ | ⟨rfl, hn, rfl⟩ | ⟨rfl, hn, rfl⟩ | ⟨rfl, hn, rfl⟩ | ⟨rfl, hn, rfl⟩
      · obtain ⟨x, rfl⟩ := one hn
        exact p_mut1 PySem.F.slot_list_append PySem.F.type_list_append L2.mt_append ok_append rfl g1 g2 g4 he ha
      · obtain ⟨x, rfl⟩ := one hn
        exact p_mut1 PySem.F.slot_list_extend PySem.F.type_list_extend mt_extendR ok_extend rfl g1 g2 g4 he ha
      · obtain ⟨rfl, rfl⟩ := zero hn
        exact p_mut0 PySem.F.slot_list_pop PySem.F.type_list_pop L2.mt_pop ok_pop rfl g1 g2 he
      · obtain ⟨x, rfl⟩ := one hn
        exact p_mut1 PySem.F.slot_list_pop PySem.F.type_list_pop L2.mt_popAt ok_popAt rfl g1 g2 g4 he ha
      · obtain ⟨x, rfl⟩ := one hn
        obtain ⟨a, rfl⟩ := List.length_eq_one_iff.mp hn
        simp only [mEs, Bool.and_eq_true] at h3
        exact p_popK g1 g2 g4 he (sEs [a] X W ev a List.mem_cons_self x h3.1).v
      · obtain ⟨x, y, rfl⟩ := len_two (show xs.length = 2 by rw [← hl]; exact hn)
        obtain ⟨a, c, rfl⟩ := len_two hn
        simp only [mEs, Bool.and_eq_true] at h3
        exact p_popD g1 g2 g4 he (sEs [a, c] X W ev a List.mem_cons_self x h3.1).v (sEs [a, c] X W ev c (by simp) y h3.2.1).v
      · obtain ⟨x, rfl⟩ := one hn
        exact p_mut1 PySem.F.slot_list_remove PySem.F.type_list_remove (mt_removeD ev.hu) ok_remove rfl g1 g2 g4 he ha
      · obtain ⟨rfl, rfl⟩ := zero hn
        exact p_mut0 PySem.F.slot_list_clear PySem.F.type_list_clear L2.mt_clear ok_clear rfl g1 g2 he
    · cases h
  | .box e, X, W, p, ev, h => by
    simp only [mE] at h
    obtain ⟨h1, h2⟩ := andT h
    exact .of ((sE e X W p ev h2).v.imp fun _ _ _ q => tE_box q) (isT_plain h1)
  | .frz e, X, W, p, ev, h => by
    simp only [mE] at h
    obtain ⟨h1, h2⟩ := andT h
    exact .of ((sE e X W p ev h2).v.imp fun _ _ _ q => tE_frz q) (isT_plain h1)
  | .gIn x kvs e, X, W, p, ev, h => by
    simp only [mE] at h
    split at h
    · rename_i b q
      obtain ⟨h1, h2⟩ := andT h
      exact p_gIn ev q h1 (sE e X W b ev h2).v
    · cases h
  | .gIdx x kvs e, X, W, p, ev, h => by
    simp only [mE] at h
    split at h
    · rename_i b q
      obtain ⟨h1, h2⟩ := andT h
      exact p_gIdx ev q h1 (sE e X W b ev h2).v
    · cases h
  | .gGet x kvs e z, X, W, p, ev, h => by simp [mE] at h
  | .inL x ts e, X, W, p, ev, h => by
    simp only [mE] at h
    split at h
    · rename_i b q
      obtain ⟨h1, h2⟩ := andT h
      exact p_inL ev q h1 (sE e X W b ev h2).v
    · cases h
  | .isinst e c, X, W, p, ev, h => by simp [mE] at h
  | .comp is it cs e, X, W, p, ev, h => p_comp ev h (fun tg i hn hi => sI it X W tg i ev hn hi) (fun X' x c hc ev' hx => sEs cs X' noW ev' c hc x hx) (fun X' x ev' hx => sE e X' noW x ev' hx)
theorem sEs : ∀ (es : List E) (X : Cx) (W : WX), Ev G X W C → ∀ e ∈ es, ∀ p, mE G X.env.scope X.N e p = true → P2 X W C e p
  | [], X, W, ev, e, he, p, h => by cases he
  | e :: es, X, W, ev, e', he, p, h => by
    rcases List.mem_cons.mp he with z | he
    · rw [z]; exact sE e X W p ev (by rw [← z]; exact h)
    · exact sEs es X W ev e' he p h
theorem sI : ∀ (it : It) (X : Cx) (W : WX) (tg i : Py), Ev G X W C → nk it = true → mI G X.env.scope X.N it i = true → PI X tg i (tI X.K W C it)
  | .seq e, X, W, tg, i, ev, hn, h => by
    simp only [mI] at h
    exact p_seq (sE e X W i ev h).v
  | .rng1 e, X, W, tg, i, ev, hn, h => by
    simp only [mI] at h
    split at h
    · rename_i b q
      unfold vRng at q
      split at q
      · rename_i x xs q2
        split at q
        · rename_i g
          injection q with q
          subst q
          obtain rfl := of_decide_eq_true g
          obtain ⟨q1, q2, rfl, g1, g2, g3⟩ := vFn_eq q2
          exact p_rng1 ev g1 g3 (sE e X W b ev h).v
        · cases q
      · cases q
    · cases h
  | .rng2 e f, X, W, tg, i, ev, hn, h => by
    simp only [mI] at h
    split at h
    · rename_i b c q
      obtain ⟨h1, h2⟩ := andT h
      unfold vRng at q
      split at q
      · rename_i x xs q2
        split at q
        · rename_i g
          injection q with q
          subst q
          obtain rfl := of_decide_eq_true g
          obtain ⟨q1, q2, rfl, g1, g2, g3⟩ := vFn_eq q2
          exact p_rng2 ev g1 g3 (sE e X W b ev h1).v (sE f X W c ev h2).v
        · cases q
      · cases q
    · cases h
  | .rng3 e f g, X, W, tg, i, ev, hn, h => by simp [mI] at h
  | .enum e, X, W, tg, i, ev, hn, h => by simp [mI] at h
  | .keys e, X, W, tg, i, ev, hn, h => by cases hn
  | .vals e, X, W, tg, i, ev, hn, h => by cases hn
end
end
end KW
/-! KwStmt: the statements' readings. -/
namespace KW
open PySem (Str Addr Value Program World Heap Operator CmpOp binaryOp compareOp PyData Scope Const Env wpAny_bind wpAny_mono)
open PySem.Spec PyProof.Rows
open L2 (V Hp HO upd upd_same upd_ne upd_upd SqL SqT Rd RelV Mut TE TT TA TS TI TG PI PG WX PE PT PW PA PS PSs Cx Inv OpR UnR CallR MtR IxR SlR TruR VK EP XK rI0)
/-- what a run of statements ends in -/
def OutS (K : Fr) (W : WX) (M : MM) (H : Hp) (s : S) (r : R Flow) (D : L2.Ends) : Prop := M.lk = none ∧ match r with
  | .ok f s' => match f with
    | .next => ∀ M' H' σ', ExtS s.h.length M H s'.h.length M' H' → RT K M' H' σ' s' → D.nx σ' H'
    | .brk => ∀ M' H' σ', ExtS s.h.length M H s'.h.length M' H' → RT K M' H' σ' s' → D.bk σ' H'
    | .ret v => ∀ M' H' u, ExtS s.h.length M H s'.h.length M' H' → RH K M' H' s'.h → RR K s'.h.length M' H' v u → isPk v = false → D.rt u H'
  | .raise x s' => ∀ M' H' σ' cls d, ExtS s.h.length M H s'.h.length M' H' → RT K M' H' σ' s' → RX K s'.h.length M' H' x cls d → W cls d σ' H'
  | .stuck => False
def tS (K : Fr) (W : WX) (C : CallF) (sts : List St) : TS := fun D σ H => ∃ M s, RT K M H σ s ∧ OutS K W M H s (execs C sts s) D
def tS1 (K : Fr) (W : WX) (C : CallF) (st : St) : TS := fun D σ H => ∃ M s, RT K M H σ s ∧ OutS K W M H s (execS C st s) D
section
variable {K : Fr} {W : WX} {C : CallF} {M M1 : MM} {H H1 : Hp} {σ : L2.St} {s s1 : S} {D : L2.Ends}
theorem OutS.later {r : R Flow} (h : OutS K W M H s r D) (e : ExtS s.h.length M H s1.h.length M1 H1) : OutS K W M1 H1 s1 r D := by
  refine ⟨e.lk.trans h.1, ?_⟩
  have h := h.2
  cases r with
  | ok f s' =>
    cases f with
    | next => exact fun M' H' σ' a b => h M' H' σ' (e.trans a) b
    | brk => exact fun M' H' σ' a b => h M' H' σ' (e.trans a) b
    | ret v => exact fun M' H' u a b => h M' H' u (e.trans a) b
  | raise x s' => exact fun M' H' σ' c d a b => h M' H' σ' c d (e.trans a) b
  | stuck => exact h
/-- a first term, then the rest -/
theorem OutS.term {α δ : Type} {rel1 : Hp → MM → Hp → S → α → δ → Prop} {pu : Bool} {r : R α} {f : α → S → R Flow} {Q1 : δ → Hp → Prop} (h : OutS K W M H s (r.bind f) D)
    (k : ∀ x s' M' H' v, r = .ok x s' → Ext s.h.length M H s'.h.length M' H' → (pu = true → s' = s ∧ Grow M H M' H') → RT K M' H' σ s' → rel1 H M' H' s' x v → OutS K W M' H' s' (f x s') D → Q1 v H') : OutR K W rel1 M H σ s pu r Q1 := by
  refine ⟨fun z => (z h.1).elim, ?_⟩
  cases r with
  | ok x s' => exact fun M' H' v e p rt rl => k x s' M' H' v rfl e p rt rl (OutS.later (show OutS K W M H s (f x s') D from h) e.toS)
  | raise x s' => exact fun M' H' c d e rt rx => h.2 M' H' σ c d e.toS rt rx
  | stuck => exact h.2
theorem t_asgn {i : Nat} {e : E} (h : tS1 K W C (.asgn i e) D σ H) : L2.tAsg (tE K W C e) (L2.gName i) D σ H := by
  obtain ⟨M, s, rt, h⟩ := h
  refine ⟨M, s, rt, ?_⟩
  simp only [execS] at h
  refine h.term fun x s1 M1 H1 v hx e1 p1 rt1 rl1 h1 => ?_
  cases x with
  | val d =>
    cases rl1.1 with
    | val r =>
      obtain ⟨t1, t2⟩ := rt1.asgnV (j := i) r
      exact h1.2 _ _ _ t2 t1
  | own c =>
    obtain ⟨rr, fr⟩ := rl1
    cases rr with
    | own hw hc =>
      obtain ⟨t1, t2⟩ := rt1.asgnO (j := i) hw hc
      exact h1.2 _ _ _ t2 t1
  | pk p c => exact h1.2.elim
theorem t_drop {e : E} (h : tS1 K W C (.expr e) D σ H) : L2.tDrop (tE K W C e) D σ H := by
  obtain ⟨M, s, rt, h⟩ := h
  refine ⟨M, s, rt, ?_⟩
  simp only [execS] at h
  exact h.term fun x s1 M1 H1 v hx e1 p1 rt1 rl1 h1 => h1.2 M1 H1 σ .refl rt1
theorem t_ret {e : E} (h : tS1 K W C (.ret e) D σ H) : L2.tRet (tE K W C e) D σ H := by
  obtain ⟨M, s, rt, h⟩ := h
  refine ⟨M, s, rt, ?_⟩
  simp only [execS] at h
  refine h.term fun x s1 M1 H1 v hx e1 p1 rt1 rl1 h1 => ?_
  cases x with
  | val d => exact h1.2 M1 H1 v .refl rt1.hp rl1.1 rfl
  | own c => exact h1.2 M1 H1 v .refl rt1.hp rl1.1 rfl
  | pk p c =>
    cases p with
    | slot j =>
      cases rl1.1 with
      | @pk _ a _ hw hc =>
        have ne : ∀ b l, M1.who b = some l → l ≠ .pl (.slot j) → b ≠ a := fun b l q h z => by rw [z, hw] at q; injection q with q; exact h q.symm
        have nn : ∀ b, M1.who b = none → b ≠ a := fun b q z => by rw [z, hw] at q; cases q
        have kp : Keep s1.h.length M1 H1 s1.h.length (M1.set a (some .tmp)) H1 := ⟨rt1.hp.wf, fun b o q z => ⟨q, by rw [MM.set_ne (nn b z)]; exact z⟩, fun _ _ => rfl, Nat.le_refl _⟩
        refine h1.2 (M1.set a (some .tmp)) H1 (.ref a) ⟨fun b o q p => ⟨q, ?_⟩, fun _ q => q, fun _ _ => rfl, Nat.le_refl _, fun b z => ?_, rfl⟩ ?_ (.own MM.set_same (hc.mono kp rfl)) rfl
        · rw [MM.set_ne fun z => ?_]
          rw [z, hw] at p
          rcases p with p | p <;> cases p
        · by_cases q : b = a
          · subst q; rw [hw]; exact .inl rfl
          · rw [MM.set_ne q] at z; exact .inl z
        · refine rt1.hp.relab rfl (fun b l q => ?_) (fun b c l h1 h2 eb ec => ?_) (fun b q _ => by rw [MM.set_ne (nn b q)]; exact q) fun b l q h1 h2 => ?_
          · by_cases z : b = a
            · subst z; exact rt1.hp.wf b _ hw
            · rw [MM.set_ne z] at q; exact rt1.hp.wf b l q
          · by_cases zb : b = a
            · subst zb; rw [MM.set_same] at eb; injection eb with eb; exact absurd eb.symm h1
            · by_cases zc : c = a
              · subst zc; rw [MM.set_same] at ec; injection ec with ec; exact absurd ec.symm h1
              · rw [MM.set_ne zb] at eb; rw [MM.set_ne zc] at ec; exact rt1.hp.uq b c l h1 h2 eb ec
          · rw [MM.set_ne (ne b l q (by intro z; rw [z] at h1; cases h1))]; exact q
    | fld _ _ => exact h1.2.elim
    | ent _ _ => exact h1.2.elim
theorem t_retN (h : tS1 K W C .retN D σ H) : L2.tRetN D σ H := by
  obtain ⟨M, s, rt, h⟩ := h
  exact h.2 M H .non .refl rt.hp (.val .non) rfl
theorem t_ite {c : E} {a b : List St} (h : tS1 K W C (.ite c a b) D σ H) : L2.tIfS (tT K W C c) (tS K W C a) (tS K W C b) D σ H := by
  obtain ⟨M, s, rt, h⟩ := h
  refine ⟨M, s, rt, ?_⟩
  simp only [execS] at h
  refine h.term (pu := pure c) fun x s1 M1 H1 v hx e1 p1 rt1 rl1 h1 => ?_
  cases rl1
  cases x with
  | true => exact ⟨M1, s1, rt1, h1⟩
  | false => exact ⟨M1, s1, rt1, h1⟩
theorem t_pas (h : tS1 K W C .pas D σ H) : L2.tNext D σ H := by
  obtain ⟨M, s, rt, h⟩ := h
  exact h.2 M H σ .refl rt
theorem t_brk (h : tS1 K W C .brk D σ H) : L2.tBreak D σ H := by
  obtain ⟨M, s, rt, h⟩ := h
  exact h.2 M H σ .refl rt
theorem t_snil (h : tS K W C [] D σ H) : L2.tNext D σ H := by
  obtain ⟨M, s, rt, h⟩ := h
  exact h.2 M H σ .refl rt
theorem t_scons {st : St} {r : List St} (h : tS K W C (st :: r) D σ H) : L2.tSeq (tS1 K W C st) (tS K W C r) D σ H := by
  obtain ⟨M, s, rt, h⟩ := h
  refine ⟨M, s, rt, h.1, ?_⟩
  simp only [execs] at h
  cases q : execS C st s with
  | stuck => rw [q] at h; exact h.2
  | raise x s' => rw [q] at h; exact h.2
  | ok f s' =>
    rw [q, bind_ok] at h
    cases f with
    | next => exact fun M' H' σ' e rt' => ⟨M', s', rt', OutS.later (show OutS K W M H s (execs C r s') D from h) e⟩
    | brk => exact h.2
    | ret v => exact h.2
/-- while -/
theorem t_whil {c : E} {b : List St} (h : tS1 K W C (.whil c b) D σ H) : L2.tWhile (tT K W C c) (tS K W C b) D σ H := by
  obtain ⟨M, s, rt, h⟩ := h
  refine ⟨fun m σ H => ∃ M s, RT K M H σ s ∧ OutS K W M H s (whileLoop (fun s => isTruth (evalE C c s)) (fun s => execs C b s) m s) D, ⟨wFuel, M, s, rt, by simp only [execS] at h; exact h⟩, ?_⟩
  clear h rt
  rintro m σ H ⟨M, s, rt, h⟩
  cases m with
  | zero => exact h.2.elim
  | succ m =>
    simp only [whileLoop] at h
    refine ⟨M, s, rt, h.term (pu := pure c) fun x s1 M1 H1 v hx e1 p1 rt1 rl1 h1 => ?_⟩
    cases rl1
    cases x with
    | false => exact h1.2 M1 H1 σ .refl rt1
    | true =>
      rw [if_pos rfl] at h1
      rw [if_pos rfl]
      refine ⟨_, fun σ' H' w => ⟨m, Nat.lt_succ_self m, w⟩, M1, s1, rt1, h1.1, ?_⟩
      cases q : execs C b s1 with
      | stuck => rw [q] at h1; exact h1.2
      | raise y s2 => rw [q] at h1; exact h1.2
      | ok f s2 =>
        rw [q, bind_ok] at h1
        cases f with
        | next => exact fun M' H' σ' e rt' => ⟨M', s2, rt', OutS.later (show OutS K W M1 H1 s1 (whileLoop _ _ m s2) D from h1) e⟩
        | brk => exact h1.2
        | ret v => exact h1.2
end
end KW
/-! KwStmt2: for, targets, fields, entries. -/
namespace KW
open PySem (Str Addr Value Program World Heap Operator CmpOp binaryOp compareOp PyData Scope Const Env wpAny_bind wpAny_mono)
open PySem.Spec PyProof.Rows
open L2 (V Hp HO upd upd_same upd_ne upd_upd SqL SqT Rd RelV Mut TE TT TA TS TI TG PI PG WX PE PT PW PA PS PSs Cx Inv OpR UnR CallR MtR IxR SlR TruR VK EP XK rI0)
/-- what is new is let be for good -/
def MM.still (M : MM) : MM := { M with who := fun a => if M.who a = some .tmp then none else M.who a }
section
variable {K : Fr} {W : WX} {C : CallF} {M M1 : MM} {H H1 : Hp} {σ : L2.St} {s s1 : S} {D : L2.Ends}
theorem still_of {a : Addr} (h : M.who a ≠ some .tmp) : M.still.who a = M.who a := by simp [MM.still, h]
theorem still_at {a : Addr} (h : M.who a = some .tmp) : M.still.who a = none := by simp [MM.still, h]
theorem still_inv {a : Addr} {l : Lb} (h : M.still.who a = some l) : M.who a = some l ∧ l ≠ .tmp := by
  by_cases e : M.who a = some .tmp
  · rw [still_at e] at h; cases h
  · rw [still_of e] at h
    exact ⟨h, fun z => e (by rw [h, z])⟩
theorem RT.still (r : RT K M H σ s) : RT K M.still H σ s ∧ ExtS s.h.length M H s.h.length M.still H ∧ Keep s.h.length M H s.h.length M.still H := by
  have kp : Keep s.h.length M H s.h.length M.still H := ⟨r.hp.wf, fun a o q z => ⟨q, by rw [still_of (by rw [z]; intro e; cases e)]; exact z⟩, fun _ _ => rfl, Nat.le_refl _⟩
  have hp : ∀ a l, M.who a = some l → l ≠ .tmp → M.still.who a = some l := fun a l q h => by rw [still_of (by rw [q]; intro z; injection z with z; exact h z)]; exact q
  refine ⟨⟨r.hp.relab rfl (fun a l q => r.hp.wf a l (still_inv q).1) (fun a b l h1 h2 ea eb => r.hp.uq a b l h1 h2 (still_inv ea).1 (still_inv eb).1) (fun a q _ => by rw [still_of (by rw [q]; intro e; cases e)]; exact q)
    fun a l q h1 _ => hp a l q (by intro z; subst z; cases h1), r.len, fun j sv q => ?_⟩, ⟨fun a o q p => ⟨q, ?_⟩, fun _ q => q, fun _ _ => rfl, Nat.le_refl _, fun a h => ?_, rfl⟩, kp⟩
  · obtain ⟨v, h1, h2⟩ := r.sl j sv q
    exact ⟨v, h1, h2.mono kp fun b hb => ⟨hp b _ hb (by intro z; cases z), rfl⟩⟩
  · exact still_of (by rcases p with p | p <;> rw [p] <;> intro z <;> cases z)
  · cases q : M.still.who a with
    | none => rw [q] at h; cases h
    | some l =>
      rw [q] at h
      rw [(still_inv q).1]
      exact .inl h
/-- a walk -/
theorem for_core {is : List Nat} {b : List St} {ds : List KW.D} {s0 : S} {J : L2.It} {w : Addr → Prop} (rt1 : RT K M1 H1 σ s0) (wk : Wk K J ds false s0.h.length M1 H1 w) (h : OutS K W M1 H1 s0 (forLoop is (fun s => execs C b s) ds s0) D) :
    ∃ W0 : Nat → Nat → L2.St → Hp → Prop, (∃ m, W0 0 m σ H1) ∧ ∀ i m σ H, W0 i m σ H →
      (J.stop i H ∧ D.nx σ H) ∨ (J.go i H ∧ ∃ N : L2.St → Hp → Prop, (∀ σ' H', N σ' H' → ∃ m', m' < m ∧ W0 (i + 1) m' σ' H') ∧ ∀ x H', J.yld i H x H' → tG K is x σ H' fun σ2 H2 => tS K W C b { D with nx := N, ct := N, bk := D.nx } σ2 H2) := by
  obtain ⟨rt2, e2, k2⟩ := rt1.still
  have wn : ∀ b, w b → H1 b ≠ none ∧ (M1.still.who b = none ∨ M1.still.who b = some .oth) := fun b wb => by
    obtain ⟨g1, g2⟩ := wk.at_ b wb
    refine ⟨g1, ?_⟩
    rcases g2 rfl with p | p | p
    · exact .inl (by rw [still_of (by rw [p]; intro z; cases z)]; exact p)
    · exact .inl (still_at p)
    · exact .inr (by rw [still_of (by rw [p]; intro z; cases z)]; exact p)
  have h := OutS.later h e2
  let Pv : Nat → L2.St → Hp → Prop := fun i σ' H' => ∃ M' s', RT K M' H' σ' s' ∧ ExtS s0.h.length M1.still H1 s'.h.length M' H' ∧ OutS K W M' H' s' (forLoop is (fun s => execs C b s) (ds.drop i) s') D
  have wat : ∀ {n' M' H'}, ExtS s0.h.length M1.still H1 n' M' H' → ∀ b, w b → H' b = H1 b := fun {n' M' H'} ex b wb => by
    obtain ⟨g1, g2⟩ := wn b wb
    cases z : H1 b with
    | none => exact absurd z g1
    | some o => exact (ex.keep b o z g2).1
  refine ⟨fun i m σ' H' => m = ds.length - i ∧ i ≤ ds.length ∧ Pv i σ' H', ⟨ds.length, by simp, Nat.zero_le _, M1.still, s0, rt2, .refl, by rw [List.drop_zero]; exact h⟩, ?_⟩
  rintro i m σ' H' ⟨rfl, hle, M', s', rt', ex, h'⟩
  by_cases hlt : i < ds.length
  · refine .inr ⟨wk.go i H' hlt (wat ex), fun σ2 H2 => Pv (i + 1) σ2 H2, fun σ2 H2 p => ⟨ds.length - (i + 1), by omega, rfl, hlt, p⟩, fun x H2 hy => ?_⟩
    have kp : Keep s0.h.length M1 H1 s'.h.length M' H' := by
      have a := ex.kept rt2.hp.wf
      refine ⟨rt1.hp.wf, fun c o z y => a.k c o z ?_, fun j hj => (a.loc j hj), a.le⟩
      rw [still_of (by rw [y]; intro e; cases e)]; exact y
    obtain ⟨M2, d, hd, g2, rt3, rd3⟩ := wk.yld i M' H' _ _ x H2 hlt rt' kp (wat ex) hy
    rw [List.drop_eq_getElem_cons hlt] at h'
    have ed : ds[i] = d := by rw [List.getElem?_eq_getElem hlt] at hd; exact Option.some.inj hd
    rw [ed] at h'
    simp only [forLoop] at h'
    cases hb : bindT is d s' with
    | none => rw [hb] at h'; exact h'.2.elim
    | some s3 =>
      rw [hb] at h'
      refine ⟨M2, d, s', s3, rt3, rd3, hb, fun M3 σ3 rt4 hh ex3 _ _ => ?_⟩
      have e4 : ExtS s'.h.length M' H' s3.h.length M3 H2 := by
        rw [hh]
        exact (g2.ext (n := s'.h.length)).toS.trans ex3.toS
      refine ⟨M3, s3, rt4, e4.lk.trans h'.1, ?_⟩
      have h' := OutS.later (s1 := s3) h' e4
      cases hf : execs C b s3 with
      | stuck => simp only [hf] at h'; exact h'.2
      | raise y s4 => simp only [hf] at h'; exact h'.2
      | ok f s4 =>
        simp only [hf, bind_ok] at h'
        cases f with
        | next => exact fun M5 H5 σ5 e5 rt5 => ⟨M5, s4, rt5, (ex.trans e4).trans e5, OutS.later (show OutS K W M3 H2 s3 (forLoop is _ (ds.drop (i + 1)) s4) D from h') e5⟩
        | brk => exact h'.2
        | ret v => exact h'.2
  · have ei : i = ds.length := by omega
    subst ei
    refine .inl ⟨wk.stop H' (wat ex), ?_⟩
    rw [List.drop_length] at h'
    exact h'.2 M' H' σ' .refl rt'
theorem t_forr {is : List Nat} {it : It} {b : List St} (hn : nk it = true) (h : tS1 K W C (.forr is it b) D σ H) : L2.tFor (tI K W C it) (tG K is) (tS K W C b) D σ H := by
  obtain ⟨M, s, rt, h⟩ := h
  have hk : isK it = false := by cases it <;> first | rfl | cases hn
  simp only [execS, hk, calmIf_false] at h
  refine ⟨M, s, h.1, rt, ?_⟩
  cases q : evalIt C it s with
  | stuck => rw [q] at h; exact h.2
  | raise x s1 => rw [q] at h; exact fun M' H' cls d e rt' rx => h.2 M' H' σ cls d e.toS rt' rx
  | ok p s0 =>
    obtain ⟨ds, mu⟩ := p
    rw [q, bind_ok] at h
    intro M1 H1 J w e1 rt1 wk
    cases mu with
    | true => exact h.2.elim
    | false => exact for_core rt1 wk (OutS.later (show OutS K W M H s (forLoop is (fun s => execs C b s) ds s0) D from h) e1.toS)
/-- while a dict is locked -/
def lkEnds (d : Addr) (o : PySem.Obj) (u : HO) (D : L2.Ends) : L2.Ends := ⟨fun σ' H' => H' d = some (.frz o u) ∧ D.nx σ' (upd H' d u), fun v H' => H' d = some (.frz o u) ∧ D.rt v (upd H' d u), fun σ' H' => H' d = some (.frz o u) ∧ D.bk σ' (upd H' d u), fun σ' H' => H' d = some (.frz o u) ∧ D.ct σ' (upd H' d u)⟩
theorem OutS.lock {d : Addr} {o : PySem.Obj} {gs : List (L2.Key × V)} {r : R Flow} (ra : H d = some (.dK gs)) (hw : M.who d = none) (h : OutS K W M H s r.calm D) : OutS K W M (upd H d (.frz o (.dK gs))) s r (lkEnds d o (.dK gs) D) := by
  refine ⟨h.1, ?_⟩
  have h2 := h.2
  have ext : ∀ {n' M' H'}, ExtS s.h.length M (upd H d (.frz o (.dK gs))) n' M' H' → H' d = some (.frz o (.dK gs)) ∧ ExtS s.h.length M H n' M' (upd H' d (.dK gs)) := fun {n' M' H'} e => by
    refine ⟨(e.keep d _ upd_same (.inl hw)).1, fun b o hb pb => ?_, fun b hb => ?_, e.loc, e.le, fun b hb => ?_, e.lk⟩
    · by_cases eb : b = d
      · subst eb
        rw [ra] at hb; cases hb
        exact ⟨upd_same, (e.keep b _ upd_same pb).2⟩
      · obtain ⟨k1, k2⟩ := e.keep b o (by rw [upd_ne eb]; exact hb) pb
        exact ⟨by rw [upd_ne eb]; exact k1, k2⟩
    · by_cases eb : b = d
      · subst eb; rw [upd_same] at hb; cases hb
      · rw [upd_ne eb] at hb
        have := e.dom b hb
        rw [upd_ne eb] at this
        exact this
    · rcases e.nl b hb with k | k
      · exact .inl k
      · by_cases eb : b = d
        · subst eb; rw [upd_same] at k; cases k
        · rw [upd_ne eb] at k; exact .inr k
  have wf : ∀ {M' : MM} {H' : Hp}, H' d = some (.frz o (.dK gs)) → (∀ a l, M'.who a = some l → Mx M'.lk a (H' a)) → ∀ a l, M'.who a = some l → Mx M'.lk a ((upd H' d (.dK gs)) a) := fun {M' H'} _ w b l q => by
    by_cases eb : b = d
    · subst eb; rw [upd_same]; exact .inl trivial
    · rw [upd_ne eb]; exact w b l q
  cases r with
  | stuck => exact h2
  | raise x s' => exact h2.elim
  | ok f s' =>
    cases f with
    | next => exact fun M' H' σ' e rt => ⟨(ext e).1, h2 M' _ σ' (ext e).2 (rt.sw (sw_unlock (ext e).1) rfl rfl (wf (ext e).1 rt.hp.wf))⟩
    | brk => exact fun M' H' σ' e rt => ⟨(ext e).1, h2 M' _ σ' (ext e).2 (rt.sw (sw_unlock (ext e).1) rfl rfl (wf (ext e).1 rt.hp.wf))⟩
    | ret v => exact fun M' H' u e rh rr pk => ⟨(ext e).1, h2 M' _ u (ext e).2 (rh.sw (sw_unlock (ext e).1) rfl rfl (wf (ext e).1 rh.wf)) (rr.sw (sw_unlock (ext e).1) rfl rfl) pk⟩
/-- for over the keys of a dict that nobody changes -/
theorem t_forKeys {G : Tabs} {X : Cx} {is : List Nat} {b : List St} {e0 : E} {p : Py} (hp : isPath e0 = true) (fl : ∀ c f, G.fl.contains (c, f) = true → L2.Cls X.K (cA X.K c) ∧ L2.NoAttr X.K (cA X.K c) (sst f)) (hm : mE G X.env.scope X.N e0 p = true) (h : tS1 X.K W C (.forr is (.keys e0) b) D σ H) :
    L2.tLock (L2.tFor (L2.iKeysM (pathT X.K e0)) (tG X.K is) (tS X.K W C b)) D σ H ∨ L2.tFor (L2.iKeysM (pathT X.K e0)) (tG X.K is) (tS X.K W C b) D σ H := by
  obtain ⟨M, s, rt, h⟩ := h
  simp only [execS, evalIt, isK, calmIf_true] at h
  cases q : evalE C e0 s with
  | stuck => rw [q] at h; exact h.2.elim
  | raise x s1 => exact (path_no hp q).elim
  | ok x s' =>
    obtain ⟨rfl, ⟨v, rr, pt⟩, nown⟩ := path_at rt hp fl hm q
    rw [q, bind_ok] at h
    cases hd : dctOf s'.h x with
    | none => rw [hd] at h; exact h.2.elim
    | some qd =>
      rw [hd] at h
      obtain ⟨a, gs, rfl, ra, ko, rg⟩ := dct_at rt rr hd
      simp only [Option.map_some, opt, bind_ok] at h
      cases hmu : muOf x with
      | true => rw [hmu] at h; exact h.2.elim
      | false =>
        rw [hmu] at h
        have hw : M.who a = none := by
          cases rr with
          | own _ _ => exact absurd rfl (nown _)
          | pk _ _ => cases hmu
          | val r => cases r with
            | dct _ hw _ _ _ => exact hw
            | ref _ => cases hmu
            | _ => cases hd
        have h : OutS X.K W M H s' (forLoop is (fun s => execs C b s) (qd.2.map fun e => keyD e.1) s').calm D := h
        have lk := h.1
        rcases ra with ra | ⟨od, ra⟩
        · left
          refine ⟨a, .dK gs, ra, trivial, fun od => ?_⟩
          refine pt _ _ (sw_lock ra) ⟨a, od, gs, rfl, upd_same, ?_⟩
          have rt1 : RT X.K M (upd H a (.frz od (.dK gs))) σ s' := by
            refine rt.sw (sw_lock ra) rfl rfl fun b l hb => ?_
            by_cases eb : b = a
            · subst eb; rw [hw] at hb; cases hb
            · rw [upd_ne eb]; exact rt.hp.wf b l hb
          exact for_core (D := lkEnds a od (.dK gs) D) rt1 (wk_keys upd_same ko rg fun _ => .inl hw) (h.lock ra hw)
        · right
          refine pt _ _ .refl ⟨a, od, gs, rfl, ra, ?_⟩
          refine for_core rt (wk_keys ra ko rg fun _ => .inl hw) ⟨lk, ?_⟩
          have h2 := h.2
          cases z : forLoop is (fun s => execs C b s) (qd.2.map fun e => keyD e.1) s' with
          | stuck => rw [z] at h2; exact h2
          | raise x s1 => rw [z] at h2; exact h2.elim
          | ok f s1 => rw [z] at h2; exact h2
theorem ps_orLock {X : Cx} {e : PyS} {t : TS} (h : PS X e t) : PS X e (fun D σ H => L2.tLock t D σ H ∨ t D σ H) := ⟨fun pins s σ H D I q => q.elim (fun q => (L2.ps_lock h).run pins s σ H D I q) (fun q => h.run pins s σ H D I q)⟩
/-- a, b = .. -/
theorem t_unp {is : List Nat} {e : E} (h : tS1 K W C (.unp is e) D σ H) : L2.tAsg (tD K W C e) (tG K is) D σ H := by
  obtain ⟨M, s, rt, h⟩ := h
  refine ⟨M, s, rt, ?_⟩
  simp only [execS] at h
  refine h.term fun d s1 M1 H1 v hx e1 p1 rt1 rl1 h1 => ?_
  cases hb : bindT is d s1 with
  | none => rw [hb] at h1; exact h1.2.elim
  | some s2 =>
    rw [hb] at h1
    refine ⟨M1, d, s1, s2, rt1, rl1, hb, fun M2 σ2 rt2 hh ex _ _ => h1.2 M2 H1 σ2 ?_ rt2⟩
    rw [hh]
    exact ex.toS
end
end KW
/-! KwStmt3: fields and entries are set. -/
namespace KW
open PySem (Str Addr Value Program World Heap Operator CmpOp binaryOp compareOp PyData Scope Const Env wpAny_bind wpAny_mono)
open PySem.Spec PyProof.Rows
open L2 (V Hp HO upd upd_same upd_ne upd_upd SqL SqT Rd RelV Mut TE TT TA TS TI TG PI PG WX PE PT PW PA PS PSs Cx Inv OpR UnR CallR MtR IxR SlR TruR VK EP XK rI0)
section
variable {K : Fr} {W : WX} {C : CallF} {M M' : MM} {H H' : Hp} {σ : L2.St} {s s1 : S} {D : L2.Ends} {n n' : Nat}
/-- place p is given to what stands at a (or to a plain value): the labels -/
structure Give (p : Pl) (M : MM) (H : Hp) (M' : MM) : Prop where
  loc : M'.loc = M.loc
  wf : ∀ b l, M'.who b = some l → ∃ l', M.who b = some l'
  lk : M'.lk = M.lk
  uq : ∀ b c l, l ≠ .tmp → l ≠ .oth → M'.who b = some l → M'.who c = some l → b = c
  no : ∀ b, M.who b = none → M'.who b = none
  oth : ∀ b, M.who b = some .oth → M'.who b = some .oth
  keep : ∀ b l, M.who b = some l → l ≠ .tmp → l ≠ .oth → l ≠ .pl p → M'.who b = some l
  nl : ∀ b, isLoc (M'.who b) = true → plIx p = none ∨ isLoc (M.who b) = true ∨ H b = none
theorem Give.drop (p : Pl) (uq : ∀ b c l, l ≠ .tmp → l ≠ .oth → M.who b = some l → M.who c = some l → b = c) : Give p M H (M.drop p) where
  loc := rfl
  wf := fun b l q => drop_some q
  lk := rfl
  uq := fun b c l h1 h2 eb ec => uq b c l h1 h2 (drop_inv eb h2) (drop_inv ec h2)
  no := fun b q => drop_none q
  oth := fun b q => by rw [drop_of (by rw [q]; intro z; cases z)]; exact q
  keep := fun b l q _ _ h3 => by rw [drop_of (by rw [q]; intro z; injection z with z; exact h3 z)]; exact q
  nl := fun b h => .inr (drop_nl b h)
theorem Give.own {p : Pl} {a : Addr} (ha : M.who a = some .tmp) (uq : ∀ b c l, l ≠ .tmp → l ≠ .oth → M.who b = some l → M.who c = some l → b = c) : Give p M H ((M.drop p).set a (some (.pl p))) := by
  have sn : ∀ {b}, b ≠ a → ((M.drop p).set a (some (.pl p))).who b = (M.drop p).who b := fun ne => MM.set_ne ne
  have no : ∀ b, ((M.drop p).set a (some (.pl p))).who b = some (.pl p) → b = a := fun b q => by
    by_cases z : b = a
    · exact z
    · rw [sn z] at q
      have := drop_inv q (by intro z; cases z)
      rw [drop_at this] at q
      cases q
  refine ⟨rfl, fun b l q => ?_, rfl, fun b c l h1 h2 eb ec => ?_, fun b q => ?_, fun b q => ?_, fun b l q h1 h2 h3 => ?_, fun b h => ?_⟩
  · by_cases z : b = a
    · subst z; exact ⟨_, ha⟩
    · rw [sn z] at q; exact drop_some q
  · by_cases el : l = .pl p
    · subst el; rw [no b eb, no c ec]
    · have f : ∀ c, ((M.drop p).set a (some (.pl p))).who c = some l → M.who c = some l := fun c q => by
        by_cases z : c = a
        · subst z; rw [MM.set_same] at q; injection q with q; exact absurd q.symm el
        · rw [sn z] at q; exact drop_inv q h2
      exact uq b c l h1 h2 (f _ eb) (f _ ec)
  · rw [sn (fun z => by rw [z, ha] at q; cases q)]; exact drop_none q
  · rw [sn (fun z => by rw [z, ha] at q; cases q), drop_of (by rw [q]; intro z; cases z)]; exact q
  · rw [sn (fun z => by rw [z, ha] at q; injection q with q; exact h1 q.symm), drop_of (by rw [q]; intro z; injection z with z; exact h3 z)]; exact q
  · by_cases z : b = a
    · subst z; rw [ha]; exact .inr (.inl rfl)
    · rw [sn z] at h; exact .inr (drop_nl b h)
/-- a cell is written, one of its places is given -/
theorem RT.wrPlace (r : RT K M H σ s) {p : Pl} {i : Nat} {c c' : Cell} {o : HO} (hpi : plIx p = some i) (e : s.h[i]? = some c) (hm : Mut (some o)) (g : Give p M H M') (rc : Keep s.h.length M H s.h.length M' (upd H (M.loc i) o) → RCell K s.h.length M' (upd H (M.loc i) o) i c') :
    RT K M' (upd H (M.loc i) o) σ { s with h := s.h.set i c' } ∧ ExtS s.h.length M H (s.h.set i c').length M' (upd H (M.loc i) o) := by
  have hi := (List.getElem?_eq_some_iff.mp e).1
  have hw := r.hp.lb i hi
  have nb : ∀ b, M.who b ≠ some (.cell i) → (upd H (M.loc i) o) b = H b := fun b hb => upd_ne fun z => hb (by rw [z]; exact hw)
  have kp : Keep s.h.length M H s.h.length M' (upd H (M.loc i) o) := ⟨r.hp.wf, fun b o' q z => ⟨by rw [nb b (by rw [z]; intro y; cases y)]; exact q, g.no b z⟩, fun _ _ => by rw [g.loc], Nat.le_refl _⟩
  have rc := rc kp
  have lb : ∀ j, j < s.h.length → M'.who (M'.loc j) = some (.cell j) := fun j hj => by
    rw [g.loc]
    exact g.keep _ _ (r.hp.lb j hj) (by intro z; cases z) (by intro z; cases z) (by intro z; cases z)
  refine ⟨⟨⟨fun b l q => ?_, ?_, g.uq, fun i' c2 q => ?_⟩, r.len, fun j sv q => ?_⟩, fun b o' q pr => ?_, fun b q => ?_, fun _ _ => by rw [g.loc], by rw [List.length_set]; exact Nat.le_refl _, fun b h => ?_, g.lk⟩
  · obtain ⟨l', q'⟩ := g.wf b l q
    by_cases z : b = M.loc i
    · subst z; rw [upd_same]; exact .inl hm
    · rw [upd_ne z, g.lk]; exact r.hp.wf b l' q'
  · simpa using lb
  · have q : (s.h.set i c')[i']? = _ := q
    show RCell K (s.h.set i c').length _ _ _ _
    rw [List.length_set]
    by_cases ei : i = i'
    · subst ei
      rw [List.getElem?_set_self hi] at q
      injection q with q
      subst q
      exact rc
    · rw [List.getElem?_set_ne ei] at q
      have hi' := (List.getElem?_eq_some_iff.mp q).1
      refine (r.hp.cell i' c2 q).keep kp hi' (nb _ (by rw [r.hp.lb i' hi']; intro z; injection z with z; injection z with z; exact ei z.symm)) fun p' hp' b hb => ⟨?_, nb b (by rw [hb]; intro z; cases z)⟩
      exact g.keep b _ hb (by intro z; cases z) (by intro z; cases z) (by intro z; injection z with z; subst z; rw [hpi] at hp'; injection hp' with hp'; exact ei hp')
  · obtain ⟨v, h1, h2⟩ := r.sl j sv q
    refine ⟨v, h1, ?_⟩
    show RS K (s.h.set i c').length _ _ _ _ _
    rw [List.length_set]
    exact h2.mono kp fun b hb => ⟨g.keep b _ hb (by intro z; cases z) (by intro z; cases z) (by intro z; injection z with z; subst z; cases hpi), nb b (by rw [hb]; intro z; cases z)⟩
  · rcases pr with pr | pr
    · exact ⟨by rw [nb b (by rw [pr]; intro z; cases z)]; exact q, (g.no b pr).trans pr.symm⟩
    · exact ⟨by rw [nb b (by rw [pr]; intro z; cases z)]; exact q, (g.oth b pr).trans pr.symm⟩
  · by_cases z : b = M.loc i
    · subst z; rw [upd_same] at q; cases q
    · rw [upd_ne z] at q; exact q
  · rcases g.nl b h with z | z
    · rw [hpi] at z; cases z
    · exact z
theorem RFs.setF {i : Nat} {f : String} {sv : SV} {v : V} (kp : Keep n M H n' M' H') (hp : ∀ q, q ≠ .fld i f → plIx q = some i → ∀ b, M.who b = some (.pl q) → M'.who b = some (.pl q) ∧ H' b = H b) (rs : RS K n' M' H' (.fld i f) sv v) {fs : List (String × SV)} {gs : List (Str × V)} (r : RFs K n M H i fs gs) :
    (fs.map (·.1)).Nodup → RFs K n' M' H' i (fput f sv fs) (L2.putF (sst f) v gs) := by
  induction r with
  | nil => intro _; exact .cons rs .nil
  | @cons x sv0 v0 fs gs ra rb ih =>
    intro hn
    have hn2 := List.nodup_cons.mp (show (x :: fs.map (·.1)).Nodup from hn)
    unfold fput L2.putF
    by_cases ef : x = f
    · subst ef
      rw [if_pos rfl, if_pos rfl]
      refine .cons rs (RFs.mono kp (fun f' hf' b hb => hp _ (fun z => ?_) rfl b hb) rb)
      injection z with _ z
      subst z
      exact hn2.1 hf'
    · rw [if_neg ef, if_neg fun z => ef (sst_inj z)]
      refine .cons (ra.mono kp (fun b hb => hp _ (fun z => ?_) rfl b hb)) (ih hn2.2)
      injection z with _ z
      exact ef z
theorem fput_nodup {α : Type} {f : String} {v : α} : ∀ {fs : List (String × α)}, (fs.map (·.1)).Nodup → ((fput f v fs).map (·.1)).Nodup ∧ ∀ g ∈ (fput f v fs).map (·.1), g = f ∨ g ∈ fs.map (·.1)
  | [], _ => ⟨by simp [fput], fun g h => by simp [fput] at h; exact .inl h⟩
  | (x, y) :: r, h => by
    have hn2 := List.nodup_cons.mp (show (x :: r.map (·.1)).Nodup from h)
    obtain ⟨i1, i2⟩ := fput_nodup (f := f) (v := v) hn2.2
    unfold fput
    by_cases e : x = f
    · rw [if_pos e]
      subst e
      exact ⟨h, fun g hg => .inr hg⟩
    · rw [if_neg e]
      refine ⟨List.nodup_cons.mpr ⟨fun z => ?_, i1⟩, fun g hg => ?_⟩
      · rcases i2 x z with z | z
        · exact e z
        · exact hn2.1 z
      · rcases List.mem_cons.mp (show g ∈ x :: (fput f v r).map (·.1) from hg) with z | z
        · exact .inr (by rw [z]; exact List.mem_cons_self)
        · exact (i2 g z).imp id fun z => List.mem_cons_of_mem _ z
/-- o.f = v -/
theorem t_fset {cs : List String} {o e : E} {f : String} (hc : ∀ c, cs.contains c = true → L2.Cls K (cA K c) ∧ L2.NoAttr K (cA K c) (sst f)) (h : tS1 K W C (.fset cs o f e) D σ H) : L2.sFld K (tE K W C o) (tE K W C e) (sst f) D σ H := by
  obtain ⟨M, s, rt, h⟩ := h
  refine ⟨M, s, rt, ?_⟩
  simp only [execS] at h
  refine h.term fun v s1 M1 H1 y hy e1 p1 rt1 rl1 h1 => ?_
  refine ⟨M1, s1, rt1, h1.term fun x s2 M2 H2 u hx e2 p2 rt2 rl2 h2 => ?_⟩
  split at h2
  · rename_i i sv ev
    split at h2
    · rename_i c fs q
      split at h2
      · rename_i gg
        cases rl2.1 with
        | val rd =>
          cases rd with
          | ref hi =>
            cases rt2.hp.cell i _ q with
            | @ins _ _ gs dx c1 c2 c3 =>
              obtain ⟨k1, k2⟩ := hc c gg.1
              have lenfs : ∀ {fs : List (String × SV)} {gs : List (Str × V)}, RFs K s2.h.length M2 H2 i fs gs → fs.length = gs.length := fun r => by
                induction r with
                | nil => rfl
                | cons _ _ ih => rw [List.length_cons, List.length_cons, ih]
              refine ⟨_, _, dx, gs, rfl, c1, k1, k2, by rw [← lenfs c3]; exact gg.2, ?_⟩
              have fin : ∀ M', Give (.fld i f) M2 H2 M' → (Keep s2.h.length M2 H2 s2.h.length M' (upd H2 (M2.loc i) (.ins (cA K c) dx (L2.putF (sst f) y gs))) → RS K s2.h.length M' (upd H2 (M2.loc i) (.ins (cA K c) dx (L2.putF (sst f) y gs))) (.fld i f) sv y) →
                  D.nx σ (upd H2 (M2.loc i) (.ins (cA K c) dx (L2.putF (sst f) y gs))) := fun M' g rs => by
                have hw := rt2.hp.lb i hi
                obtain ⟨t1, t2⟩ := rt2.wrPlace (p := .fld i f) (o := .ins (cA K c) dx (L2.putF (sst f) y gs)) (c' := .ins c (fput f sv fs)) rfl q trivial g fun kp => by
                  refine .ins (by rw [g.loc, upd_same]) (fput_nodup c2).1 (c3.setF kp (fun q' nq _ b hb => ⟨?_, upd_ne fun z => ?_⟩) (rs kp) c2)
                  · exact g.keep b _ hb (by intro z; cases z) (by intro z; cases z) (fun z => nq (by injection z))
                  · rw [z, hw] at hb; cases hb
                exact h2.2 M' _ σ t2 t1
              cases v with
              | pk p c => cases ev
              | val d =>
                injection ev with ev
                subst ev
                refine fin _ (.drop _ rt2.hp.uq) fun kp => .val ?_
                have r2 := rl1.1.mono rt1.hp.wf e2 rfl
                cases r2 with
                | val r => exact r.mono kp
              | own c0 =>
                injection ev with ev
                subst ev
                have r2 := rl1.1.mono rt1.hp.wf e2 rfl
                cases r2 with
                | @own _ a hw0 hc0 =>
                  refine fin _ (.own hw0 rt2.hp.uq) fun kp => .own MM.set_same (hc0.mono kp (upd_ne fun z => ?_))
                  rw [z, rt2.hp.lb i hi] at hw0
                  cases hw0
      · exact h2.2.elim
    · exact h2.2.elim
  · exact h2.2.elim
end
end KW
/-! KwISet: an entry is set. -/
namespace KW
open PySem (Str Addr Value Program World Heap Operator CmpOp binaryOp compareOp PyData Scope Const Env wpAny_bind wpAny_mono)
open PySem.Spec PyProof.Rows
open L2 (V Hp HO upd upd_same upd_ne upd_upd SqL SqT Rd RelV Mut TE TT TA TS TI TG PI PG WX PE PT PW PA PS PSs Cx Inv OpR UnR CallR MtR IxR SlR TruR VK EP XK rI0)
section
variable {K : Fr} {W : WX} {C : CallF} {M M' : MM} {H H' : Hp} {σ : L2.St} {s s1 : S} {D : L2.Ends}
theorem t_iset {o k e : E} (h : tS1 K W C (.iset o k e) D σ H) : L2.sDPut (tE K W C o) (tD K W C k) (tE K W C e) D σ H := by
  obtain ⟨M, s, rt, h⟩ := h
  simp only [execS] at h
  refine ⟨M, s, rt, h.term fun vx s1 M1 H1 v hv e1 p1 rt1 rl1 h1 => ?_⟩
  by_cases gv : isPk vx = true
  · rw [if_pos gv] at h1; exact h1.2.elim
  rw [if_neg gv] at h1
  have gv : isPk vx = false := by simpa using gv
  refine ⟨M1, s1, rt1, h1.term fun x s2 M2 H2 u hx e2 p2 rt2 rl2 h2 => ?_⟩
  by_cases gx : (isPk x && !pure k) = true
  · rw [if_pos gx] at h2; exact h2.2.elim
  rw [if_neg gx] at h2
  refine ⟨M2, s2, rt2, h2.term fun kd s3 M3 H3 y hk e3 p3 rt3 rl3 h3 => ?_⟩
  have lk := h3.1
  have rv : RR K s3.h.length M3 H3 vx v := (rl1.1.mono rt1.hp.wf e2 gv).mono rt2.hp.wf e3 gv
  have rx : RR K s3.h.length M3 H3 x u := by
    cases q : isPk x with
    | false => exact rl2.1.mono rt2.hp.wf e3 q
    | true =>
      have pb : pure k = true := by cases z : pure k with
        | true => rfl
        | false => exact absurd (by rw [q, z]; rfl) gx
      obtain ⟨es, gr⟩ := p3 pb
      rw [es]
      exact rl2.1.grow rt2.hp.wf gr
  cases x with
  | own c => simp only [runISet] at h3; exact h3.2.elim
  | pk p c =>
    simp only [runISet] at h3
    split at h3
    · rename_i kvs gp
      split at h3
      · rename_i k' d hk' hd'
        split at h3
        · rename_i s4 gq
          by_cases gl : kvs.length < sizeLine
          · rw [if_pos gl, bind_ok] at h3
            obtain ⟨M4, rt4, lk4, loc4, rd4, hp4, hn4, ho4, hl4, _⟩ := rr_D rv hd' rt3
            cases rx with
            | pk hw hc =>
              obtain ⟨a', w', rc⟩ := rt4.getPl gp
              obtain rfl := rt4.hp.uq _ _ _ (by intro z; cases z) (by intro z; cases z) w' (hp4 _ _ hw)
              obtain ⟨gs, r1, r2, r3⟩ := rc_rg rc
              have hH := rt4.mut (lk4.trans lk) w' r1
              obtain ⟨rfl, okk⟩ := key_ok rl3 hk'
              refine ⟨_, _, rfl, .inl ⟨gs, mkey k', hH, rfl, ?_, rfl⟩, ?_⟩
              · have := r3.len
                rw [sizeLine_is, ← this]
                simpa [plainEs] using gl
              · have kp := keep_upd (o := .dK (L2.putK gs (mkey k') v)) (n := s3.h.length) rt4.hp.wf w'
                have rcn : RC K s3.h.length M4 (upd H3 a' (.dK (L2.putK gs (mkey k') v))) (.dct (kput k' d kvs)) a' := by
                  refine rc_dct (.inl upd_same) (kput_ok okk r2) ?_
                  rw [plain_put]
                  have := (RG.mono (n' := s3.h.length) (M' := M4) (H' := upd H3 a' (.dK (L2.putK gs (mkey k') v))) (P' := fun _ sv w0 => RD K s3.h.length M4 (upd H3 a' (.dK (L2.putK gs (mkey k') v))) (unSV sv) w0) (fun _ _ _ p => RD.mono kp p) r3)
                  exact this.put (k := k') (sv := .val d) (rd4.mono kp) (by rw [plain_keys]; exact r2.nd)
                obtain ⟨t1, t2⟩ := rt4.wrPl (o := .dK (L2.putK gs (mkey k') v)) gp w' trivial rcn gq
                refine h3.2 M4 _ σ ?_ t1
                refine ⟨fun b o hb pb => ?_, t2.dom, fun i hi => by rw [loc4], t2.le, fun b z => ?_, lk4⟩
                · have pb4 : M4.who b = M3.who b := by
                    rcases pb with q | q
                    · rw [q]; exact hn4 b q
                    · rw [q]; exact ho4 b q
                  obtain ⟨q1, q2⟩ := t2.keep b o hb (by rw [pb4]; exact pb.elim .inl fun z => .inr (.inr z))
                  exact ⟨q1, pb4⟩
                · exact .inl (hl4 b z)
          · rw [if_neg gl] at h3; exact h3.2.elim
        · exact h3.2.elim
      · exact h3.2.elim
    · exact h3.2.elim
  | val dx =>
    cases dx with
    | ref i =>
      simp only [runISet] at h3
      split at h3
      · rename_i kvs q
        split at h3
        · rename_i k' sv hk' hsv
          by_cases gl : kvs.length < sizeLine
          · rw [if_pos gl, bind_ok] at h3
            cases rx with
            | val rd =>
              cases rd with
              | ref hi =>
                obtain ⟨rfl, okk⟩ := key_ok rl3 hk'
                cases rt3.hp.cell i _ q with
                | @dct _ gs c1 c2 c3 =>
                  have hw := rt3.hp.lb i hi
                  have hH := rt3.mut lk hw c1
                  refine ⟨_, _, rfl, .inl ⟨gs, mkey k', hH, rfl, ?_, rfl⟩, ?_⟩
                  · have := c3.rg.len
                    rw [sizeLine_is, ← this]
                    exact gl
                  · have fin : ∀ M', Give (.ent i k') M3 H3 M' → (Keep s3.h.length M3 H3 s3.h.length M' (upd H3 (M3.loc i) (.dK (L2.putK gs (mkey k') v))) → RS K s3.h.length M' (upd H3 (M3.loc i) (.dK (L2.putK gs (mkey k') v))) (.ent i k') sv v) →
                      D.nx σ (upd H3 (M3.loc i) (.dK (L2.putK gs (mkey k') v))) := fun M' g rs => by
                      obtain ⟨t1, t2⟩ := rt3.wrPlace (p := .ent i k') (o := .dK (L2.putK gs (mkey k') v)) (c' := .dct (kput k' sv kvs)) rfl q trivial g fun kp => by
                        refine .dct (by rw [g.loc]; exact .inl upd_same) (kput_ok okk c2) (c3.setE kp (fun q' nq _ b hb => ⟨?_, upd_ne fun z => ?_⟩) (rs kp) c2.nd)
                        · exact g.keep b _ hb (by intro z; cases z) (by intro z; cases z) (fun z => nq (by injection z))
                        · rw [z, hw] at hb; cases hb
                      exact h3.2 M' _ σ t2 t1
                    cases vx with
                    | pk p c => cases hsv
                    | val d =>
                      injection hsv with hsv
                      subst hsv
                      refine fin _ (.drop _ rt3.hp.uq) fun kp => .val ?_
                      cases rv with
                      | val r => exact r.mono kp
                    | own c0 =>
                      injection hsv with hsv
                      subst hsv
                      cases rv with
                      | @own _ a hw0 hc0 =>
                        refine fin _ (.own hw0 rt3.hp.uq) fun kp => .own MM.set_same (hc0.mono kp (upd_ne fun z => ?_))
                        rw [z, hw] at hw0
                        cases hw0
          · rw [if_neg gl] at h3; exact h3.2.elim
        · exact h3.2.elim
      · exact h3.2.elim
    | _ => simp only [runISet] at h3; exact h3.2.elim
end
end KW
set_option maxHeartbeats 2000000
/-! KwMS: statements that match. -/
namespace KW
open PySem (Str Addr Value Program World Heap Operator CmpOp binaryOp compareOp PyData Scope Const Env wpAny_bind wpAny_mono)
open PySem.Spec PyProof.Rows
open L2 (V Hp HO upd upd_same upd_ne upd_upd SqL SqT Rd RelV Mut TE TT TA TS TI TG PI PG WX PE PT PW PA PS PSs Cx Inv OpR UnR CallR MtR IxR SlR TruR VK EP XK rI0)
def noCompB : Py → Bool
  | .ListComp _ _ _ _ | .SetComp _ _ _ _ | .DictComp _ _ _ _ _ => false
  | _ => true
def noTupB : Py → Bool
  | .Tuple _ _ _ => false
  | _ => true
def isTupB : Py → Bool
  | .Tuple _ _ _ => true
  | _ => false
/-- a comprehension that goes to a name on its line -/
def swB (sc : Scope) (y : Str) (py : PySem.Pos) : Py → Bool
  | .ListComp _ _ scope pos => decide (py.line = pos.line) && (match sc.kind with
    | .function => true
    | _ => false) && !(scope.names.any fun (n, k) => n == y && (k == .local || k == .cell))
  | _ => false
def isCmp : E → Bool
  | .comp _ it _ _ => nk it
  | _ => false
/-- a written target of a statement -/
def tgtS (sc : Scope) (N : List Str) (is : List Nat) (t : Py) : Bool := match is, t with
  | [i], .Name x _ => decide (N[i]? = some x) && locB sc x
  | [i, j], .Tuple [.Name x _, .Name y _] _ _ => decide (N[i]? = some x) && locB sc x && (decide (N[j]? = some y) && locB sc y) && decide (i ≠ j)
  | _, _ => false
mutual
def mS (G : Tabs) (sc : Scope) (N : List Str) : St → PyS → Bool
  | .asgn i e, p => match p with
    | .Assign [.Name x q] v pos => decide (N[i]? = some x) && locB sc x && (noCompB v || ((isCmp e && decide (sc.names.lookup x = some .local) && swB sc x q v) || decide (sc.names.lookup x = some .cell))) && mE G sc N e v
    | _ => false
  | .unp is e, p => match p with
    | .Assign [t] v pos => tgtS sc N is t && isTupB t && noCompB v && noTupB v && mE G sc N e v
    | _ => false
  | .fset cs o f e, p => match p with
    | .Assign [.Attribute b g q] v pos => decide (g = sst f) && (cs.all fun c => G.fl.contains (c, f)) && mE G sc N o b && mE G sc N e v
    | _ => false
  | .iset o k e, p => match p with
    | .Assign [.Subscript b i q] v pos => noSliceB i && mE G sc N o b && mE G sc N k i && mE G sc N e v
    | _ => false
  | .expr e, p => match p with
    | .Expr v pos => noCompB v && mE G sc N e v
    | _ => false
  | .ret e, p => match p with
    | .Return (some v) pos => mE G sc N e v
    | _ => false
  | .retN, p => match p with
    | .Return none pos => true
    | _ => false
  | .ite c a b, p => match p with
    | .If x y z pos => mE G sc N c x && mSs G sc N a y && mSs G sc N b z
    | _ => false
  | .whil c b, p => match p with
    | .While x y [] pos => mE G sc N c x && mSs G sc N b y
    | _ => false
  | .forr is it b, p => match p with
    | .For t i y [] pos => noSetB i && tgtS sc N is t && mI G sc N it i && mSs G sc N b y
    | _ => false
  | .brk, p => match p with
    | .Break pos => true
    | _ => false
  | .pas, p => match p with
    | .Pass pos => true
    | _ => false
  | .par is es, p => match is, p with
    | [i, j], .Assign [.Tuple [.Name x px, .Name y py] kt pt] (.Tuple [a, b] k2 pt2) pos => decide (N[i]? = some x) && decide (N[j]? = some y) && decide (i ≠ j) && decide (x ≠ y) && decide (sc.names.lookup x = some .local) && decide (sc.names.lookup y = some .local) &&
        (match sc.kind with
        | .function => true
        | _ => false) && decide (px.line = py.line) && [a, b].all noStarB && !([a, b].all (PySem.foldedForSure 8)) && !([a, b].all (PySem.constantsAlone 8)) && mEs G sc N es [a, b]
    | _, _ => false
  | _, _ => false
def mSs (G : Tabs) (sc : Scope) (N : List Str) : List St → List PyS → Bool
  | [], p => p.isEmpty
  | e :: es, p => match p with
    | x :: xs => mS G sc N e x && mSs G sc N es xs
    | [] => false
end
section
variable {G : Tabs} {X : Cx} {W : WX} {C : CallF}
theorem _root_.L2.PS.imp {X : Cx} {e : PyS} {t u : TS} (h : PS X e t) (k : ∀ D σ H, u D σ H → t D σ H) : PS X e u := ⟨fun pins s σ H D I q => h.run pins s σ H D I (k D σ H q)⟩
theorem _root_.L2.PSs.imp {X : Cx} {e : List PyS} {t u : TS} (h : PSs X e t) (k : ∀ D σ H, u D σ H → t D σ H) : PSs X e u := ⟨fun pins s σ H D I q => h.run pins s σ H D I (k D σ H q)⟩
theorem swn {v : Py} {t : Option Py} {l : Nat} {env : Env} (h : noCompB v = true) : PySem.swapsWith v t l env = Pure.pure false := by
  cases v <;> first | rfl | cases h
theorem p_iset {o k e : E} {b i v : Py} {q pos : PySem.Pos} (ev : Ev G X W C) (hs : noSliceB i = true) (ho : PE X b (tE X.K W C o)) (hk : PE X i (tE X.K W C k)) (he : PE X v (tE X.K W C e)) : PS X (.Assign [.Subscript b i q] v pos) (tS1 X.K W C (.iset o k e)) := by
  have hu := ev.hu
  refine (L2.ps_dput (by omega) ho (hk.imp fun _ _ _ q => t_D q) he ?_).imp fun _ _ _ q => t_iset q
  cases v <;> rfl
theorem locB_loc {sc : Scope} {x : Str} (h : locB sc x = true) : L2.Loc sc x := by
  unfold locB at h
  split at h
  · rename_i e; exact .inl e
  · rename_i e; exact .inr e
  · cases h
theorem p_tgtS {is : List Nat} {t : Py} (hfn : ∀ x, X.fn x = true) (hc : X.calm = true) (hN : X.N.Nodup) (h : tgtS X.env.scope X.N is t = true) : PG X t (tG X.K is) := by
  unfold tgtS at h
  split at h
  · rename_i i x p
    simp only [Bool.and_eq_true, decide_eq_true_eq] at h
    refine ⟨fun pins s σ H v u Q I r q => ?_⟩
    refine (L2.pg_name hN h.1 (locB_loc h.2) (.inl (hfn _))).run pins s σ H v u Q I r ?_
    obtain ⟨M, d, s0, s1, rt, rd, hb, q⟩ := q
    simp only [bindT] at hb
    injection hb with hb
    subst hb
    obtain ⟨t1, t2⟩ := rt.asgnE (j := i) rd
    exact q _ _ t1 rfl t2 (fun j hj => List.getElem?_set_ne fun z => hj (by simp [z])) (by simp)
  · rename_i i j x p y p2 k p3
    simp only [Bool.and_eq_true, decide_eq_true_eq] at h
    obtain ⟨⟨⟨h1, h2⟩, h3, h4⟩, h5⟩ := h
    refine ⟨fun pins s σ H v u Q I r q => ?_⟩
    refine (L2.pg_tup (n := 2) hc (L2.pgs_cons (L2.pg_name hN h1 (locB_loc h2) (.inl (hfn _))) (L2.pgs_cons (L2.pg_name hN h3 (locB_loc h4) (.inl (hfn _))) L2.pgs_nil))).run pins s σ H v u Q I r ?_
    obtain ⟨M, d, s0, s1, rt, rd, hb, q⟩ := q
    simp only [bindT] at hb
    split at hb
    · rename_i xs
      split at hb
      · rename_i hl
        injection hb with hb
        subst hb
        cases rd with
        | tup hq hs =>
          cases hs with
          | nil => cases hl
          | cons r1 hs =>
            cases hs with
            | nil => cases hl
            | cons r2 hs =>
              cases hs with
              | cons _ _ => simp at hl
              | nil =>
                obtain ⟨t1, t2⟩ := rt.asgnE (j := i) r1
                obtain ⟨u1, u2⟩ := t1.asgnE (j := j) (r2.mono (t2.kept rt.hp.wf))
                refine ⟨_, _, rfl, hq, rfl, _, _, rfl, ?_⟩
                refine ⟨_, _, rfl, rfl, ?_⟩
                refine q _ _ u1 rfl (t2.trans u2) (fun k hk => ?_) (by simp)
                rw [List.getElem?_set_ne (fun z => hk (by simp [z])), List.getElem?_set_ne (fun z => hk (by simp [z]))]
      · cases hb
    · cases hb
  · cases h
theorem sw_cell {v : Py} {x : Str} {q : PySem.Pos} {l : Nat} {env : Env} (h : env.scope.names.lookup x = some .cell) : PySem.swapsWith v (some (.Name x q)) l env = Pure.pure false := by
  have hk : env.kindOf x = some .cell := h
  unfold PySem.swapsWith
  have e : (PySem.NameKind.cell == PySem.NameKind.local) = false := rfl
  cases v <;> first | rfl | simp [hk, e]
/-- name = [..] -/
theorem p_setc {i : Nat} {x : Str} {q pos : PySem.Pos} {is : List Nat} {it : It} {cs : List E} {e : E} {p : Py} (ev : Ev G X W C) (hi : X.N[i]? = some x) (hx : X.env.scope.names.lookup x = some .local) (hsw : swB X.env.scope x q p = true) (hnk : nk it = true) (h : mE G X.env.scope X.N (.comp is it cs e) p = true) :
    PS X (.Assign [.Name x q] p pos) (tS1 X.K W C (.asgn i (.comp is it cs e))) := by
  simp only [mE] at h
  split at h
  · rename_i b i' fs s2 e0
    obtain ⟨h12, h3⟩ := andT h
    obtain ⟨h1, h2⟩ := andT h12
    unfold vComp at e0
    split at e0
    · rename_i b' t i'' fs' a scope pos'
      split at e0
      · rename_i g
        injection e0 with e0
        injection e0 with z1 e0
        injection e0 with z2 e0
        injection e0 with z3 z4
        subst z1 z2 z3 z4
        simp only [Bool.and_eq_true, decide_eq_true_eq] at g
        obtain ⟨⟨g1, g2⟩, g3⟩ := g
        subst g1
        unfold blkB at g3
        split at g3
        · rename_i own eo
          obtain ⟨g4, g5⟩ := andT g3
          have hix := own_ix eo
          have tgi : tgIs is := by
            unfold tgtB at g5
            split at g5
            · exact .inl ⟨_, rfl⟩
            · simp only [Bool.and_eq_true, decide_eq_true_eq] at g5
              exact .inr ⟨_, _, rfl, g5.2⟩
            · cases g5
          unfold swB at hsw
          simp only [Bool.and_eq_true, decide_eq_true_eq, Bool.not_eq_true'] at hsw
          obtain ⟨⟨w1, w2⟩, w3⟩ := hsw
          have wk : X.env.scope.kind = .function := by
            revert w2
            cases X.env.scope.kind <;> intro w2 <;> first | rfl | cases w2
          refine ((L2.ps_setLc (g := tG X.K is) (tt := tTs X.K C cs) (te := tD X.K noW C e) ev.calm ev.nd hi hx (L2.sw_true wk hx (by rw [w1]; exact beq_self_eq_true _) w3) (sI it X W _ _ ev hnk h1) (L2.blkOk_by g4) (fun s H D cl fp => ?_) (fun s H D cl fp => ?_) (fun s H D cl fp => ?_) (fold_set g2))).imp fun D σ H q => ?_
          · exact (p_tgt (X := X.blk s H scope (PySem.compEnvC scope cl D X.env) fp) ev.calm ev.nd g5).1
          · cases cs with
            | nil =>
              simp only [mC] at h2
              cases fs' with
              | nil => exact pts_none
              | cons _ _ => cases h2
            | cons c cs =>
              simp only [mC] at h2
              split at h2
              · obtain ⟨k1, k2⟩ := andT h2
                cases cs with
                | cons _ _ => cases k2
                | nil => exact pts_some (sE c _ _ _ ev.blk k1).t
              · cases h2
          · exact (sE e _ _ _ ev.blk h3).v.imp fun _ _ _ q => t_D q
          · rw [hix]
            have := t_asgn q
            exact t_comp tgi this
        · cases g3
      · cases e0
    · cases e0
  · cases h
theorem noStar_is {a : Py} (h : noStarB a = true) : (match a with
    | .Starred .. => true
    | _ => false) = false := by
  cases a <;> first | rfl | cases h
theorem par_sw {env : Env} {x y : Str} {px py pt pt2 : PySem.Pos} {kt k2 : Nat} {a b : Py} (hk : env.scope.kind = .function) (hx : env.scope.names.lookup x = some .local) (hy : env.scope.names.lookup y = some .local) (hne : x ≠ y) (hl : px.line = py.line) (hs : [a, b].all noStarB = true)
    (hf : ([a, b].all (PySem.foldedForSure 8)) = false) (hc : ([a, b].all (PySem.constantsAlone 8)) = false) : PySem.swappedStores [.Tuple [.Name x px, .Name y py] kt pt] (.Tuple [a, b] k2 pt2) env = Pure.pure (some [x, y]) := by
  have kx : env.kindOf x = some .local := hx
  have ky : env.kindOf y = some .local := hy
  have hb : env.blockKind = .function := by unfold PySem.Env.blockKind; rw [hk]; rfl
  have st := all_two hs
  have ne : (y == x) = false := by simpa using fun z => hne z.symm
  have ne2 : (x == y) = false := by simpa using hne
  unfold PySem.swappedStores
  simp only [hb, kx, ky, hf, hc, List.length_cons, List.length_nil, List.filterMap_cons, List.filterMap_nil, List.any_cons, List.any_nil, noStar_is st.1, noStar_is st.2, List.head?_cons, Option.map_some, Option.getD_some, PySem.Expr.pos, hl]
  simp [List.eraseDups_cons, ne, ne2]
  intro hz
  rcases hz with hz | hz
  · have z := st.1
    cases a <;> first | (cases hz; done) | (cases z; done)
  · have z := st.2
    cases b <;> first | (cases hz; done) | (cases z; done)
theorem t_par {K : Fr} {W : WX} {C : CallF} {σ : L2.St} {H : Hp} {D : L2.Ends} {i j : Nat} {es : List E} (h : tS1 K W C (.par [i, j] es) D σ H) : L2.tPar i j (tEs K W C es) D σ H := by
  obtain ⟨M, s, rt, h⟩ := h
  refine ⟨M, s, rt, ?_⟩
  simp only [execS] at h
  refine h.term fun ds s1 M1 H1 vs hx e1 p1 rt1 rl1 h1 => ?_
  by_cases g : ds.length = [i, j].length
  · rw [if_pos g] at h1
    cases rl1 with
    | nil => cases g
    | cons r1 rl1 =>
      cases rl1 with
      | nil => cases g
      | cons r2 rl1 =>
        cases rl1 with
        | cons _ _ => simp at g
        | nil =>
          obtain ⟨t1, t2⟩ := rt1.asgnV (j := i) r1
          obtain ⟨u1, u2⟩ := t1.asgnV (j := j) (r2.mono (t2.kept rt1.hp.wf))
          exact ⟨_, _, rfl, h1.2 _ _ _ (t2.trans u2) u1⟩
  · rw [if_neg g] at h1; exact h1.2.elim
mutual
theorem sS : ∀ (st : St) (p : PyS), Ev G X W C → (PySem.PassesOwn (PySem.model X.prog X.w) X.A X.env X.xe ∧ ∀ x, X.fn x = true) → mS G X.env.scope X.N st p = true → PS X p (tS1 X.K W C st)
  | .asgn i e, p, ev, po, h => by
    simp only [mS] at h
    split at h
    · rename_i x q v pos
      simp only [Bool.and_eq_true, decide_eq_true_eq, Bool.or_eq_true] at h
      obtain ⟨⟨⟨h1, h2⟩, h3⟩, h4⟩ := h
      rcases h3 with h3 | ⟨⟨h3, h6⟩, h5⟩ | h3
      · exact (L2.ps_set ev.nd h1 (locB_loc h2) (sE e X W v ev h4).v (swn h3) (.inl (po.2 _))).imp fun _ _ _ q => t_asgn q
      · cases e with
        | comp is it cs e => exact p_setc ev h1 h6 h5 h3 h4
        | _ => cases h3
      · exact (L2.ps_set ev.nd h1 (locB_loc h2) (sE e X W v ev h4).v (sw_cell h3) (.inl (po.2 _))).imp fun _ _ _ q => t_asgn q
    · cases h
  | .unp is e, p, ev, po, h => by
    simp only [mS] at h
    split at h
    · rename_i t v pos
      simp only [Bool.and_eq_true] at h
      obtain ⟨⟨⟨⟨h1, h2⟩, h3⟩, h4⟩, h5⟩ := h
      refine (L2.ps_asg ((sE e X W v ev h5).v.imp fun _ _ _ q => t_D q) (p_tgtS po.2 ev.calm ev.nd h1) (swn h3) ?_ ?_).imp fun _ _ _ q => t_unp q
      · cases t <;> first | (cases v <;> first | rfl | (cases h4; done)) | cases h2
      · cases t <;> first | rfl | cases h2
    · cases h
  | .fset cs o f e, p, ev, po, h => by
    simp only [mS] at h
    split at h
    · rename_i b g q v pos
      simp only [Bool.and_eq_true, decide_eq_true_eq] at h
      obtain ⟨⟨⟨h1, h2⟩, h3⟩, h4⟩ := h
      subst h1
      refine (L2.ps_fld (sE o X W b ev h3).v (sE e X W v ev h4).v ?_).imp fun _ _ _ q => t_fset (fun c hc => ev.fl c f (List.all_eq_true.mp h2 c (by simpa using hc))) q
      cases v <;> rfl
    · cases h
  | .iset o k e, p, ev, po, h => by
    simp only [mS] at h
    split at h
    · rename_i b i q v pos
      simp only [Bool.and_eq_true] at h
      obtain ⟨⟨⟨h1, h2⟩, h3⟩, h4⟩ := h
      exact p_iset ev h1 (sE o X W b ev h2).v (sE k X W i ev h3).v (sE e X W v ev h4).v
    · cases h
  | .expr e, p, ev, po, h => by
    simp only [mS] at h
    split at h
    · obtain ⟨h1, h2⟩ := andT h
      exact (L2.ps_expr (sE e X W _ ev h2).v (swn h1)).imp fun _ _ _ q => t_drop q
    · cases h
  | .ret e, p, ev, po, h => by
    simp only [mS] at h
    split at h
    · exact (L2.ps_ret (sE e X W _ ev h).v).imp fun _ _ _ q => t_ret q
    · cases h
  | .retN, p, ev, po, h => by
    simp only [mS] at h
    split at h
    · exact L2.ps_retN.imp fun _ _ _ q => t_retN q
    · cases h
  | .ite c a b, p, ev, po, h => by
    simp only [mS] at h
    split at h
    · obtain ⟨h12, h3⟩ := andT h
      obtain ⟨h1, h2⟩ := andT h12
      exact (L2.ps_if (sE c X W _ ev h1).t (sSs a _ ev po h2) (sSs b _ ev po h3)).imp fun _ _ _ q => t_ite q
    · cases h
  | .whil c b, p, ev, po, h => by
    simp only [mS] at h
    split at h
    · obtain ⟨h1, h2⟩ := andT h
      exact (L2.ps_while po.1 (sE c X W _ ev h1).t (sSs b _ ev po h2)).imp fun _ _ _ q => t_whil q
    · cases h
  | .forr is it b, p, ev, po, h => by
    simp only [mS] at h
    split at h
    · obtain ⟨h123, h4⟩ := andT h
      obtain ⟨h12, h3⟩ := andT h123
      obtain ⟨h1, h2⟩ := andT h12
      have pb := sSs b _ ev po h4
      by_cases hn : nk it = true
      · exact (L2.ps_for po.1 ev.calm (sI it X W _ _ ev hn h3) (p_tgtS po.2 ev.calm ev.nd h2) pb (fold_set h1)).imp fun _ _ _ q => t_forr hn q
      · cases it with
        | keys e0 =>
          simp only [mI] at h3
          split at h3
          · rename_i b0 hk
            obtain ⟨j1, j2⟩ := andT h3
            exact (ps_orLock (L2.ps_for po.1 ev.calm (pi_keysE j1 hk j2) (p_tgtS po.2 ev.calm ev.nd h2) pb (fold_set h1))).imp fun _ _ _ q => t_forKeys j1 ev.fl j2 q
          · cases h3
        | vals e0 => simp [mI] at h3
        | _ => exact absurd rfl hn
    · cases h
  | .brk, p, ev, po, h => by
    simp only [mS] at h
    split at h
    · exact L2.ps_break.imp fun _ _ _ q => t_brk q
    · cases h
  | .pas, p, ev, po, h => by
    simp only [mS] at h
    split at h
    · exact L2.ps_pass.imp fun _ _ _ q => t_pas q
    · cases h
  | .par is es, p, ev, po, h => by
    simp only [mS] at h
    split at h
    · rename_i i j x px y py kt pt a b k2 pt2 pos
      simp only [Bool.and_eq_true, decide_eq_true_eq, Bool.not_eq_true'] at h
      obtain ⟨⟨⟨⟨⟨⟨⟨⟨⟨⟨⟨h1, h2⟩, h3⟩, h4⟩, h5⟩, h6⟩, h7⟩, h8⟩, h9⟩, h10⟩, h11⟩, h12⟩ := h
      have hk : X.env.scope.kind = .function := by
        revert h7
        cases X.env.scope.kind <;> intro h7 <;> first | rfl | cases h7
      exact (L2.ps_par ev.calm ev.nd h1 h2 h3 h5 h6 (p_list (fun e he p hp => sEs es X W ev e he p hp) h9 h12) (par_sw hk h5 h6 h4 h8 h9 h10 h11)).imp fun _ _ _ q => t_par q
    · cases h
  | .rais c es, p, ev, po, h => by simp [mS] at h
  | .tryx b c n su, p, ev, po, h => by simp [mS] at h
theorem sSs : ∀ (sts : List St) (p : List PyS), Ev G X W C → (PySem.PassesOwn (PySem.model X.prog X.w) X.A X.env X.xe ∧ ∀ x, X.fn x = true) → mSs G X.env.scope X.N sts p = true → PSs X p (tS X.K W C sts)
  | [], p, ev, po, h => by
    simp only [mSs] at h
    cases p with
    | nil => exact L2.pss_nil.imp fun _ _ _ q => t_snil q
    | cons _ _ => cases h
  | st :: r, p, ev, po, h => by
    cases p with
    | nil => simp [mSs] at h
    | cons x xs =>
      simp only [mSs] at h
      obtain ⟨h1, h2⟩ := andT h
      exact (L2.pss_cons (sS st x ev po h1) (sSs r xs ev po h2)).imp fun _ _ _ q => t_scons q
end
end
end KW
/-! KwFun: the defs. -/
namespace KW
open PySem (Str Addr Value Program World Heap Operator CmpOp binaryOp compareOp PyData Scope Const Env wpAny_bind wpAny_mono)
open PySem.Spec PyProof.Rows
open L2 (V Hp HO upd upd_same upd_ne upd_upd SqL SqT Rd RelV Mut TE TT TA TS TI TG PI PG WX PE PT PW PA PS PSs Cx Inv OpR UnR CallR MtR IxR SlR TruR VK EP XK rI0)
/-- what is known of a def of the top -/
structure FnFact (K : Fr) (G : Tabs) (name : String) (fn : Fn) (a : Addr) : Prop where
  ex : ∃ (x : Str) (qual : Str) (params : PySem.Arguments) (body : List PyS) (scope : Scope) (kws : List (Str × V)) (fd : PySem.FuncData) (N ps : List Str), L2.FunD K x qual params body scope [] kws a fd ∧ L2.FnScope N ps scope ∧ L2.Binds K fd ps [] ∧
    N.length = fn.ns ∧ ps.length = fn.np ∧ mSs G scope N fn.body body = true
/-- what is known of the whole -/
structure Facts (K : Fr) (w : World) (mg : Str → Option Value) (G : Tabs) (g : Prog) : Prop where
  bl : ∀ x ∈ bltNames, mg (sst x) = none
  gl : ∀ x d, (G.gl.any fun q => q.1 == x && beqD q.2 d) = true → GlobOk K mg x d
  tb : ∀ x kvs, (G.tb.any fun q => q.1 == x && beqTs q.2 kvs) = true → TabOk K w mg x kvs
  ls : ∀ x ts, (G.ls.any fun q => q.1 == x && decide (q.2 = ts)) = true → LsOk K mg x ts
  fs : ∀ f, G.fs.contains f = true → ∃ a fn, g f = some fn ∧ mg (sst f) = some (.ref a) ∧ FnFact K G f fn a
  cs : ∀ c, G.cs.contains c = true → ∃ a fn, g (c ++ ".__init__") = some fn ∧ mg (sst c) = some (.ref (cA K c)) ∧ L2.Mk K (cA K c) a ∧ FnFact K G (c ++ ".__init__") fn a
  ms : ∀ c m, G.ms.contains (c, m) = true → ∃ a fn, g (c ++ "." ++ m) = some fn ∧ L2.Cls K (cA K c) ∧ L2.Meth K (cA K c) (sst m) a ∧ FnFact K G (c ++ "." ++ m) fn a
  fl : ∀ c f, G.fl.contains (c, f) = true → L2.Cls K (cA K c) ∧ L2.NoAttr K (cA K c) (sst f)
section
variable {P : Program} {w : World} {K : Fr} {mg : Str → Option Value} {base : Heap} {G : Tabs} {g : Prog}
theorem callF_len {d : Nat} {f : String} {ds : List D} {h : List Cell} (hn : callF g d f ds h ≠ .stuck) : ∃ fn, g f = some fn ∧ ds.length = fn.np := by
  cases d with
  | zero => exact absurd rfl hn
  | succ d =>
    simp only [callF] at hn
    cases q : g f with
    | none => rw [q] at hn; exact absurd rfl hn
    | some fn =>
      rw [q] at hn
      refine ⟨fn, rfl, ?_⟩
      by_cases e : ds.length = fn.np
      · exact e
      · simp only [if_neg e] at hn; exact absurd rfl hn
theorem sp_not {C : CallF} {f : String} {vs : List V} {H : Hp} {Q : VK} {E : XK} (h : spOf K C f vs H Q E) : ∃ ds hh, C f ds hh ≠ .stuck ∧ ds.length = vs.length := by
  obtain ⟨M, ds, hh, _, _, _, rs, q⟩ := h
  exact ⟨ds, hh, fun z => by rw [z] at q; exact q, RD.len_eq rs⟩
/-- the end of a def -/
theorem fun_end {C : CallF} {M : MM} {H : Hp} {h : List Cell} {σ0 : List (Option SV)} {Q : VK} {E : XK} {r : R Flow} (nl : noLoc M) (lk : M.lk = none)
    (hq : match (r.bind fun f s => match f with
        | .next => .ok (.val .non) ⟨[], s.h⟩
        | .ret v => .ok v ⟨[], s.h⟩
        | .brk => .stuck : R RV) with
      | .ok x s' => ∀ M' H' v, Ext h.length M H s'.h.length M' H' → RH K M' H' s'.h → noSlot M' → RR K s'.h.length M' H' x v → isPk x = false → Fresh H x v → Q v H'
      | .raise x s' => ∀ M' H' cls d, Ext h.length M H s'.h.length M' H' → RH K M' H' s'.h → noSlot M' → RX K s'.h.length M' H' x cls d → E cls d H'
      | .stuck => False) : OutS K (fun cls d _ H => E cls d H) M H ⟨σ0, h⟩ r { nx := fun _ H' => Q .non H', rt := Q } := by
  refine ⟨lk, ?_⟩
  have ns : ∀ {M' : MM}, noLoc M' → noSlot M' := fun {M'} z a j e => by have := z a; rw [e] at this; cases this
  have ex : ∀ {n' M' H'}, ExtS h.length M H n' M' H' → Ext h.length M H n' M'.call H' := fun {n' M' H'} e => by
    refine ⟨fun a o q p => ?_, e.dom, e.loc, e.le, fun a z => ?_, e.lk⟩
    · have p2 : M.who a = none ∨ M.who a = some .oth := by
        rcases p with p | p | p
        · exact .inl p
        · have := nl a; rw [p] at this; cases this
        · exact .inr p
      obtain ⟨h1, h2⟩ := e.keep a o q p2
      refine ⟨h1, ?_⟩
      rw [call_who (by rw [h2]; exact nl a)]
      exact h2
    · cases q : isLoc (M'.who a) with
      | true => rw [call_loc q] at z; cases z
      | false => rw [call_who q, q] at z; cases z
  cases r with
  | stuck => exact hq
  | raise x s' =>
    intro M' H' σ' cls d e rt rx
    obtain ⟨r1, r2⟩ := rt.hp.call
    refine hq M'.call H' cls d (ex e) r1 (ns r2) ⟨rx.1, ?_⟩
    rcases rx.2 with z | ⟨a, gs, e1, e2, e3⟩
    · exact .inl z
    · exact .inr ⟨a, gs, e1, e2, e3.mono (keep_call rt.hp.wf)⟩
  | ok f s' =>
    cases f with
    | next =>
      intro M' H' σ' e rt
      obtain ⟨r1, r2⟩ := rt.hp.call
      exact hq M'.call H' .non (ex e) r1 (ns r2) (.val .non) rfl fun c z => by cases z
    | brk => exact hq.elim
    | ret v =>
      intro M' H' u e rh rr pk
      obtain ⟨r1, r2⟩ := rh.call
      cases rr with
      | val rd => exact hq M'.call H' u (ex e) r1 (ns r2) (.val (rd.mono (keep_call rh.wf))) rfl fun c z => by cases z
      | pk _ _ => cases pk
      | @own c a hw hc =>
        have hn : H a = none := by
          rcases e.nl a (by rw [hw]; rfl) with z | z
          · rw [nl a] at z; cases z
          · exact z
        have ne : ∀ b l, M'.call.who b = some l → l ≠ .oth → b ≠ a := fun b l q hl z => by
          rw [z, call_loc (by rw [hw]; rfl)] at q
          injection q with q
          exact hl q.symm
        have nn : ∀ b, M'.call.who b = none → b ≠ a := fun b q z => by rw [z, call_loc (by rw [hw]; rfl)] at q; cases q
        have kp : Keep s'.h.length M'.call H' s'.h.length (M'.call.set a (some .tmp)) H' := ⟨r1.wf, fun b o q z => ⟨q, by rw [MM.set_ne (nn b z)]; exact z⟩, fun _ _ => rfl, Nat.le_refl _⟩
        have e2 := ex e
        refine hq (M'.call.set a (some .tmp)) H' (.ref a) ⟨fun b o q p => ?_, e2.dom, e2.loc, e2.le, fun b z => ?_, e2.lk⟩ ?_ (fun b j z => ?_) (.own MM.set_same ((hc.mono (keep_call rh.wf) rfl).mono kp rfl)) rfl fun c _ b z => ?_
        · obtain ⟨k1, k2⟩ := e2.keep b o q p
          refine ⟨k1, ?_⟩
          rw [MM.set_ne fun z => by rw [z, hn] at q; cases q]
          exact k2
        · by_cases q : b = a
          · subst q; exact .inr hn
          · rw [MM.set_ne q] at z; exact e2.nl b z
        · refine r1.relab rfl (fun b l q => ?_) (fun b c l h1 h2 eb ec => ?_) (fun b q _ => by rw [MM.set_ne (nn b q)]; exact q) fun b l q h1 h2 => by rw [MM.set_ne (ne b l q h2)]; exact q
          · by_cases z : b = a
            · subst z; exact rh.wf b _ hw
            · rw [MM.set_ne z] at q; exact r1.wf b l q
          · by_cases zb : b = a
            · subst zb; rw [MM.set_same] at eb; injection eb with eb; exact absurd eb.symm h1
            · by_cases zc : c = a
              · subst zc; rw [MM.set_same] at ec; injection ec with ec; exact absurd ec.symm h1
              · rw [MM.set_ne zb] at eb; rw [MM.set_ne zc] at ec; exact r1.uq b c l h1 h2 eb ec
        · by_cases q : b = a
          · subst q; rw [MM.set_same] at z; cases z
          · rw [MM.set_ne q] at z; exact ns r2 b j z
        · injection z with z
          subst z
          exact hn
theorem start_get {N : List Str} {vs : List V} {j : Nat} {v : V} (h : vs[j]? = some v) : (L2.start N vs)[j]? = some (some v) := by
  unfold L2.start
  have hj : j < vs.length := (List.getElem?_eq_some_iff.mp h).1
  rw [List.getElem?_append_left (by simpa using hj), List.getElem?_map, h]
  rfl
theorem start_rt {M : MM} {H : Hp} {h : List Cell} {ds : List D} {vs : List V} {N : List Str} {ns : Nat} (rh : RH K M H h) (rs : RDs K h.length M H ds vs) (hn : N.length = ns) :
    RT K M H (L2.start N vs) ⟨(ds.map fun d => some (.val d)) ++ List.replicate (ns - ds.length) none, h⟩ := by
  have hl := RD.len_eq rs
  refine ⟨rh, ?_, fun j sv q => ?_⟩
  · unfold L2.start
    simp [hl, hn]
  · have q : ((ds.map fun d => some (SV.val d)) ++ List.replicate (ns - ds.length) none)[j]? = _ := q
    by_cases hj : j < ds.length
    · rw [List.getElem?_append_left (by simpa using hj), List.getElem?_map, List.getElem?_eq_getElem hj] at q
      injection q with q
      injection q with q
      subst q
      obtain ⟨v, g1, g2⟩ := rs.get (List.getElem?_eq_getElem hj)
      exact ⟨v, start_get g1, .val g2⟩
    · rw [List.getElem?_append_right (by simpa using hj), List.getElem?_replicate] at q
      split at q
      · cases q
      · cases q
/-- every def keeps what the small language says of it -/
theorem fn_at (F : Facts K w mg G g) : ∀ (d : Nat) (name : String) (fn : Fn) (a : Addr) (x qual : Str) (params : PySem.Arguments) (body : List PyS) (scope : Scope) (kws : List (Str × V)) (fd : PySem.FuncData) (N ps : List Str),
    g name = some fn → L2.FunD K x qual params body scope [] kws a fd → L2.FnScope N ps scope → N.length = fn.ns → ps.length = fn.np → mSs G scope N fn.body body = true → L2.FnOk P w K mg base (L2.CX P w) (2 * d) a fd ps (spOf K (callF g d) name) := by
  intro d
  induction d with
  | zero =>
    intro name fn a x qual params body scope kws fd N ps hg hF hS hN hp hm
    refine ⟨fun vs H Q E z => ?_, fun A outer s H args us vs Q E _ _ _ _ z => ?_⟩
    · obtain ⟨ds, hh, hn, _⟩ := sp_not z
      exact absurd rfl hn
    · obtain ⟨ds, hh, hn, _⟩ := sp_not z
      exact absurd rfl hn
  | succ d ih =>
    intro name fn a x qual params body scope kws fd N ps hg hF hS hN hp hm
    show L2.FnOk P w K mg base (L2.CX P w) (2 * d + 1 + 1) a fd ps _
    refine hF.ok hS (fun vs H Q E z => ?_) fun cdv A outer s H vs Q E hr hsp => ?_
    · obtain ⟨ds, hh, hn, hl⟩ := sp_not z
      obtain ⟨fn', e1, e2⟩ := callF_len hn
      rw [hg] at e1
      injection e1 with e1
      subst e1
      omega
    · obtain ⟨M, ds, h, lk, rh, nl, rs, q⟩ := hsp
      have hn : callF g (d + 1) name ds h ≠ .stuck := fun z => by rw [z] at q; exact q
      obtain ⟨fn', e1, e2⟩ := callF_len hn
      rw [hg] at e1
      injection e1 with e1
      subst e1
      simp only [callF, hg, if_pos e2] at q
      refine ⟨tS K (fun cls d _ H => E cls d H) (callF g d) fn.body, ?_, M, _, start_rt rh rs hN, ?_⟩
      · have ok : ∀ (f : String) (fn : Fn) (b : Addr), g f = some fn → FnFact K G f fn b → CallOk (L2.cxOf (L2.CX P w) P w K mg base N qual scope a cdv A outer s H E) (callF g d) f b := fun f fn b h1 h2 => by
          obtain ⟨x', qual', params', body', scope', kws', fd', N', ps', hF', hS', hb', hN', hp', hm'⟩ := h2.ex
          exact ⟨fd', ps', 2 * d, hF'.kp, hb', ih f fn b _ _ _ _ _ _ _ _ _ h1 hF' hS' hN' hp' hm', hr⟩
        have ev : Ev G (L2.cxOf (L2.CX P w) P w K mg base N qual scope a cdv A outer s H E) (fun cls d _ H => E cls d H) (callF g d) := by
          refine ⟨?_, rfl, hS.nd, L2.takes_of rfl rfl rfl rfl, F.bl, F.gl, F.tb, F.ls, fun f hf => ?_, fun c hc => ?_, fun c m hm => ?_, F.fl⟩
          · have := hr.un
            show (A.deeper _).units + 65 < _
            omega
          · obtain ⟨b, fn, k1, k2, k3⟩ := F.fs f hf
            exact ⟨b, k2, ok _ _ _ k1 k3⟩
          · obtain ⟨b, fn, k1, k2, k3, k4⟩ := F.cs c hc
            exact ⟨b, k2, k3, ok _ _ _ k1 k4⟩
          · obtain ⟨b, fn, k1, k2, k3, k4⟩ := F.ms c m hm
            exact ⟨b, k2, k3, ok _ _ _ k1 k4⟩
        exact sSs fn.body body ev ⟨L2.passes_of rfl, fun _ => rfl⟩ hm
      · rw [← e2] at q
        exact fun_end (C := callF g d) nl lk q
end
end KW
/-! KwHead: what the top leaves, looked at once. -/
namespace KW
open PySem (Str Addr Value Program World Heap Operator CmpOp binaryOp compareOp PyData Scope Const Env Shared)
open PySem.Spec PyProof.Rows
open L2 (V Hp HO upd upd_same upd_ne upd_upd SqL SqT Rd RelV)
/-! ### what is looked at -/
/-- level by level from the module's names -/
def lvl (g : Addr → Option PySem.Obj) (as : List Addr) : List Addr := as.flatMap fun a => match g a with
  | some o => He.refsO o
  | none => []
def asK (g : Addr → Option PySem.Obj) : Nat → List Addr → List Addr
  | 0, as => as
  | n + 1, as => as ++ asK g n (lvl g as)
abbrev AlK : Type := He.AlT × Bool
def obsK (fa : List He.Fa) (fn : List He.DefD) (ts : List He.Tab) (x : Fr → Bool) (K : Fr) : AlK := (He.obsT fa fn ts K, x K)
def valK (fn : List He.DefD) (ts : List He.Tab) (w : World) : AlK := (He.valT fn ts w, true)
def obsKG (n : Nat) (fa : List He.Fa) (fn : List He.DefD) (ts : List He.Tab) (x : Fr → Bool) (g : Addr → Option PySem.Obj) : AlK := obsK fa fn ts x (He.frG g (asK g n [PySem.mainGlobals]))
def SaysK (fa : List He.Fa) (fn : List He.DefD) (ts : List He.Tab) (x : Fr → Bool) (w : World) (K : Fr) : Prop := obsK fa fn ts x K = valK fn ts w
def hookK (n : Nat) (fa : List He.Fa) (fn : List He.DefD) (ts : List He.Tab) (x : Fr → Bool) : PySem.W.Hook where
  α := AlK
  obs := fun s => obsKG n fa fn ts x s.heap.get?
  val := fun w => valK fn ts w
  says := fun w h => ∃ K : PySem.W.Frag, K.In h ∧ SaysK fa fn ts x w K
  of := fun _ _ e => ⟨_, He.frG_in, e⟩
  keeps := fun _ _ _ ⟨K, hK, c⟩ k => ⟨K, PySem.W.Frag.In.keeps hK k, c⟩
theorem obsKG_eq {n : Nat} {fa : List He.Fa} {fn : List He.DefD} {ts : List He.Tab} {x : Fr → Bool} {g : Addr → Option PySem.Obj} {s : Shared} (h : ∀ a, g a = s.heap.get? a) : obsKG n fa fn ts x g = (hookK n fa fn ts x).obs s := by
  have e : g = s.heap.get? := funext h
  rw [e] <;> rfl
section
variable {fa : List He.Fa} {fn : List He.DefD} {ts : List He.Tab} {x : Fr → Bool} {w : World} {K : Fr}
theorem SaysK.t (c : SaysK fa fn ts x w K) : He.SaysT fa fn ts w K := congrArg (fun z : AlK => z.1) c
theorem SaysK.more (c : SaysK fa fn ts x w K) : x K = true := congrArg (fun z : AlK => z.2) c
end
/-! ### constants -/
/-- an int, a text, a tuple of these, as a datum of the text -/
def dvOf : D → Option He.Dv
  | .int i => some (.int i)
  | .str t => some (.str (mst t))
  | _ => none
/-- the object u reads as d for ever -/
def litB (K : Fr) (u : Value) (d : D) : Bool := match d with
  | .int i => He.relB (.int i) u
  | .str t => okTB t && He.relB (.str (mst t)) u
  | .tup xs => match u with
    | .ref a => match K.lookup a with
      | some ⟨.type c, _, .seq its _, _⟩ => decide (c = "tuple") && decide (its.size ≤ PySem.sizeLine) && atomsB xs && He.relAll (xs.map vOf) its.toList
      | _ => false
    | _ => false
  | _ => false
where
  atomsB : List D → Bool
    | [] => true
    | .int _ :: r => atomsB r
    | .str t :: r => okTB t && atomsB r
    | _ :: _ => false
theorem atomsB_rd {K : Fr} {n : Nat} {M : MM} {H : Hp} : ∀ {xs : List D}, litB.atomsB xs = true → RDs K n M H xs (xs.map vOf)
  | [], _ => .nil
  | .int i :: r, h => .cons (.int i) (atomsB_rd (xs := r) h)
  | .str t :: r, h => by
    obtain ⟨h1, h2⟩ := Bool.and_eq_true_iff.mp (show (okTB t && litB.atomsB r) = true from h)
    exact .cons (.str t (okTB_ok h1)) (atomsB_rd h2)
  | .non :: _, h => by cases h
  | .bl _ :: _, h => by cases h
  | .tup _ :: _, h => by cases h
  | .lst _ :: _, h => by cases h
  | .dct _ :: _, h => by cases h
  | .ref _ :: _, h => by cases h
  | .exc _ _ :: _, h => by cases h
theorem litB_ok {K : Fr} {u : Value} {d : D} (h : litB K u d = true) : ∃ v, RelV v u ∧ ∀ n M H, RD K n M H d v := by
  unfold litB at h
  split at h
  · exact ⟨_, He.relB_ok h, fun _ _ _ => .int _⟩
  · obtain ⟨h1, h2⟩ := Bool.and_eq_true_iff.mp h
    exact ⟨_, He.relB_ok h2, fun _ _ _ => .str _ (okTB_ok h1)⟩
  · split at h
    · rename_i a
      split at h
      · rename_i c od its nn sl q
        simp only [Bool.and_eq_true, decide_eq_true_eq] at h
        obtain ⟨⟨⟨h1, h2⟩, h3⟩, h4⟩ := h
        subst h1
        refine ⟨.ref a, rfl, fun n M H => .tup (.inr ?_) (atomsB_rd h3)⟩
        exact ⟨_, its, nn, q, rfl, rfl, h2, He.relAll_ok h4⟩
      · cases h
    · cases h
  · cases h
/-- the module's name x stands for d -/
def gloB (K : Fr) (x : String) (d : D) : Bool := match PySem.W.nsIn K PySem.mainGlobals (sst x) with
  | some (some u) => litB K u d
  | _ => false
theorem gloB_ok {K : Fr} {mg : Str → Option Value} {h : Heap} {x : String} {d : D} (X : K.In h) (G : h.Ns PySem.mainGlobals mg) (c : gloB K x d = true) : GlobOk K mg x d := by
  unfold gloB at c
  split at c
  · rename_i u e
    obtain ⟨v, h1, h2⟩ := litB_ok c
    exact ⟨u, v, PySem.W.mg_of X G e, h1, h2⟩
  · cases c
end KW
/-! KwFacts: what the defs lean on, from what was looked at. -/
namespace KW
open PySem (Str Addr Value Program World Heap Operator CmpOp binaryOp compareOp PyData Scope Const Env Shared)
open PySem.Spec PyProof.Rows
open L2 (V Hp HO upd upd_same upd_ne upd_upd SqL SqT Rd RelV)
/-- one def of the top -/
structure FnI where
  key : String
  at_ : String × Option String
  name : String
  qual : String
  st : PyS
  fn : Fn
  N : List String
def FnI.dd (f : FnI) : He.DefD := ⟨(sst f.at_.1, f.at_.2.map sst), sst f.name, sst f.qual, L2.defArgs f.st, L2.defBody f.st, L2.defScope f.st, [], []⟩
def FnI.NN (f : FnI) : List Str := f.N.map sst
def FnI.ps (f : FnI) : List Str := (f.N.take f.fn.np).map sst
structure FnI.Ok (G : Tabs) (f : FnI) : Prop where
  sc : C8.scC f.NN f.ps (L2.defScope f.st) = true
  ln : f.NN.length = f.fn.ns
  lp : f.ps.length = f.fn.np
  bd : ∀ (kV doc pm : Value) (an : Option Addr) (cdv ct : Value) (us : List Value), us.length = f.ps.length → PySem.bindArgs (PySem.W.fnOf (sst f.name) (sst f.qual) (L2.defArgs f.st) (L2.defBody f.st) (L2.defScope f.st) .none kV doc pm an cdv ct) ⟨us, []⟩ = Pure.pure (f.ps.zip us)
  mt : mSs G (L2.defScope f.st) f.NN f.fn.body (L2.defBody f.st) = true
def faOf (G : Tabs) : List He.Fa := (bltNames.map fun x => .free (sst x)) ++ ((G.fs.map fun f => .glo (sst f)) ++ ((G.cs.map fun c => .glo (sst c)) ++ ((G.cs.map fun c => .cls (sst c)) ++ ((G.cs.map fun c => .mkr (sst c)) ++ ((G.ms.map fun q => .meth (sst q.1) (sst q.2)) ++
  ((G.fl.map fun q => .noat (sst q.1) (sst q.2)) ++ ((G.tb.map fun q => .glo (sst q.1)) ++ (G.ls.map fun q => .glo (sst q.1)))))))))
/-- a table: its keys and values -/
def entB (K : Fr) : List PySem.DictEntry → List (T × D) → Bool
  | [], [] => true
  | e :: r, q :: qs => (match e.key with
    | .str x _ => decide (x = mst q.1)
    | _ => false) && litB K e.val q.2 && entB K r qs
  | _, _ => false
def tabB (K : Fr) (x : String) (kvs : List (T × D)) : Bool := match K.lookup (He.ga K (sst x)) with
  | some ⟨_, _, .dict es _, _⟩ => entB K es.toList kvs
  | _ => false
def lsB (K : Fr) (x : String) (ts : List T) : Bool := He.lstB K (sst x) (ts.map fun t => .str (mst t)) && ts.all okTB
/-- no list of whole numbers stands at the top -/
def noInts (K : Fr) : Bool := K.all fun q => match q.2 with
  | ⟨.type c, _, .seq its _, _⟩ => !decide (c = "list") || its.toList.any fun u => match u with
    | .int _ _ => false
    | _ => true
  | _ => true
def xOf (G : Tabs) (K : Fr) : Bool := noInts K && ((G.gl.all fun q => gloB K q.1 q.2) && ((G.tb.all fun q => tabB K q.1 q.2) && (G.ls.all fun q => lsB K q.1 q.2)))
def tsOf (G : Tabs) : List He.Tab := G.tb.map fun q => (fun K => He.ga K (sst q.1), q.2.map fun z => mst z.1)
def findI (fis : List FnI) (k : String) : Option FnI := fis.find? fun f => f.key == k
def chkI (fis : List FnI) (k : String) (p : String × Option String) : Bool := match findI fis k with
  | some f => f.at_ == p
  | none => false
def chkG (G : Tabs) (fis : List FnI) : Bool := (G.fs.all fun f => chkI fis f (f, none)) && ((G.cs.all fun c => chkI fis (c ++ ".__init__") (c, some "__init__")) && ((G.ms.all fun q => chkI fis (q.1 ++ "." ++ q.2) (q.1, some q.2) && G.cs.contains q.1) && G.fl.all fun q => G.cs.contains q.1))
theorem entB_at {K : Fr} {t : T} : ∀ {es : List PySem.DictEntry} {kvs : List (T × D)}, entB K es kvs = true → match tfind t kvs with
    | some d => ∃ e v, es.find? (·.key.isStr (mst t)) = some e ∧ RelV v e.val ∧ ∀ n M H, RD K n M H d v
    | none => es.find? (·.key.isStr (mst t)) = none ∧ es.any (·.refKey) = false
  | [], [], _ => ⟨rfl, rfl⟩
  | [], _ :: _, h => by cases h
  | _ :: _, [], h => by cases h
  | e :: r, q :: qs, h => by
    obtain ⟨h12, h3⟩ := Bool.and_eq_true_iff.mp (show (((match e.key with
      | .str x _ => decide (x = mst q.1)
      | _ => false) && litB K e.val q.2) && entB K r qs) = true from h)
    obtain ⟨h1, h2⟩ := Bool.and_eq_true_iff.mp h12
    split at h1
    · rename_i x tt ek
      have ex := of_decide_eq_true h1
      have ih := entB_at (t := t) h3
      unfold tfind
      by_cases z : q.1 = t
      · rw [if_pos z]
        obtain ⟨v, h4, h5⟩ := litB_ok h2
        refine ⟨e, v, ?_, h4, h5⟩
        rw [List.find?_cons, ek]
        simp [Value.isStr, ex, z]
      · rw [if_neg z]
        have hk : e.key.isStr (mst t) = false := by
          rw [ek, ex]
          simp [Value.isStr, mst_iff, z]
        have hr : e.refKey = false := by
          unfold PySem.DictEntry.refKey
          rw [ek]
        cases y : tfind t qs with
        | none =>
          rw [y] at ih
          refine ⟨?_, ?_⟩
          · rw [List.find?_cons, hk]; exact ih.1
          · rw [List.any_cons, hr, ih.2]; rfl
        | some d =>
          rw [y] at ih
          obtain ⟨e2, v, i1, i2⟩ := ih
          exact ⟨e2, v, by rw [List.find?_cons, hk]; exact i1, i2⟩
    · cases h1
theorem tabB_ok {K : Fr} {w : World} {mg : Str → Option Value} {h : Heap} {x : String} {kvs : List (T × D)} {es : Array PySem.DictEntry} {n : Nat} (X : K.In h) (G : h.Ns PySem.mainGlobals mg) (hg : mg (sst x) = some (.ref (He.ga K (sst x)))) (hk : L2.KDict K w (He.ga K (sst x)) es n) (c : tabB K x kvs = true) : TabOk K w mg x kvs := by
  refine ⟨_, es, n, hg, hk, fun t => ?_⟩
  unfold tabB at c
  split at c
  · rename_i oc od es' ep sl q
    have := entB_at (t := t) c
    split
    · rename_i d e
      rw [e] at this
      obtain ⟨en, v, i1, i2, i3⟩ := this
      refine ⟨en.val, v, ?_, i2, i3⟩
      unfold PySem.W.nsIn
      rw [q]
      show (match es'.toList.find? (·.key.isStr (mst t)) with
        | some e => some (some e.val)
        | none => if es'.toList.any (·.refKey) then none else some none) = _
      rw [i1]
    · rename_i e
      rw [e] at this
      obtain ⟨i1, i2⟩ := this
      unfold PySem.W.nsIn
      rw [q]
      show (match es'.toList.find? (·.key.isStr (mst t)) with
        | some e => some (some e.val)
        | none => if es'.toList.any (·.refKey) then none else some none) = _
      rw [i1, i2]
      rfl
  · cases c
theorem findI_in {fis : List FnI} {k : String} {f : FnI} (h : findI fis k = some f) : f ∈ fis ∧ f.key = k := by
  refine ⟨List.mem_of_find?_eq_some h, ?_⟩
  have := List.find?_some h
  simpa using this
theorem lookI : ∀ {fis : List FnI} {k : String} {f : FnI}, findI fis k = some f → (fis.map fun f => (f.key, f.fn)).lookup k = some f.fn
  | [], _, _, h => by cases h
  | f0 :: r, k, f, h => by
    unfold findI at h
    rw [List.find?_cons] at h
    rw [List.map_cons, List.lookup_cons]
    by_cases e : f0.key = k
    · rw [show (f0.key == k) = true from by rw [e]; exact beq_self_eq_true _] at h
      cases h
      rw [show (k == f0.key) = true from by rw [e]; exact beq_self_eq_true _]
    · rw [show (f0.key == k) = false from by simpa using e] at h
      rw [show (k == f0.key) = false from by simpa using fun z => e z.symm]
      exact lookI h
section
variable {w : World} {K : Fr} {mg : Str → Option Value} {h : Heap} {G : Tabs} {g : Prog} {fis : List FnI}
theorem factK {fa : List He.Fa} {fn : List He.DefD} {K : Fr} (c : He.SaysD fa fn K) {f : He.Fa} (hf : f ∈ fa) : f.ok K = true := by
  obtain ⟨i, hi⟩ := List.getElem?_of_mem hf
  exact c.fact i hi
theorem SaysK.noI (c : SaysK (faOf G) (fis.map FnI.dd) (tsOf G) (xOf G) w K) : noInts K = true := (Bool.and_eq_true_iff.mp (show (noInts K && ((G.gl.all fun q => gloB K q.1 q.2) && ((G.tb.all fun q => tabB K q.1 q.2) && (G.ls.all fun q => lsB K q.1 q.2)))) = true from c.more)).1
theorem facts_of (hg : ∀ n, g n = (fis.map fun f => (f.key, f.fn)).lookup n) (ok : ∀ f ∈ fis, f.Ok G) (ck : chkG G fis = true) (X : K.In h) (Gn : h.Ns PySem.mainGlobals mg) (c : SaysK (faOf G) (fis.map FnI.dd) (tsOf G) (xOf G) w K) : Facts K w mg G g := by
  have cd := c.t.d
  have m1 : ∀ x ∈ bltNames, He.Fa.free (sst x) ∈ faOf G := fun x hx => by
    unfold faOf; exact List.mem_append_left _ (List.mem_map_of_mem hx)
  have m2 : ∀ x ∈ G.fs, He.Fa.glo (sst x) ∈ faOf G := fun x hx => by
    unfold faOf; exact List.mem_append_right _ (List.mem_append_left _ (List.mem_map_of_mem (f := fun f => He.Fa.glo (sst f)) hx))
  have m3 : ∀ x ∈ G.cs, He.Fa.glo (sst x) ∈ faOf G ∧ He.Fa.cls (sst x) ∈ faOf G ∧ He.Fa.mkr (sst x) ∈ faOf G := fun x hx => by
    unfold faOf
    refine ⟨?_, ?_, ?_⟩
    · exact List.mem_append_right _ (List.mem_append_right _ (List.mem_append_left _ (List.mem_map_of_mem (f := fun f => He.Fa.glo (sst f)) hx)))
    · exact List.mem_append_right _ (List.mem_append_right _ (List.mem_append_right _ (List.mem_append_left _ (List.mem_map_of_mem (f := fun f => He.Fa.cls (sst f)) hx))))
    · exact List.mem_append_right _ (List.mem_append_right _ (List.mem_append_right _ (List.mem_append_right _ (List.mem_append_left _ (List.mem_map_of_mem (f := fun f => He.Fa.mkr (sst f)) hx)))))
  have m4 : ∀ q ∈ G.ms, He.Fa.meth (sst q.1) (sst q.2) ∈ faOf G := fun q hx => by
    unfold faOf
    exact List.mem_append_right _ (List.mem_append_right _ (List.mem_append_right _ (List.mem_append_right _ (List.mem_append_right _ (List.mem_append_left _ (List.mem_map_of_mem (f := fun q : String × String => He.Fa.meth (sst q.1) (sst q.2)) hx))))))
  have m5 : ∀ q ∈ G.fl, He.Fa.noat (sst q.1) (sst q.2) ∈ faOf G := fun q hx => by
    unfold faOf
    exact List.mem_append_right _ (List.mem_append_right _ (List.mem_append_right _ (List.mem_append_right _ (List.mem_append_right _ (List.mem_append_right _ (List.mem_append_left _ (List.mem_map_of_mem (f := fun q : String × String => He.Fa.noat (sst q.1) (sst q.2)) hx)))))))
  have m6 : ∀ q ∈ G.tb, He.Fa.glo (sst q.1) ∈ faOf G := fun q hx => by
    unfold faOf
    exact List.mem_append_right _ (List.mem_append_right _ (List.mem_append_right _ (List.mem_append_right _ (List.mem_append_right _ (List.mem_append_right _ (List.mem_append_right _ (List.mem_append_left _ (List.mem_map_of_mem (f := fun q : String × List (T × D) => He.Fa.glo (sst q.1)) hx))))))))
  have m7 : ∀ q ∈ G.ls, He.Fa.glo (sst q.1) ∈ faOf G := fun q hx => by
    unfold faOf
    exact List.mem_append_right _ (List.mem_append_right _ (List.mem_append_right _ (List.mem_append_right _ (List.mem_append_right _ (List.mem_append_right _ (List.mem_append_right _ (List.mem_append_right _ (List.mem_map_of_mem (f := fun q : String × List T => He.Fa.glo (sst q.1)) hx))))))))
  obtain ⟨x1, x23⟩ := Bool.and_eq_true_iff.mp (Bool.and_eq_true_iff.mp (show (noInts K && ((G.gl.all fun q => gloB K q.1 q.2) && ((G.tb.all fun q => tabB K q.1 q.2) && (G.ls.all fun q => lsB K q.1 q.2)))) = true from c.more)).2
  obtain ⟨x2, x3⟩ := Bool.and_eq_true_iff.mp x23
  obtain ⟨k1, k234⟩ := Bool.and_eq_true_iff.mp (show ((G.fs.all fun f => chkI fis f (f, none)) && ((G.cs.all fun c => chkI fis (c ++ ".__init__") (c, some "__init__")) && ((G.ms.all fun q => chkI fis (q.1 ++ "." ++ q.2) (q.1, some q.2) && G.cs.contains q.1) && G.fl.all fun q => G.cs.contains q.1))) = true from ck)
  obtain ⟨k2, k34⟩ := Bool.and_eq_true_iff.mp k234
  obtain ⟨k3, k4⟩ := Bool.and_eq_true_iff.mp k34
  have fnf : ∀ {k : String} {p : String × Option String}, chkI fis k p = true → ∃ fn, g k = some fn ∧ FnFact K G k fn (He.fAd K (sst p.1, p.2.map sst)) := fun {k p} hk => by
    unfold chkI at hk
    split at hk
    · rename_i f hf
      have ep : f.at_ = p := eq_of_beq hk
      obtain ⟨hm, hkey⟩ := findI_in hf
      have o := ok f hm
      obtain ⟨i, hi⟩ := List.getElem?_of_mem (List.mem_map_of_mem (f := FnI.dd) hm)
      obtain ⟨fd, F⟩ := cd.def_ i hi
      refine ⟨f.fn, (hg k).trans (lookI hf), ⟨sst f.name, sst f.qual, L2.defArgs f.st, L2.defBody f.st, L2.defScope f.st, f.dd.kws K, fd, f.NN, f.ps, ?_, C8.fnScope_by o.sc, ?_, o.ln, o.lp, o.mt⟩⟩
      · rw [← ep]
        exact F
      · exact F.bindsN o.bd
    · cases hk
  refine ⟨fun x hx => He.free_ok X Gn (factK cd (m1 x hx)), fun x d hx => ?_, fun x kvs hx => ?_, fun x ts hx => ?_, fun f hf => ?_, fun c' hc => ?_, fun c' m hm => ?_, fun c' f hf => ?_⟩
  · obtain ⟨q, hq, e⟩ := List.any_eq_true.mp hx
    obtain ⟨e1, e2⟩ := Bool.and_eq_true_iff.mp e
    have e1 := eq_of_beq e1
    have e2 := beqD_eq _ _ e2
    subst e1 e2
    exact gloB_ok X Gn (List.all_eq_true.mp x1 q hq)
  · obtain ⟨q, hq, e⟩ := List.any_eq_true.mp hx
    obtain ⟨e1, e2⟩ := Bool.and_eq_true_iff.mp e
    have e1 := eq_of_beq e1
    have e2 := beqTs_eq _ _ e2
    subst e1 e2
    obtain ⟨i, hi⟩ := List.getElem?_of_mem (List.mem_map_of_mem (f := fun q : String × List (T × D) => ((fun K => He.ga K (sst q.1), q.2.map fun z => mst z.1) : He.Tab)) hq)
    obtain ⟨es, n, kd⟩ := c.t.tab i hi
    exact tabB_ok X Gn (He.glo_ok X Gn (factK cd (m6 q hq))) kd (List.all_eq_true.mp x2 q hq)
  · obtain ⟨q, hq, e⟩ := List.any_eq_true.mp hx
    obtain ⟨e1, e2⟩ := Bool.and_eq_true_iff.mp e
    have e1 := eq_of_beq e1
    have e2 := of_decide_eq_true e2
    subst e1 e2
    obtain ⟨l1, l2⟩ := Bool.and_eq_true_iff.mp (List.all_eq_true.mp x3 q hq)
    refine ⟨_, He.glo_ok X Gn (factK cd (m7 q hq)), fun t ht => okTB_ok (List.all_eq_true.mp l2 t ht), fun H => ?_⟩
    have := He.lstB_ok l1 H
    rw [List.map_map] at this ⊢
    exact this
  · obtain ⟨fn, h1, h2⟩ := fnf (List.all_eq_true.mp k1 f (by simpa using hf))
    exact ⟨_, fn, h1, He.glo_ok X Gn (factK cd (m2 f (by simpa using hf))), h2⟩
  · have hc' : c' ∈ G.cs := by simpa using hc
    obtain ⟨fn, h1, h2⟩ := fnf (List.all_eq_true.mp k2 c' hc')
    obtain ⟨n1, n2, n3⟩ := m3 c' hc'
    exact ⟨_, fn, h1, He.glo_ok X Gn (factK cd n1), He.mkr_ok (factK cd n3), h2⟩
  · have hm' : (c', m) ∈ G.ms := by simpa using hm
    obtain ⟨j1, j2⟩ := Bool.and_eq_true_iff.mp (List.all_eq_true.mp k3 (c', m) hm')
    obtain ⟨fn, h1, h2⟩ := fnf j1
    obtain ⟨n1, n2, n3⟩ := m3 c' (by simpa using j2)
    exact ⟨_, fn, h1, He.cls_ok (factK cd n2), He.meth_ok (factK cd (m4 (c', m) hm')), h2⟩
  · have hf' : (c', f) ∈ G.fl := by simpa using hf
    obtain ⟨n1, n2, n3⟩ := m3 c' (by simpa using List.all_eq_true.mp k4 (c', f) hf')
    exact ⟨He.cls_ok (factK cd n2), He.noat_ok (factK cd (m5 (c', f) hf'))⟩
end
end KW
/-! KwSp: the law's promise, from the plain one. -/
namespace KW
open PySem (Str Addr Value Program World Heap Operator CmpOp binaryOp compareOp PyData Scope Const Env Shared)
open PySem.Spec PyProof.Rows
open L2 (V Hp HO upd upd_same upd_ne upd_upd SqL SqT Rd RelV)
theorem ints_all : ∀ {ns : List Int} {us : List Value}, L2.Vals (ns.map V.int) us → (us.any fun u => match u with
    | .int _ _ => false
    | _ => true) = false
  | [], _, .nil => rfl
  | n :: ns, _, .cons (b := u) r h => by
    obtain ⟨t, rfl⟩ : ∃ t, u = Value.int n t := by
      cases u with
      | int j t => exact ⟨t, by cases r; rename_i e; cases e; rfl⟩
      | _ => cases r <;> contradiction
    rw [List.any_cons, ints_all h]; rfl
theorem look_mem {K : Fr} {a : Addr} {o : PySem.Obj} (h : K.lookup a = some o) : (a, o) ∈ K := by
  induction K with
  | nil => cases h
  | cons q r ih =>
    rw [List.lookup_cons] at h
    split at h
    · rename_i e
      have e2 := eq_of_beq e
      injection h with h
      subst h e2
      exact List.mem_cons_self
    · exact List.mem_cons_of_mem _ (ih h)
theorem scr_rd {K : Fr} {H : Hp} {a : Addr} {ns : List Int} (c : noInts K = true) (h : SqL K H a (ns.map V.int)) : Rd H a (.lst (ns.map V.int)) := by
  rcases h with h | ⟨o, its, n, h1, h2, h3, h4, h5, h6⟩
  · exact h
  · have := List.all_eq_true.mp c _ (look_mem h1)
    obtain ⟨oc, od, dt, sl⟩ := o
    cases h2; cases h4
    have e := ints_all h6
    have this : (!decide ("list" = "list") || its.toList.any fun u => match u with
      | .int _ _ => false
      | _ => true) = true := this
    rw [e] at this
    cases this
theorem ints_rd {K : Fr} {n : Nat} {M : MM} {H : Hp} : ∀ ns : List Int, RDs K n M H (ns.map D.int) (ns.map V.int)
  | [] => .nil
  | n :: r => .cons (.int n) (ints_rd r)
theorem rh0 {K : Fr} {H : Hp} : RH K ⟨fun _ => 0, fun _ => none, none⟩ H [] :=
  ⟨fun _ _ e => (by cases e), fun _ e => (absurd e (Nat.not_lt_zero _)), fun _ _ _ _ _ e => (by cases e), fun _ _ e => (by cases e)⟩
theorem sp_law {K : Fr} {H : Hp} {a : Addr} {ns : List Int} {C : CallF} {h : List Cell} (c : noInts K = true) (hS : SqL K H a (ns.map V.int)) (p : C "law" [.lst (ns.map D.int)] [] = .ok (.val (.bl true)) ⟨[], h⟩) :
    spOf K C "law" [.ref a] H (fun v _ => v = .bl true) fun _ _ _ => False := by
  refine ⟨⟨fun _ => 0, fun _ => none, none⟩, [.lst (ns.map D.int)], [], rfl, rh0, fun _ => rfl, .cons (.lst (scr_rd c hS) rfl (ints_rd ns)) .nil, ?_⟩
  rw [p]
  intro M' H' v _ _ _ r _ _
  cases r with
  | val r => cases r; rfl
end KW
/-! KwProg: the law in the small language. -/
namespace KW
def kcls : List String := ["Store"]
def kt_KEY_WORDS : List (T × D) := [([104, 97, 115], (.tup [(.int 1), (.int 199)])), ([100, 114, 111, 112], (.tup [(.int 1), (.int 199)])), ([107, 105, 110, 100], (.tup [(.int 1), (.int 1)])), ([107, 101, 121, 115], (.tup [(.int 0), (.int 0)])), ([114, 101, 110, 97, 109, 101], (.tup [(.int 2), (.int 2)])), ([101, 110, 100], (.tup [(.int 2), (.int 2)])), ([108, 101, 102, 116], (.tup [(.int 1), (.int 1)])), ([115, 116, 97, 121], (.tup [(.int 1), (.int 1)]))]
def kt_ROW_WORDS : List (T × D) := [([102, 105, 114, 115, 116], (.tup [(.int 2), (.int 199)])), ([108, 97, 115, 116], (.tup [(.int 2), (.int 199)])), ([116, 97, 107, 101, 102, 105, 114, 115, 116], (.tup [(.int 1), (.int 1)])), ([116, 97, 107, 101, 108, 97, 115, 116], (.tup [(.int 1), (.int 1)])), ([109, 97, 110, 121], (.tup [(.int 1), (.int 1)])), ([115, 108, 105, 99, 101], (.tup [(.int 3), (.int 3)])), ([99, 97, 114, 114, 121], (.tup [(.int 2), (.int 2)]))]
def kt_SET_WORDS : List (T × D) := [([105, 110], (.tup [(.int 2), (.int 199)])), ([111, 117, 116], (.tup [(.int 2), (.int 199)])), ([119, 105, 116, 104, 105, 110], (.tup [(.int 2), (.int 2)])), ([97, 108, 108], (.tup [(.int 1), (.int 1)])), ([98, 111, 116, 104], (.tup [(.int 2), (.int 2)])), ([101, 105, 116, 104, 101, 114], (.tup [(.int 2), (.int 2)])), ([108, 101, 115, 115], (.tup [(.int 2), (.int 2)]))]
def kl_OF_TWO : List T := [[98, 111, 116, 104], [101, 105, 116, 104, 101, 114], [108, 101, 115, 115]]
def kt_TABLE_WORDS : List (T × D) := [([102, 105, 101, 108, 100], (.tup [(.int 3), (.int 3)])), ([97, 115, 107], (.tup [(.int 2), (.int 2)])), ([110, 111, 102, 105, 101, 108, 100], (.tup [(.int 2), (.int 199)])), ([102, 105, 101, 108, 100, 115], (.tup [(.int 1), (.int 1)]))]
def kt_RANK_WORDS : List (T × D) := [([114, 97, 110, 107], (.tup [(.int 3), (.int 3)])), ([117, 110, 114, 97, 110, 107], (.tup [(.int 2), (.int 199)])), ([112, 108, 97, 99, 101], (.tup [(.int 2), (.int 2)])), ([115, 99, 111, 114, 101], (.tup [(.int 2), (.int 2)])), ([98, 101, 115, 116], (.tup [(.int 3), (.int 3)]))]
def kt_TEXT_WORDS : List (T × D) := [([112, 117, 116], (.tup [(.int 2), (.int 2)])), ([112, 117, 116, 110, 101, 119], (.tup [(.int 2), (.int 2)])), ([103, 101, 116], (.tup [(.int 1), (.int 1)])), ([115, 119, 97, 112], (.tup [(.int 2), (.int 2)])), ([97, 100, 100], (.tup [(.int 2), (.int 2)])), ([106, 111, 105, 110], (.tup [(.int 2), (.int 2)])), ([108, 111, 110, 103], (.tup [(.int 1), (.int 1)]))]
/-- _wall: k -/
def f__wall : Fn := ⟨1, 1, [.whil (.cst (.bl true)) [.pas]]⟩
/-- number_in: text, figures, sign -/
def f_number_in : Fn := ⟨1, 3, [.asgn 1 (.ife (.p2 .startswith (.var 0) (.cst (.str [45]))) (.p2 .slFrom (.var 0) (.cst (.int 1))) (.var 0)), .ite (.or (.not (.chain .le .le (.cst (.int 1)) (.p1 .len (.var 1)) (.glb "MOST_FIGURES" (.int 15)))) (.not (.p1 .all (.comp [2] (.seq (.frz (.var 1))) [] (.p2 (.cmp .isIn) (.var 2) (.glb "FIGURES" (.str [48, 49, 50, 51, 52, 53, 54, 55, 56, 57]))))))) [.ret (.cst .non)] [], .ret (.ife (.p2 (.cmp .eq) (.p1 .str (.p1 .int (.var 0))) (.var 0)) (.p1 .int (.var 0)) (.cst .non))]⟩
/-- is_small: number -/
def f_is_small : Fn := ⟨1, 1, [.ret (.p2 (.cmp .le) (.p1 .abs (.var 0)) (.glb "MOST_NUMBER" (.int 999999999999999)))]⟩
/-- Store.__init__: self -/
def f_Store___init__ : Fn := ⟨1, 1, [.fset kcls (.var 0) "held" (.dct [] []), .fset kcls (.var 0) "ends" (.dct [] []), .fset kcls (.var 0) "stamps" (.dct [] []), .fset kcls (.var 0) "now" (.cst (.int 0)), .fset kcls (.var 0) "stamp" (.cst (.int 0))]⟩
/-- Store.kind: self, key -/
def f_Store_kind : Fn := ⟨2, 2, [.ret (.ife (.p2 (.cmp .isIn) (.var 1) (.fld kcls (.var 0) "held")) (.p2 .idx (.p2 .idx (.fld kcls (.var 0) "held") (.var 1)) (.cst (.int 0))) (.cst (.str [110, 111, 110, 101])))]⟩
/-- Store.value: self, key, kind, empty -/
def f_Store_value : Fn := ⟨4, 4, [.ite (.p2 (.cmp .notIn) (.var 1) (.fld kcls (.var 0) "held")) [.ret (.var 3)] [], .ret (.ife (.p2 (.cmp .eq) (.p2 .idx (.p2 .idx (.fld kcls (.var 0) "held") (.var 1)) (.cst (.int 0))) (.var 2)) (.p2 .idx (.p2 .idx (.fld kcls (.var 0) "held") (.var 1)) (.cst (.int 1))) (.cst .non))]⟩
/-- Store.changed: self, key -/
def f_Store_changed : Fn := ⟨2, 2, [.fset kcls (.var 0) "stamp" (.p2 .add (.fld kcls (.var 0) "stamp") (.cst (.int 1))), .iset (.fld kcls (.var 0) "stamps") (.var 1) (.fld kcls (.var 0) "stamp")]⟩
/-- Store.keep: self, key, kind, value -/
def f_Store_keep : Fn := ⟨4, 4, [.ite (.and (.p2 (.cmp .ne) (.var 2) (.cst (.str [116, 101, 120, 116]))) (.p2 (.cmp .eq) (.p1 .len (.var 3)) (.cst (.int 0)))) [.expr (.meth "Store" "drop" (.var 0) [(.var 1)])] [.iset (.fld kcls (.var 0) "held") (.var 1) (.tup [(.var 2), (.var 3)]), .expr (.meth "Store" "changed" (.var 0) [(.var 1)])]]⟩
/-- Store.drop: self, key -/
def f_Store_drop : Fn := ⟨2, 2, [.expr (.mut .popD (.fld kcls (.var 0) "ends") [(.var 1), (.cst .non)]), .ite (.p1 .isNone (.mut .popD (.fld kcls (.var 0) "held") [(.var 1), (.cst .non)])) [.ret (.cst (.bl false))] [], .expr (.meth "Store" "changed" (.var 0) [(.var 1)]), .ret (.cst (.bl true))]⟩
/-- Store.pass_time: self, many -/
def f_Store_pass_time : Fn := ⟨2, 2, [.expr (.call "_wall" [(.cst (.int 0))])]⟩
def b_Store_picture_0 : List St := [.unp [3, 4] (.p2 .idx (.fld kcls (.var 0) "held") (.var 2)), .ite (.p2 (.cmp .isIn) (.var 3) (.tup [(.cst (.str [116, 97, 98, 108, 101])), (.cst (.str [114, 97, 110, 107]))])) [.asgn 4 (.p1 .tuple (.comp [5] (.seq (.p1 .sortedKeys (.var 4))) [] (.tup [(.var 5), (.p2 .idx (.var 4) (.var 5))])))] [.ite (.p2 (.cmp .eq) (.var 3) (.cst (.str [114, 111, 119]))) [.asgn 4 (.p1 .tuple (.var 4))] [.ite (.p2 (.cmp .eq) (.var 3) (.cst (.str [115, 101, 116]))) [.asgn 4 (.p1 .tuple (.p1 .sortedKeys (.var 4)))] []]], .expr (.mut .append (.var 1) [(.tup [(.var 2), (.var 3), (.var 4), (.ife (.p2 (.cmp .isIn) (.var 2) (.fld kcls (.var 0) "ends")) (.p2 .sub (.p2 .idx (.fld kcls (.var 0) "ends") (.var 2)) (.fld kcls (.var 0) "now")) (.cst .non))])])]
/-- Store.picture: self, found, key, kind, value, one -/
def f_Store_picture : Fn := ⟨1, 6, [.asgn 1 (.lst []), .forr [2] (.seq (.p1 .sortedKeys (.fld kcls (.var 0) "held"))) b_Store_picture_0, .ret (.var 1)]⟩
/-- texts_row: some, one -/
def f_texts_row : Fn := ⟨1, 2, [.ret (.tup [(.cst (.str [114, 111, 119])), (.p1 .tuple (.comp [1] (.seq (.var 0)) [] (.tup [(.cst (.str [116, 101, 120, 116])), (.var 1)])))])]⟩
/-- as_number: truth -/
def f_as_number : Fn := ⟨1, 1, [.ret (.tup [(.cst (.str [110, 117, 109, 98, 101, 114])), (.ife (.var 0) (.cst (.int 1)) (.cst (.int 0)))])]⟩
/-- between: row, first, last, many -/
def f_between : Fn := ⟨3, 4, [.asgn 3 (.p1 .len (.var 0)), .asgn 1 (.ife (.p2 (.cmp .lt) (.var 1) (.cst (.int 0))) (.p2 .max2 (.cst (.int 0)) (.p2 .add (.var 1) (.var 3))) (.var 1)), .asgn 2 (.ife (.p2 (.cmp .lt) (.var 2) (.cst (.int 0))) (.p2 .add (.var 2) (.var 3)) (.var 2)), .ret (.ife (.p2 (.cmp .ge) (.var 2) (.var 1)) (.p1 .list (.p3 .slBoth (.var 0) (.var 1) (.p2 .add (.var 2) (.cst (.int 1))))) (.lst []))]⟩
/-- renamed: store, old, new, kind, value, end -/
def f_renamed : Fn := ⟨3, 6, [.ite (.p2 (.cmp .notIn) (.var 1) (.fld kcls (.var 0) "held")) [.ret (.tup [(.cst (.str [98, 97, 100])), (.cst (.str [110, 111, 110, 101]))])] [], .unp [3, 4] (.p2 .idx (.fld kcls (.var 0) "held") (.var 1)), .asgn 5 (.p3 .dget (.fld kcls (.var 0) "ends") (.var 1) (.cst .non)), .expr (.meth "Store" "drop" (.var 0) [(.var 1)]), .expr (.meth "Store" "drop" (.var 0) [(.var 2)]), .expr (.meth "Store" "keep" (.var 0) [(.var 2), (.var 3), (.var 4)]), .ite (.p1 .notNone (.var 5)) [.iset (.fld kcls (.var 0) "ends") (.var 2) (.var 5)] [], .ret (.glb "DONE" (.tup [(.str [111, 107]), (.str [100, 111, 110, 101])]))]⟩
/-- ended: store, key, text, many -/
def f_ended : Fn := ⟨3, 4, [.asgn 3 (.call "number_in" [(.var 2)]), .ite (.or (.p1 .isNone (.var 3)) (.not (.chain .le .le (.cst (.int 1)) (.var 3) (.glb "MOST_TICKS" (.int 1000000))))) [.ret (.glb "NUMBER" (.tup [(.str [98, 97, 100]), (.str [110, 117, 109, 98, 101, 114])]))] [], .ite (.p2 (.cmp .isIn) (.var 1) (.fld kcls (.var 0) "held")) [.iset (.fld kcls (.var 0) "ends") (.var 1) (.p2 .add (.fld kcls (.var 0) "now") (.var 3))] [], .ret (.call "as_number" [(.p2 (.cmp .isIn) (.var 1) (.fld kcls (.var 0) "held"))])]⟩
/-- left_ticks: store, key -/
def f_left_ticks : Fn := ⟨2, 2, [.ite (.p2 (.cmp .notIn) (.var 1) (.fld kcls (.var 0) "held")) [.ret (.tup [(.cst (.str [110, 117, 109, 98, 101, 114])), (.p1 .neg (.cst (.int 2)))])] [], .ret (.tup [(.cst (.str [110, 117, 109, 98, 101, 114])), (.ife (.p2 (.cmp .isIn) (.var 1) (.fld kcls (.var 0) "ends")) (.p2 .sub (.p2 .idx (.fld kcls (.var 0) "ends") (.var 1)) (.fld kcls (.var 0) "now")) (.p1 .neg (.cst (.int 1))))])]⟩
/-- key_done: store, word, args, key -/
def f_key_done : Fn := ⟨3, 4, [.ite (.p2 (.cmp .eq) (.var 1) (.cst (.str [104, 97, 115]))) [.ret (.tup [(.cst (.str [110, 117, 109, 98, 101, 114])), (.p1 .len (.comp [3] (.seq (.var 2)) [(.p2 (.cmp .isIn) (.var 3) (.fld kcls (.var 0) "held"))] (.var 3)))])] [], .ite (.p2 (.cmp .eq) (.var 1) (.cst (.str [100, 114, 111, 112]))) [.ret (.tup [(.cst (.str [110, 117, 109, 98, 101, 114])), (.p1 .len (.comp [3] (.seq (.var 2)) [(.meth "Store" "drop" (.var 0) [(.var 3)])] (.var 3)))])] [], .ite (.p2 (.cmp .eq) (.var 1) (.cst (.str [107, 105, 110, 100]))) [.ret (.tup [(.cst (.str [111, 107])), (.meth "Store" "kind" (.var 0) [(.p2 .idx (.var 2) (.cst (.int 0)))])])] [], .ite (.p2 (.cmp .eq) (.var 1) (.cst (.str [107, 101, 121, 115]))) [.ret (.ife (.p2 (.cmp .gt) (.p1 .len (.fld kcls (.var 0) "held")) (.glb "MOST_PARTS" (.int 200))) (.glb "LONG" (.tup [(.str [98, 97, 100]), (.str [108, 111, 110, 103])])) (.call "texts_row" [(.p1 .sortedKeys (.fld kcls (.var 0) "held"))]))] [], .ite (.p2 (.cmp .eq) (.var 1) (.cst (.str [114, 101, 110, 97, 109, 101]))) [.ret (.call "renamed" [(.var 0), (.p2 .idx (.var 2) (.cst (.int 0))), (.p2 .idx (.var 2) (.cst (.int 1)))])] [], .ite (.p2 (.cmp .eq) (.var 1) (.cst (.str [101, 110, 100]))) [.ret (.call "ended" [(.var 0), (.p2 .idx (.var 2) (.cst (.int 0))), (.p2 .idx (.var 2) (.cst (.int 1)))])] [], .ite (.p2 (.cmp .eq) (.var 1) (.cst (.str [108, 101, 102, 116]))) [.ret (.call "left_ticks" [(.var 0), (.p2 .idx (.var 2) (.cst (.int 0)))])] [], .ret (.call "as_number" [(.p1 .notNone (.mut .popD (.fld kcls (.var 0) "ends") [(.p2 .idx (.var 2) (.cst (.int 0))), (.cst .non)]))])]⟩
/-- put_in_rows: store, word, key, row, texts, later -/
def f_put_in_rows : Fn := ⟨5, 6, [.asgn 5 (.ife (.p2 (.cmp .eq) (.var 1) (.cst (.str [102, 105, 114, 115, 116]))) (.p2 .add (.p1 .rev (.var 4)) (.var 3)) (.p2 .add (.var 3) (.var 4))), .ite (.p2 (.cmp .gt) (.p1 .len (.var 5)) (.glb "MOST_PARTS" (.int 200))) [.ret (.glb "LONG" (.tup [(.str [98, 97, 100]), (.str [108, 111, 110, 103])]))] [], .expr (.meth "Store" "keep" (.var 0) [(.var 2), (.cst (.str [114, 111, 119])), (.frz (.var 5))]), .ret (.tup [(.cst (.str [110, 117, 109, 98, 101, 114])), (.p1 .len (.var 5))])]⟩
/-- taken: store, word, key, row, found -/
def f_taken : Fn := ⟨4, 5, [.ite (.not (.var 3)) [.ret (.glb "NONE" (.tup [(.str [110, 111, 110, 101])]))] [], .asgn 4 (.ife (.p2 (.cmp .eq) (.var 1) (.cst (.str [116, 97, 107, 101, 102, 105, 114, 115, 116]))) (.p2 .idx (.var 3) (.cst (.int 0))) (.p2 .idx (.var 3) (.p1 .neg (.cst (.int 1))))), .expr (.meth "Store" "keep" (.var 0) [(.var 2), (.cst (.str [114, 111, 119])), (.ife (.p2 (.cmp .eq) (.var 1) (.cst (.str [116, 97, 107, 101, 102, 105, 114, 115, 116]))) (.p2 .slFrom (.var 3) (.cst (.int 1))) (.p2 .slTo (.var 3) (.p1 .neg (.cst (.int 1)))))]), .ret (.tup [(.cst (.str [116, 101, 120, 116])), (.var 4)])]⟩
/-- carried: store, key, row, goal, other, found -/
def f_carried : Fn := ⟨4, 6, [.asgn 4 (.meth "Store" "value" (.var 0) [(.var 3), (.cst (.str [114, 111, 119])), (.lst [])]), .ite (.p1 .isNone (.var 4)) [.ret (.glb "KIND" (.tup [(.str [98, 97, 100]), (.str [107, 105, 110, 100])]))] [], .ite (.not (.var 2)) [.ret (.glb "NONE" (.tup [(.str [110, 111, 110, 101])]))] [], .ite (.p2 (.cmp .eq) (.var 3) (.var 1)) [.expr (.meth "Store" "keep" (.var 0) [(.var 1), (.cst (.str [114, 111, 119])), (.p2 .add (.p2 .slFrom (.var 2) (.p1 .neg (.cst (.int 1)))) (.p2 .slTo (.var 2) (.p1 .neg (.cst (.int 1)))))]), .ret (.tup [(.cst (.str [116, 101, 120, 116])), (.p2 .idx (.var 2) (.p1 .neg (.cst (.int 1))))])] [], .ite (.p2 (.cmp .eq) (.p1 .len (.var 4)) (.glb "MOST_PARTS" (.int 200))) [.ret (.glb "LONG" (.tup [(.str [98, 97, 100]), (.str [108, 111, 110, 103])]))] [], .asgn 5 (.call "taken" [(.var 0), (.cst (.str [116, 97, 107, 101, 108, 97, 115, 116])), (.var 1), (.var 2)]), .expr (.call "put_in_rows" [(.var 0), (.cst (.str [102, 105, 114, 115, 116])), (.var 3), (.meth "Store" "value" (.var 0) [(.var 3), (.cst (.str [114, 111, 119])), (.lst [])]), (.lst [(.p2 .idx (.var 5) (.cst (.int 1)))])]), .ret (.var 5)]⟩
/-- row_done: store, word, args, key, row, first, last -/
def f_row_done : Fn := ⟨3, 7, [.asgn 3 (.p2 .idx (.var 2) (.cst (.int 0))), .asgn 4 (.meth "Store" "value" (.var 0) [(.var 3), (.cst (.str [114, 111, 119])), (.lst [])]), .ite (.p1 .isNone (.var 4)) [.ret (.glb "KIND" (.tup [(.str [98, 97, 100]), (.str [107, 105, 110, 100])]))] [], .ite (.p2 (.cmp .isIn) (.var 1) (.tup [(.cst (.str [102, 105, 114, 115, 116])), (.cst (.str [108, 97, 115, 116]))])) [.ret (.call "put_in_rows" [(.var 0), (.var 1), (.var 3), (.var 4), (.p2 .slFrom (.var 2) (.cst (.int 1)))])] [], .ite (.p2 (.cmp .isIn) (.var 1) (.tup [(.cst (.str [116, 97, 107, 101, 102, 105, 114, 115, 116])), (.cst (.str [116, 97, 107, 101, 108, 97, 115, 116]))])) [.ret (.call "taken" [(.var 0), (.var 1), (.var 3), (.var 4)])] [], .ite (.p2 (.cmp .eq) (.var 1) (.cst (.str [109, 97, 110, 121]))) [.ret (.tup [(.cst (.str [110, 117, 109, 98, 101, 114])), (.p1 .len (.var 4))])] [], .ite (.p2 (.cmp .eq) (.var 1) (.cst (.str [99, 97, 114, 114, 121]))) [.ret (.call "carried" [(.var 0), (.var 3), (.var 4), (.p2 .idx (.var 2) (.cst (.int 1)))])] [], .asgn 5 (.call "number_in" [(.p2 .idx (.var 2) (.cst (.int 1)))]), .asgn 6 (.call "number_in" [(.p2 .idx (.var 2) (.cst (.int 2)))]), .ite (.or (.p1 .isNone (.var 5)) (.p1 .isNone (.var 6))) [.ret (.glb "NUMBER" (.tup [(.str [98, 97, 100]), (.str [110, 117, 109, 98, 101, 114])]))] [], .ret (.call "texts_row" [(.call "between" [(.var 4), (.var 5), (.var 6)])])]⟩
def b_put_in_sets_0 : List St := [.iset (.var 4) (.var 5) (.cst (.bl true))]
/-- put_in_sets: store, key, some, texts, later, text -/
def f_put_in_sets : Fn := ⟨4, 6, [.asgn 4 (.p1 .copy (.var 2)), .forr [5] (.seq (.var 3)) b_put_in_sets_0, .ite (.p2 (.cmp .gt) (.p1 .len (.var 4)) (.glb "MOST_PARTS" (.int 200))) [.ret (.glb "LONG" (.tup [(.str [98, 97, 100]), (.str [108, 111, 110, 103])]))] [], .ite (.p2 (.cmp .gt) (.p1 .len (.var 4)) (.p1 .len (.var 2))) [.expr (.meth "Store" "keep" (.var 0) [(.var 1), (.cst (.str [115, 101, 116])), (.frz (.var 4))])] [], .ret (.tup [(.cst (.str [110, 117, 109, 98, 101, 114])), (.p2 .sub (.p1 .len (.var 4)) (.p1 .len (.var 2)))])]⟩
def b_taken_out_0 : List St := [.expr (.mut .popD (.var 4) [(.var 5), (.cst .non)])]
/-- taken_out: store, key, some, texts, later, text -/
def f_taken_out : Fn := ⟨4, 6, [.asgn 4 (.p1 .copy (.var 2)), .forr [5] (.seq (.var 3)) b_taken_out_0, .ite (.p2 (.cmp .lt) (.p1 .len (.var 4)) (.p1 .len (.var 2))) [.expr (.meth "Store" "keep" (.var 0) [(.var 1), (.cst (.str [115, 101, 116])), (.frz (.var 4))])] [], .ret (.tup [(.cst (.str [110, 117, 109, 98, 101, 114])), (.p2 .sub (.p1 .len (.var 2)) (.p1 .len (.var 4)))])]⟩
/-- of_two: word, some, other, text -/
def f_of_two : Fn := ⟨3, 4, [.ite (.p2 (.cmp .eq) (.var 0) (.cst (.str [98, 111, 116, 104]))) [.ret (.comp [3] (.keys (.var 1)) [(.p2 (.cmp .isIn) (.var 3) (.var 2))] (.var 3))] [], .ite (.p2 (.cmp .eq) (.var 0) (.cst (.str [108, 101, 115, 115]))) [.ret (.comp [3] (.keys (.var 1)) [(.p2 (.cmp .notIn) (.var 3) (.var 2))] (.var 3))] [], .ret (.p2 .add (.p1 .listKeys (.var 1)) (.comp [3] (.keys (.var 2)) [(.p2 (.cmp .notIn) (.var 3) (.var 1))] (.var 3)))]⟩
/-- set_done: store, word, args, key, some, other, found -/
def f_set_done : Fn := ⟨3, 7, [.asgn 3 (.p2 .idx (.var 2) (.cst (.int 0))), .asgn 4 (.meth "Store" "value" (.var 0) [(.var 3), (.cst (.str [115, 101, 116])), (.dct [] [])]), .asgn 5 (.ife (.inL "OF_TWO" kl_OF_TWO (.var 1)) (.meth "Store" "value" (.var 0) [(.p2 .idx (.var 2) (.cst (.int 1))), (.cst (.str [115, 101, 116])), (.dct [] [])]) (.dct [] [])), .ite (.or (.p1 .isNone (.var 4)) (.p1 .isNone (.var 5))) [.ret (.glb "KIND" (.tup [(.str [98, 97, 100]), (.str [107, 105, 110, 100])]))] [], .ite (.p2 (.cmp .eq) (.var 1) (.cst (.str [105, 110]))) [.ret (.call "put_in_sets" [(.var 0), (.var 3), (.var 4), (.p2 .slFrom (.var 2) (.cst (.int 1)))])] [], .ite (.p2 (.cmp .eq) (.var 1) (.cst (.str [111, 117, 116]))) [.ret (.call "taken_out" [(.var 0), (.var 3), (.var 4), (.p2 .slFrom (.var 2) (.cst (.int 1)))])] [], .ite (.p2 (.cmp .eq) (.var 1) (.cst (.str [119, 105, 116, 104, 105, 110]))) [.ret (.call "as_number" [(.p2 (.cmp .isIn) (.p2 .idx (.var 2) (.cst (.int 1))) (.var 4))])] [], .ite (.p2 (.cmp .eq) (.var 1) (.cst (.str [97, 108, 108]))) [.ret (.call "texts_row" [(.p1 .sortedKeys (.var 4))])] [], .asgn 6 (.p1 .sorted (.call "of_two" [(.var 1), (.var 4), (.frz (.var 5))])), .ret (.ife (.p2 (.cmp .gt) (.p1 .len (.var 6)) (.glb "MOST_PARTS" (.int 200))) (.glb "LONG" (.tup [(.str [98, 97, 100]), (.str [108, 111, 110, 103])])) (.call "texts_row" [(.frz (.var 6))]))]⟩
/-- with_entry: store, key, kind, some, name, value, is_new, later -/
def f_with_entry : Fn := ⟨6, 8, [.asgn 6 (.p2 (.cmp .notIn) (.var 4) (.var 3)), .ite (.and (.var 6) (.p2 (.cmp .eq) (.p1 .len (.var 3)) (.glb "MOST_FIELDS" (.int 100)))) [.ret (.glb "LONG" (.tup [(.str [98, 97, 100]), (.str [108, 111, 110, 103])]))] [], .asgn 7 (.p1 .copy (.var 3)), .iset (.var 7) (.var 4) (.var 5), .ite (.or (.var 6) (.p2 (.cmp .ne) (.p2 .idx (.var 3) (.var 4)) (.var 5))) [.expr (.meth "Store" "keep" (.var 0) [(.var 1), (.var 2), (.frz (.var 7))])] [], .ret (.call "as_number" [(.var 6)])]⟩
def b_without_0 : List St := [.expr (.mut .popD (.var 5) [(.var 6), (.cst .non)])]
/-- without: store, key, kind, some, names, later, name -/
def f_without : Fn := ⟨5, 7, [.asgn 5 (.p1 .copy (.var 3)), .forr [6] (.seq (.var 4)) b_without_0, .ite (.p2 (.cmp .lt) (.p1 .len (.var 5)) (.p1 .len (.var 3))) [.expr (.meth "Store" "keep" (.var 0) [(.var 1), (.var 2), (.frz (.var 5))])] [], .ret (.tup [(.cst (.str [110, 117, 109, 98, 101, 114])), (.p2 .sub (.p1 .len (.var 3)) (.p1 .len (.var 5)))])]⟩
def b_table_done_0 : List St := [.expr (.mut .extend (.var 5) [(.lst [(.var 6), (.p2 .idx (.var 4) (.var 6))])])]
/-- table_done: store, word, args, key, some, found, name -/
def f_table_done : Fn := ⟨3, 7, [.asgn 3 (.p2 .idx (.var 2) (.cst (.int 0))), .asgn 4 (.meth "Store" "value" (.var 0) [(.var 3), (.cst (.str [116, 97, 98, 108, 101])), (.dct [] [])]), .ite (.p1 .isNone (.var 4)) [.ret (.glb "KIND" (.tup [(.str [98, 97, 100]), (.str [107, 105, 110, 100])]))] [], .ite (.p2 (.cmp .eq) (.var 1) (.cst (.str [102, 105, 101, 108, 100]))) [.ret (.call "with_entry" [(.var 0), (.var 3), (.cst (.str [116, 97, 98, 108, 101])), (.var 4), (.p2 .idx (.var 2) (.cst (.int 1))), (.p2 .idx (.var 2) (.cst (.int 2)))])] [], .ite (.p2 (.cmp .eq) (.var 1) (.cst (.str [110, 111, 102, 105, 101, 108, 100]))) [.ret (.call "without" [(.var 0), (.var 3), (.cst (.str [116, 97, 98, 108, 101])), (.var 4), (.p2 .slFrom (.var 2) (.cst (.int 1)))])] [], .ite (.p2 (.cmp .eq) (.var 1) (.cst (.str [97, 115, 107]))) [.ret (.ife (.p2 (.cmp .isIn) (.p2 .idx (.var 2) (.cst (.int 1))) (.var 4)) (.tup [(.cst (.str [116, 101, 120, 116])), (.p2 .idx (.var 4) (.p2 .idx (.var 2) (.cst (.int 1))))]) (.glb "NONE" (.tup [(.str [110, 111, 110, 101])])))] [], .asgn 5 (.lst []), .forr [6] (.seq (.p1 .sortedKeys (.var 4))) b_table_done_0, .ret (.call "texts_row" [(.frz (.var 5))])]⟩
/-- in_order: some, number, name -/
def f_in_order : Fn := ⟨1, 3, [.ret (.comp [1, 2] (.seq (.p1 .sorted (.comp [2] (.keys (.var 0)) [] (.tup [(.p2 .idx (.var 0) (.var 2)), (.var 2)])))) [] (.var 2))]⟩
/-- rank_done: store, word, args, key, some, number, first, last -/
def f_rank_done : Fn := ⟨3, 8, [.asgn 3 (.p2 .idx (.var 2) (.cst (.int 0))), .asgn 4 (.meth "Store" "value" (.var 0) [(.var 3), (.cst (.str [114, 97, 110, 107])), (.dct [] [])]), .ite (.p1 .isNone (.var 4)) [.ret (.glb "KIND" (.tup [(.str [98, 97, 100]), (.str [107, 105, 110, 100])]))] [], .ite (.p2 (.cmp .eq) (.var 1) (.cst (.str [114, 97, 110, 107]))) [.asgn 5 (.call "number_in" [(.p2 .idx (.var 2) (.cst (.int 1)))]), .ret (.ife (.p1 .isNone (.var 5)) (.glb "NUMBER" (.tup [(.str [98, 97, 100]), (.str [110, 117, 109, 98, 101, 114])])) (.call "with_entry" [(.var 0), (.var 3), (.cst (.str [114, 97, 110, 107])), (.var 4), (.p2 .idx (.var 2) (.cst (.int 2))), (.var 5)]))] [], .ite (.p2 (.cmp .eq) (.var 1) (.cst (.str [117, 110, 114, 97, 110, 107]))) [.ret (.call "without" [(.var 0), (.var 3), (.cst (.str [114, 97, 110, 107])), (.var 4), (.p2 .slFrom (.var 2) (.cst (.int 1)))])] [], .ite (.p2 (.cmp .eq) (.var 1) (.cst (.str [98, 101, 115, 116]))) [.asgn 6 (.call "number_in" [(.p2 .idx (.var 2) (.cst (.int 1)))]), .asgn 7 (.call "number_in" [(.p2 .idx (.var 2) (.cst (.int 2)))]), .ite (.or (.p1 .isNone (.var 6)) (.p1 .isNone (.var 7))) [.ret (.glb "NUMBER" (.tup [(.str [98, 97, 100]), (.str [110, 117, 109, 98, 101, 114])]))] [], .ret (.call "texts_row" [(.call "between" [(.call "in_order" [(.var 4)]), (.var 6), (.var 7)])])] [], .ite (.p2 (.cmp .notIn) (.p2 .idx (.var 2) (.cst (.int 1))) (.var 4)) [.ret (.glb "NONE" (.tup [(.str [110, 111, 110, 101])]))] [], .ret (.tup [(.cst (.str [110, 117, 109, 98, 101, 114])), (.ife (.p2 (.cmp .eq) (.var 1) (.cst (.str [115, 99, 111, 114, 101]))) (.p2 .idx (.var 4) (.p2 .idx (.var 2) (.cst (.int 1)))) (.p2 .index (.call "in_order" [(.var 4)]) (.p2 .idx (.var 2) (.cst (.int 1)))))])]⟩
/-- told_text: text -/
def f_told_text : Fn := ⟨1, 1, [.ret (.ife (.p1 .isNone (.var 0)) (.glb "NONE" (.tup [(.str [110, 111, 110, 101])])) (.tup [(.cst (.str [116, 101, 120, 116])), (.var 0)]))]⟩
/-- put: store, key, text -/
def f_put : Fn := ⟨3, 3, [.expr (.mut .popD (.fld kcls (.var 0) "ends") [(.var 1), (.cst .non)]), .expr (.meth "Store" "keep" (.var 0) [(.var 1), (.cst (.str [116, 101, 120, 116])), (.var 2)]), .ret (.glb "DONE" (.tup [(.str [111, 107]), (.str [100, 111, 110, 101])]))]⟩
/-- added: store, key, old, text, more, number -/
def f_added : Fn := ⟨4, 6, [.asgn 4 (.call "number_in" [(.var 3)]), .asgn 5 (.call "number_in" [(.ife (.p1 .isNone (.var 2)) (.cst (.str [48])) (.var 2))]), .ite (.or (.p1 .isNone (.var 4)) (.or (.p1 .isNone (.var 5)) (.not (.call "is_small" [(.p2 .add (.var 5) (.var 4))])))) [.ret (.glb "NUMBER" (.tup [(.str [98, 97, 100]), (.str [110, 117, 109, 98, 101, 114])]))] [], .expr (.meth "Store" "keep" (.var 0) [(.var 1), (.cst (.str [116, 101, 120, 116])), (.p1 .str (.p2 .add (.var 5) (.var 4)))]), .ret (.tup [(.cst (.str [110, 117, 109, 98, 101, 114])), (.p2 .add (.var 5) (.var 4))])]⟩
/-- joined: store, key, old, text, found -/
def f_joined : Fn := ⟨4, 5, [.asgn 4 (.p2 .add (.ife (.p1 .isNone (.var 2)) (.cst (.str [])) (.var 2)) (.var 3)), .ite (.p2 (.cmp .gt) (.p1 .len (.var 4)) (.glb "MOST_TEXT" (.int 300))) [.ret (.glb "LONG" (.tup [(.str [98, 97, 100]), (.str [108, 111, 110, 103])]))] [], .expr (.meth "Store" "keep" (.var 0) [(.var 1), (.cst (.str [116, 101, 120, 116])), (.frz (.var 4))]), .ret (.tup [(.cst (.str [110, 117, 109, 98, 101, 114])), (.p1 .len (.var 4))])]⟩
/-- text_done: store, word, args, key, is_new, old -/
def f_text_done : Fn := ⟨3, 6, [.asgn 3 (.p2 .idx (.var 2) (.cst (.int 0))), .ite (.p2 (.cmp .eq) (.var 1) (.cst (.str [112, 117, 116]))) [.ret (.call "put" [(.var 0), (.var 3), (.p2 .idx (.var 2) (.cst (.int 1)))])] [], .ite (.p2 (.cmp .eq) (.var 1) (.cst (.str [112, 117, 116, 110, 101, 119]))) [.asgn 4 (.p2 (.cmp .notIn) (.var 3) (.fld kcls (.var 0) "held")), .ite (.var 4) [.expr (.meth "Store" "keep" (.var 0) [(.var 3), (.cst (.str [116, 101, 120, 116])), (.p2 .idx (.var 2) (.cst (.int 1)))])] [], .ret (.call "as_number" [(.var 4)])] [], .ite (.p2 (.cmp .notIn) (.meth "Store" "kind" (.var 0) [(.var 3)]) (.tup [(.cst (.str [110, 111, 110, 101])), (.cst (.str [116, 101, 120, 116]))])) [.ret (.glb "KIND" (.tup [(.str [98, 97, 100]), (.str [107, 105, 110, 100])]))] [], .asgn 5 (.meth "Store" "value" (.var 0) [(.var 3), (.cst (.str [116, 101, 120, 116])), (.cst .non)]), .ite (.p2 (.cmp .eq) (.var 1) (.cst (.str [103, 101, 116]))) [.ret (.call "told_text" [(.var 5)])] [], .ite (.p2 (.cmp .eq) (.var 1) (.cst (.str [115, 119, 97, 112]))) [.expr (.call "put" [(.var 0), (.var 3), (.p2 .idx (.var 2) (.cst (.int 1)))]), .ret (.call "told_text" [(.var 5)])] [], .ite (.p2 (.cmp .eq) (.var 1) (.cst (.str [97, 100, 100]))) [.ret (.call "added" [(.var 0), (.var 3), (.var 5), (.p2 .idx (.var 2) (.cst (.int 1)))])] [], .ite (.p2 (.cmp .eq) (.var 1) (.cst (.str [106, 111, 105, 110]))) [.ret (.call "joined" [(.var 0), (.var 3), (.var 5), (.p2 .idx (.var 2) (.cst (.int 1)))])] [], .ret (.tup [(.cst (.str [110, 117, 109, 98, 101, 114])), (.ife (.p1 .isNone (.var 5)) (.cst (.int 0)) (.p1 .len (.var 5)))])]⟩
/-- count_of: word, found -/
def f_count_of : Fn := ⟨1, 2, [.asgn 1 (.cst .non), .ite (.gIn "KEY_WORDS" kt_KEY_WORDS (.var 0)) [.asgn 1 (.gIdx "KEY_WORDS" kt_KEY_WORDS (.var 0))] [.ite (.gIn "TEXT_WORDS" kt_TEXT_WORDS (.var 0)) [.asgn 1 (.gIdx "TEXT_WORDS" kt_TEXT_WORDS (.var 0))] [.ite (.gIn "ROW_WORDS" kt_ROW_WORDS (.var 0)) [.asgn 1 (.gIdx "ROW_WORDS" kt_ROW_WORDS (.var 0))] [.ite (.gIn "SET_WORDS" kt_SET_WORDS (.var 0)) [.asgn 1 (.gIdx "SET_WORDS" kt_SET_WORDS (.var 0))] [.ite (.gIn "TABLE_WORDS" kt_TABLE_WORDS (.var 0)) [.asgn 1 (.gIdx "TABLE_WORDS" kt_TABLE_WORDS (.var 0))] [.ite (.gIn "RANK_WORDS" kt_RANK_WORDS (.var 0)) [.asgn 1 (.gIdx "RANK_WORDS" kt_RANK_WORDS (.var 0))] []]]]]], .ret (.var 1)]⟩
/-- wrong: word, args, count -/
def f_wrong : Fn := ⟨2, 3, [.asgn 2 (.call "count_of" [(.var 0)]), .ite (.p1 .isNone (.var 2)) [.ret (.tup [(.cst (.str [98, 97, 100])), (.cst (.str [119, 111, 114, 100]))])] [], .ret (.ife (.chain .le .le (.p2 .idx (.var 2) (.cst (.int 0))) (.p1 .len (.var 1)) (.p2 .idx (.var 2) (.cst (.int 1)))) (.cst .non) (.tup [(.cst (.str [98, 97, 100])), (.cst (.str [99, 111, 117, 110, 116]))]))]⟩
/-- answer: store, words, word, args, found -/
def f_answer : Fn := ⟨2, 5, [.asgn 2 (.p2 .idx (.var 1) (.cst (.int 0))), .asgn 3 (.p2 .slFrom (.var 1) (.cst (.int 1))), .asgn 4 (.call "wrong" [(.var 2), (.frz (.var 3))]), .ite (.p1 .notNone (.var 4)) [.ret (.var 4)] [], .ite (.gIn "KEY_WORDS" kt_KEY_WORDS (.var 2)) [.ret (.call "key_done" [(.var 0), (.var 2), (.frz (.var 3))])] [], .ite (.gIn "TEXT_WORDS" kt_TEXT_WORDS (.var 2)) [.ret (.call "text_done" [(.var 0), (.var 2), (.frz (.var 3))])] [], .ite (.gIn "ROW_WORDS" kt_ROW_WORDS (.var 2)) [.ret (.call "row_done" [(.var 0), (.var 2), (.frz (.var 3))])] [], .ite (.gIn "SET_WORDS" kt_SET_WORDS (.var 2)) [.ret (.call "set_done" [(.var 0), (.var 2), (.frz (.var 3))])] [], .ret (.ife (.gIn "TABLE_WORDS" kt_TABLE_WORDS (.var 2)) (.call "table_done" [(.var 0), (.var 2), (.frz (.var 3))]) (.call "rank_done" [(.var 0), (.var 2), (.frz (.var 3))]))]⟩
/-- _law_cell: _law_script, _law_k -/
def f__law_cell : Fn := ⟨2, 2, [.ite (.var 0) [.ret (.p2 .idx (.var 0) (.p2 .mod (.var 1) (.p1 .len (.var 0))))] [], .ret (.cst (.int 0))]⟩
/-- _law_mix: _law_script, _law_k, _law_number_here -/
def f__law_mix : Fn := ⟨2, 3, [.asgn 2 (.p2 .mod (.p2 .add (.call "_law_cell" [(.var 0), (.var 1)]) (.p2 .mul (.cst (.int 104729)) (.p2 .add (.var 1) (.cst (.int 1))))) (.cst (.int 4294967291))), .asgn 2 (.p2 .mod (.p2 .mul (.var 2) (.cst (.int 48271))) (.cst (.int 4294967279))), .ret (.p2 .mod (.p2 .add (.p2 .mul (.p2 .fdiv (.var 2) (.cst (.int 64))) (.cst (.int 69621))) (.var 2)) (.cst (.int 4294967231)))]⟩
/-- _law_draw: _law_script, _law_town, _law_many -/
def f__law_draw : Fn := ⟨3, 3, [.expr (.mut .append (.var 1) [(.cst (.int 0))]), .ret (.p2 .mod (.p2 .fdiv (.call "_law_mix" [(.var 0), (.p1 .len (.var 1))]) (.cst (.int 8))) (.var 2))]⟩
/-- _law_pick: _law_script, _law_town, _law_some -/
def f__law_pick : Fn := ⟨3, 3, [.ret (.p2 .idx (.var 2) (.call "_law_draw" [(.var 0), (.var 1), (.p1 .len (.var 2))]))]⟩
/-- _law_state:  -/
def f__law_state : Fn := ⟨0, 0, [.ret (.box (.dct [(.str [104, 101, 108, 100]), (.str [101, 110, 100, 115]), (.str [110, 111, 119]), (.str [115, 116, 97, 109, 112]), (.str [115, 116, 97, 109, 112, 115])] [(.box (.dct [] [])), (.box (.dct [] [])), (.cst (.int 0)), (.cst (.int 0)), (.box (.dct [] []))]))]⟩
/-- _law_touch: _law_state_here, _law_key -/
def f__law_touch : Fn := ⟨2, 2, [.iset (.var 0) (.cst (.str [115, 116, 97, 109, 112])) (.p2 .add (.p2 .idx (.var 0) (.cst (.str [115, 116, 97, 109, 112]))) (.cst (.int 1))), .iset (.p2 .idx (.var 0) (.cst (.str [115, 116, 97, 109, 112, 115]))) (.var 1) (.p2 .idx (.var 0) (.cst (.str [115, 116, 97, 109, 112])))]⟩
/-- _law_keep: _law_state_here, _law_key, _law_kind, _law_value -/
def f__law_keep : Fn := ⟨4, 4, [.ite (.and (.p2 (.cmp .ne) (.var 2) (.cst (.str [116, 101, 120, 116]))) (.p2 (.cmp .eq) (.p1 .len (.var 3)) (.cst (.int 0)))) [.expr (.mut .popD (.p2 .idx (.var 0) (.cst (.str [104, 101, 108, 100]))) [(.var 1), (.cst .non)]), .expr (.mut .popD (.p2 .idx (.var 0) (.cst (.str [101, 110, 100, 115]))) [(.var 1), (.cst .non)])] [.iset (.p2 .idx (.var 0) (.cst (.str [104, 101, 108, 100]))) (.var 1) (.tup [(.var 2), (.var 3)])], .expr (.call "_law_touch" [(.var 0), (.var 1)])]⟩
/-- _law_drop: _law_state_here, _law_key -/
def f__law_drop : Fn := ⟨2, 2, [.expr (.mut .popD (.p2 .idx (.var 0) (.cst (.str [101, 110, 100, 115]))) [(.var 1), (.cst .non)]), .ite (.p2 (.cmp .isIn) (.var 1) (.p2 .idx (.var 0) (.cst (.str [104, 101, 108, 100])))) [.expr (.mut .popK (.p2 .idx (.var 0) (.cst (.str [104, 101, 108, 100]))) [(.var 1)]), .expr (.call "_law_touch" [(.var 0), (.var 1)]), .ret (.cst (.int 1))] [], .ret (.cst (.int 0))]⟩
/-- _law_has: _law_state_here, _law_key, _law_kind, _law_empty -/
def f__law_has : Fn := ⟨4, 4, [.ite (.p2 (.cmp .notIn) (.var 1) (.p2 .idx (.var 0) (.cst (.str [104, 101, 108, 100])))) [.ret (.var 3)] [], .ret (.ife (.p2 (.cmp .eq) (.p2 .idx (.p2 .idx (.p2 .idx (.var 0) (.cst (.str [104, 101, 108, 100]))) (.var 1)) (.cst (.int 0))) (.var 2)) (.p2 .idx (.p2 .idx (.p2 .idx (.var 0) (.cst (.str [104, 101, 108, 100]))) (.var 1)) (.cst (.int 1))) (.cst .non))]⟩
/-- _law_number: _law_text, _law_figures, _law_sign -/
def f__law_number : Fn := ⟨1, 3, [.asgn 1 (.ife (.p2 (.cmp .eq) (.p2 .slTo (.var 0) (.cst (.int 1))) (.cst (.str [45]))) (.p2 .slFrom (.var 0) (.cst (.int 1))) (.var 0)), .ite (.or (.p2 (.cmp .eq) (.var 1) (.cst (.str []))) (.or (.p2 (.cmp .gt) (.p1 .len (.var 1)) (.cst (.int 15))) (.p2 (.cmp .ne) (.comp [2] (.seq (.frz (.var 1))) [(.p2 (.cmp .notIn) (.var 2) (.cst (.str [48, 49, 50, 51, 52, 53, 54, 55, 56, 57])))] (.var 2)) (.lst [])))) [.ret (.cst .non)] [], .ret (.ife (.p2 (.cmp .eq) (.p1 .str (.p1 .int (.var 0))) (.var 0)) (.p1 .int (.var 0)) (.cst .non))]⟩
/-- _law_texts: _law_some, _law_one -/
def f__law_texts : Fn := ⟨1, 2, [.ret (.tup [(.cst (.str [114, 111, 119])), (.p1 .tuple (.comp [1] (.seq (.var 0)) [] (.tup [(.cst (.str [116, 101, 120, 116])), (.var 1)])))])]⟩
def b__law_picture_0 : List St := [.unp [3, 4] (.p2 .idx (.p2 .idx (.var 0) (.cst (.str [104, 101, 108, 100]))) (.var 2)), .asgn 5 (.var 4), .ite (.p2 (.cmp .isIn) (.var 3) (.tup [(.cst (.str [114, 111, 119])), (.cst (.str [115, 101, 116]))])) [.asgn 5 (.p1 .tuple (.var 4))] [], .ite (.p2 (.cmp .isIn) (.var 3) (.tup [(.cst (.str [116, 97, 98, 108, 101])), (.cst (.str [114, 97, 110, 107]))])) [.asgn 5 (.p1 .tuple (.p1 .sorted (.comp [7] (.keys (.var 4)) [] (.tup [(.var 7), (.p2 .idx (.var 4) (.var 7))]))))] [], .asgn 6 (.ife (.p2 (.cmp .isIn) (.var 2) (.p2 .idx (.var 0) (.cst (.str [101, 110, 100, 115])))) (.p2 .sub (.p2 .idx (.p2 .idx (.var 0) (.cst (.str [101, 110, 100, 115]))) (.var 2)) (.p2 .idx (.var 0) (.cst (.str [110, 111, 119])))) (.cst .non)), .expr (.mut .append (.var 1) [(.tup [(.var 2), (.var 3), (.var 5), (.var 6)])])]
/-- _law_picture: _law_state_here, _law_found, _law_key, _law_kind, _law_value, _law_shown, _law_left, _law_name -/
def f__law_picture : Fn := ⟨1, 8, [.asgn 1 (.lst []), .forr [2] (.seq (.p1 .sortedKeys (.p2 .idx (.var 0) (.cst (.str [104, 101, 108, 100]))))) b__law_picture_0, .ret (.var 1)]⟩
/-- _law_keys: _law_state_here, _law_words_here, _law_word, _law_args, _law_held, _law_entry, _law_end, _law_many, _law_key -/
def f__law_keys : Fn := ⟨2, 9, [.par [2, 3] [(.p2 .idx (.var 1) (.cst (.int 0))), (.p2 .slFrom (.var 1) (.cst (.int 1)))], .asgn 4 (.p2 .idx (.var 0) (.cst (.str [104, 101, 108, 100]))), .ite (.p2 (.cmp .eq) (.var 2) (.cst (.str [104, 97, 115]))) [.ret (.tup [(.cst (.str [110, 117, 109, 98, 101, 114])), (.p1 .len (.comp [8] (.seq (.var 3)) [(.p2 (.cmp .isIn) (.var 8) (.var 4))] (.var 8)))])] [], .ite (.p2 (.cmp .eq) (.var 2) (.cst (.str [100, 114, 111, 112]))) [.ret (.tup [(.cst (.str [110, 117, 109, 98, 101, 114])), (.p1 .sum (.comp [8] (.seq (.var 3)) [] (.call "_law_drop" [(.var 0), (.var 8)])))])] [], .ite (.p2 (.cmp .eq) (.var 2) (.cst (.str [107, 105, 110, 100]))) [.ret (.tup [(.cst (.str [111, 107])), (.ife (.p2 (.cmp .isIn) (.p2 .idx (.var 3) (.cst (.int 0))) (.var 4)) (.p2 .idx (.p2 .idx (.var 4) (.p2 .idx (.var 3) (.cst (.int 0)))) (.cst (.int 0))) (.cst (.str [110, 111, 110, 101])))])] [], .ite (.p2 (.cmp .eq) (.var 2) (.cst (.str [107, 101, 121, 115]))) [.ret (.call "_law_texts" [(.p1 .sortedKeys (.var 4))])] [], .ite (.p2 (.cmp .eq) (.var 2) (.cst (.str [114, 101, 110, 97, 109, 101]))) [.ite (.p2 (.cmp .notIn) (.p2 .idx (.var 3) (.cst (.int 0))) (.var 4)) [.ret (.tup [(.cst (.str [98, 97, 100])), (.cst (.str [110, 111, 110, 101]))])] [], .asgn 5 (.p2 .idx (.var 4) (.p2 .idx (.var 3) (.cst (.int 0)))), .asgn 6 (.p3 .dget (.p2 .idx (.var 0) (.cst (.str [101, 110, 100, 115]))) (.p2 .idx (.var 3) (.cst (.int 0))) (.cst .non)), .expr (.call "_law_drop" [(.var 0), (.p2 .idx (.var 3) (.cst (.int 0)))]), .expr (.call "_law_drop" [(.var 0), (.p2 .idx (.var 3) (.cst (.int 1)))]), .expr (.call "_law_keep" [(.var 0), (.p2 .idx (.var 3) (.cst (.int 1))), (.p2 .idx (.var 5) (.cst (.int 0))), (.p2 .idx (.var 5) (.cst (.int 1)))]), .ite (.p1 .notNone (.var 6)) [.iset (.p2 .idx (.var 0) (.cst (.str [101, 110, 100, 115]))) (.p2 .idx (.var 3) (.cst (.int 1))) (.var 6)] [], .ret (.tup [(.cst (.str [111, 107])), (.cst (.str [100, 111, 110, 101]))])] [], .ite (.p2 (.cmp .eq) (.var 2) (.cst (.str [101, 110, 100]))) [.asgn 7 (.call "_law_number" [(.p2 .idx (.var 3) (.cst (.int 1)))]), .ite (.or (.p1 .isNone (.var 7)) (.not (.chain .le .le (.cst (.int 1)) (.var 7) (.cst (.int 1000000))))) [.ret (.tup [(.cst (.str [98, 97, 100])), (.cst (.str [110, 117, 109, 98, 101, 114]))])] [], .ite (.p2 (.cmp .isIn) (.p2 .idx (.var 3) (.cst (.int 0))) (.var 4)) [.iset (.p2 .idx (.var 0) (.cst (.str [101, 110, 100, 115]))) (.p2 .idx (.var 3) (.cst (.int 0))) (.p2 .add (.p2 .idx (.var 0) (.cst (.str [110, 111, 119]))) (.var 7))] [], .ret (.tup [(.cst (.str [110, 117, 109, 98, 101, 114])), (.p1 .int (.p2 (.cmp .isIn) (.p2 .idx (.var 3) (.cst (.int 0))) (.var 4)))])] [], .ite (.p2 (.cmp .eq) (.var 2) (.cst (.str [108, 101, 102, 116]))) [.ite (.p2 (.cmp .notIn) (.p2 .idx (.var 3) (.cst (.int 0))) (.var 4)) [.ret (.tup [(.cst (.str [110, 117, 109, 98, 101, 114])), (.p1 .neg (.cst (.int 2)))])] [], .ret (.tup [(.cst (.str [110, 117, 109, 98, 101, 114])), (.ife (.p2 (.cmp .isIn) (.p2 .idx (.var 3) (.cst (.int 0))) (.p2 .idx (.var 0) (.cst (.str [101, 110, 100, 115])))) (.p2 .sub (.p2 .idx (.p2 .idx (.var 0) (.cst (.str [101, 110, 100, 115]))) (.p2 .idx (.var 3) (.cst (.int 0)))) (.p2 .idx (.var 0) (.cst (.str [110, 111, 119])))) (.p1 .neg (.cst (.int 1))))])] [], .ite (.p2 (.cmp .eq) (.var 2) (.cst (.str [115, 116, 97, 121]))) [.ret (.tup [(.cst (.str [110, 117, 109, 98, 101, 114])), (.p1 .int (.p1 .notNone (.mut .popD (.p2 .idx (.var 0) (.cst (.str [101, 110, 100, 115]))) [(.p2 .idx (.var 3) (.cst (.int 0))), (.cst .non)])))])] [], .ret (.cst .non)]⟩
/-- _law_slice: _law_row, _law_first, _law_last, _law_k -/
def f__law_slice : Fn := ⟨3, 4, [.ite (.p2 (.cmp .lt) (.var 1) (.cst (.int 0))) [.asgn 1 (.p2 .max2 (.cst (.int 0)) (.p2 .add (.p1 .len (.var 0)) (.var 1)))] [], .ite (.p2 (.cmp .lt) (.var 2) (.cst (.int 0))) [.asgn 2 (.p2 .add (.p1 .len (.var 0)) (.var 2))] [], .ret (.comp [3] (.rng1 (.p1 .len (.var 0))) [(.chain .le .le (.var 1) (.var 3) (.var 2))] (.p2 .idx (.var 0) (.var 3)))]⟩
/-- _law_row_deed: _law_state_here, _law_words_here, _law_word, _law_args, _law_key, _law_row, _law_later, _law_first, _law_last, _law_other -/
def f__law_row_deed : Fn := ⟨2, 10, [.par [2, 3] [(.p2 .idx (.var 1) (.cst (.int 0))), (.p2 .slFrom (.var 1) (.cst (.int 1)))], .ite (.p2 (.cmp .notIn) (.var 2) (.tup [(.cst (.str [102, 105, 114, 115, 116])), (.cst (.str [108, 97, 115, 116])), (.cst (.str [116, 97, 107, 101, 102, 105, 114, 115, 116])), (.cst (.str [116, 97, 107, 101, 108, 97, 115, 116])), (.cst (.str [109, 97, 110, 121])), (.cst (.str [115, 108, 105, 99, 101])), (.cst (.str [99, 97, 114, 114, 121]))])) [.ret (.cst .non)] [], .asgn 4 (.p2 .idx (.var 3) (.cst (.int 0))), .asgn 5 (.call "_law_has" [(.var 0), (.var 4), (.cst (.str [114, 111, 119])), (.lst [])]), .ite (.or (.p1 .isNone (.var 5)) (.and (.p2 (.cmp .eq) (.var 2) (.cst (.str [99, 97, 114, 114, 121]))) (.p1 .isNone (.call "_law_has" [(.var 0), (.p2 .idx (.var 3) (.cst (.int 1))), (.cst (.str [114, 111, 119])), (.lst [])])))) [.ret (.tup [(.cst (.str [98, 97, 100])), (.cst (.str [107, 105, 110, 100]))])] [], .ite (.p2 (.cmp .eq) (.var 2) (.cst (.str [109, 97, 110, 121]))) [.ret (.tup [(.cst (.str [110, 117, 109, 98, 101, 114])), (.p1 .len (.var 5))])] [], .ite (.p2 (.cmp .isIn) (.var 2) (.tup [(.cst (.str [102, 105, 114, 115, 116])), (.cst (.str [108, 97, 115, 116]))])) [.asgn 6 (.ife (.p2 (.cmp .eq) (.var 2) (.cst (.str [108, 97, 115, 116]))) (.p2 .add (.var 5) (.p2 .slFrom (.var 3) (.cst (.int 1)))) (.p2 .add (.p1 .rev (.p2 .slFrom (.var 3) (.cst (.int 1)))) (.var 5))), .ite (.p2 (.cmp .gt) (.p1 .len (.var 6)) (.cst (.int 200))) [.ret (.tup [(.cst (.str [98, 97, 100])), (.cst (.str [108, 111, 110, 103]))])] [], .expr (.call "_law_keep" [(.var 0), (.var 4), (.cst (.str [114, 111, 119])), (.frz (.var 6))]), .ret (.tup [(.cst (.str [110, 117, 109, 98, 101, 114])), (.p1 .len (.var 6))])] [], .ite (.p2 (.cmp .eq) (.var 2) (.cst (.str [115, 108, 105, 99, 101]))) [.par [7, 8] [(.call "_law_number" [(.p2 .idx (.var 3) (.cst (.int 1)))]), (.call "_law_number" [(.p2 .idx (.var 3) (.cst (.int 2)))])], .ret (.ife (.or (.p1 .isNone (.var 7)) (.p1 .isNone (.var 8))) (.tup [(.cst (.str [98, 97, 100])), (.cst (.str [110, 117, 109, 98, 101, 114]))]) (.call "_law_texts" [(.call "_law_slice" [(.var 5), (.var 7), (.var 8)])]))] [], .ite (.p2 (.cmp .eq) (.var 5) (.lst [])) [.ret (.tup [(.cst (.str [110, 111, 110, 101]))])] [], .ite (.and (.p2 (.cmp .eq) (.var 2) (.cst (.str [99, 97, 114, 114, 121]))) (.p2 (.cmp .eq) (.p2 .idx (.var 3) (.cst (.int 1))) (.var 4))) [.expr (.call "_law_keep" [(.var 0), (.var 4), (.cst (.str [114, 111, 119])), (.p2 .add (.p2 .slFrom (.var 5) (.p1 .neg (.cst (.int 1)))) (.p2 .slTo (.var 5) (.p1 .neg (.cst (.int 1)))))]), .ret (.tup [(.cst (.str [116, 101, 120, 116])), (.p2 .idx (.var 5) (.p1 .neg (.cst (.int 1))))])] [], .ite (.p2 (.cmp .eq) (.var 2) (.cst (.str [99, 97, 114, 114, 121]))) [.asgn 9 (.call "_law_has" [(.var 0), (.p2 .idx (.var 3) (.cst (.int 1))), (.cst (.str [114, 111, 119])), (.lst [])]), .ite (.p2 (.cmp .eq) (.p1 .len (.var 9)) (.cst (.int 200))) [.ret (.tup [(.cst (.str [98, 97, 100])), (.cst (.str [108, 111, 110, 103]))])] [], .expr (.call "_law_keep" [(.var 0), (.p2 .idx (.var 3) (.cst (.int 1))), (.cst (.str [114, 111, 119])), (.p2 .add (.p2 .slFrom (.var 5) (.p1 .neg (.cst (.int 1)))) (.var 9))])] [], .expr (.call "_law_keep" [(.var 0), (.var 4), (.cst (.str [114, 111, 119])), (.ife (.p2 (.cmp .eq) (.var 2) (.cst (.str [116, 97, 107, 101, 102, 105, 114, 115, 116]))) (.p2 .slFrom (.var 5) (.cst (.int 1))) (.p2 .slTo (.var 5) (.p1 .neg (.cst (.int 1)))))]), .ret (.tup [(.cst (.str [116, 101, 120, 116])), (.ife (.p2 (.cmp .eq) (.var 2) (.cst (.str [116, 97, 107, 101, 102, 105, 114, 115, 116]))) (.p2 .idx (.var 5) (.cst (.int 0))) (.p2 .idx (.var 5) (.p1 .neg (.cst (.int 1)))))])]⟩
/-- _law_words: _law_script, _law_town, _law_key, _law_other, _law_some, _law_places, _law_words_here, _law_k -/
def f__law_words : Fn := ⟨2, 8, [.asgn 2 (.call "_law_pick" [(.var 0), (.var 1), (.lst [(.cst (.str [97])), (.cst (.str [98])), (.cst (.str [99]))])]), .asgn 3 (.call "_law_pick" [(.var 0), (.var 1), (.lst [(.cst (.str [97])), (.cst (.str [98])), (.cst (.str [99]))])]), .asgn 4 (.comp [7] (.rng1 (.p2 .add (.cst (.int 1)) (.call "_law_draw" [(.var 0), (.var 1), (.cst (.int 3))]))) [] (.call "_law_pick" [(.var 0), (.var 1), (.lst [(.cst (.str [120])), (.cst (.str [121])), (.cst (.str [122])), (.cst (.str [])), (.cst (.str [49]))])])), .ite (.p2 (.cmp .eq) (.call "_law_draw" [(.var 0), (.var 1), (.cst (.int 10))]) (.cst (.int 0))) [.asgn 4 (.p2 .mul (.lst [(.cst (.str [119]))]) (.call "_law_pick" [(.var 0), (.var 1), (.lst [(.cst (.int 66)), (.cst (.int 100)), (.cst (.int 198))])]))] [], .asgn 5 (.comp [7] (.rng1 (.cst (.int 2))) [] (.call "_law_pick" [(.var 0), (.var 1), (.lst [(.cst (.str [48])), (.cst (.str [49])), (.cst (.str [50])), (.cst (.str [45, 49])), (.cst (.str [45, 50])), (.cst (.str [45, 57])), (.cst (.str [57])), (.cst (.str [120])), (.cst (.str [50, 48, 48]))])])), .asgn 6 (.lst [(.p2 .add (.lst [(.cst (.str [102, 105, 114, 115, 116])), (.var 2)]) (.var 4)), (.p2 .add (.lst [(.cst (.str [108, 97, 115, 116])), (.var 2)]) (.var 4)), (.lst [(.cst (.str [116, 97, 107, 101, 102, 105, 114, 115, 116])), (.var 2)]), (.lst [(.cst (.str [116, 97, 107, 101, 108, 97, 115, 116])), (.var 2)]), (.lst [(.cst (.str [109, 97, 110, 121])), (.var 2)])]), .asgn 6 (.p2 .add (.var 6) (.lst [(.p2 .add (.lst [(.cst (.str [115, 108, 105, 99, 101])), (.var 2)]) (.var 5)), (.p2 .add (.lst [(.cst (.str [115, 108, 105, 99, 101])), (.var 2)]) (.var 5)), (.lst [(.cst (.str [99, 97, 114, 114, 121])), (.var 2), (.var 3)]), (.lst [(.cst (.str [99, 97, 114, 114, 121])), (.var 2), (.var 3)])])), .ret (.call "_law_pick" [(.var 0), (.var 1), (.p2 .add (.var 6) (.lst [(.lst [(.cst (.str [100, 114, 111, 112])), (.var 2)]), (.lst [(.cst (.str [107, 105, 110, 100])), (.var 2)]), (.lst [(.cst (.str [114, 101, 110, 97, 109, 101])), (.var 2), (.var 3)])]))])]⟩
def b_law_0 : List St := [.asgn 5 (.call "_law_words" [(.var 0), (.var 1)]), .asgn 6 (.p1 .list (.var 5)), .asgn 7 (.or (.call "_law_keys" [(.var 3), (.var 5)]) (.call "_law_row_deed" [(.var 3), (.var 5)])), .ite (.or (.p2 (.cmp .ne) (.call "answer" [(.var 2), (.frz (.var 6))]) (.var 7)) (.p2 (.cmp .ne) (.var 6) (.var 5))) [.ret (.cst (.bl false))] [], .ite (.p2 (.cmp .ne) (.meth "Store" "picture" (.var 2) []) (.call "_law_picture" [(.var 3)])) [.ret (.cst (.bl false))] []]
/-- law: _law_script, _law_town, _law_store, _law_state_here, _law_k, _law_words_here, _law_given, _law_due -/
def f_law : Fn := ⟨1, 8, [.asgn 1 (.box (.lst [])), .asgn 2 (.new "Store" []), .asgn 3 (.call "_law_state" []), .forr [4] (.rng1 (.call "_law_draw" [(.var 0), (.var 1), (.cst (.int 31))])) b_law_0, .ret (.p2 (.cmp .eq) (.meth "Store" "picture" (.var 2) []) (.call "_law_picture" [(.var 3)]))]⟩
def progL : List (String × Fn) := [("_wall", f__wall), ("number_in", f_number_in), ("is_small", f_is_small), ("Store.__init__", f_Store___init__), ("Store.kind", f_Store_kind), ("Store.value", f_Store_value), ("Store.changed", f_Store_changed), ("Store.keep", f_Store_keep), ("Store.drop", f_Store_drop), ("Store.pass_time", f_Store_pass_time), ("Store.picture", f_Store_picture), ("texts_row", f_texts_row), ("as_number", f_as_number), ("between", f_between), ("renamed", f_renamed), ("ended", f_ended), ("left_ticks", f_left_ticks), ("key_done", f_key_done), ("put_in_rows", f_put_in_rows), ("taken", f_taken), ("carried", f_carried), ("row_done", f_row_done), ("put_in_sets", f_put_in_sets), ("taken_out", f_taken_out), ("of_two", f_of_two), ("set_done", f_set_done), ("with_entry", f_with_entry), ("without", f_without), ("table_done", f_table_done), ("in_order", f_in_order), ("rank_done", f_rank_done), ("told_text", f_told_text), ("put", f_put), ("added", f_added), ("joined", f_joined), ("text_done", f_text_done), ("count_of", f_count_of), ("wrong", f_wrong), ("answer", f_answer), ("_law_cell", f__law_cell), ("_law_mix", f__law_mix), ("_law_draw", f__law_draw), ("_law_pick", f__law_pick), ("_law_state", f__law_state), ("_law_touch", f__law_touch), ("_law_keep", f__law_keep), ("_law_drop", f__law_drop), ("_law_has", f__law_has), ("_law_number", f__law_number), ("_law_texts", f__law_texts), ("_law_picture", f__law_picture), ("_law_keys", f__law_keys), ("_law_slice", f__law_slice), ("_law_row_deed", f__law_row_deed), ("_law_words", f__law_words), ("law", f_law)]
def prog : Prog := fun n => progL.lookup n
end KW
/-! KwTop: the defs of the top, matched. -/
namespace KW
open PySem (Str Addr Value)
def top (i : Nat) : PyS := PySem.Challenge.pw_keywire_k12_whole_rows.main.body.getD i (.Pass ⟨0, 0, 0, 0⟩)
def tabs : Tabs := { gl := [("MOST_TEXT", (.int 300)), ("MOST_PARTS", (.int 200)), ("MOST_NUMBER", (.int 999999999999999)), ("DONE", (.tup [(.str [111, 107]), (.str [100, 111, 110, 101])])), ("NONE", (.tup [(.str [110, 111, 110, 101])])), ("KIND", (.tup [(.str [98, 97, 100]), (.str [107, 105, 110, 100])])), ("NUMBER", (.tup [(.str [98, 97, 100]), (.str [110, 117, 109, 98, 101, 114])])), ("LONG", (.tup [(.str [98, 97, 100]), (.str [108, 111, 110, 103])])), ("FIGURES", (.str [48, 49, 50, 51, 52, 53, 54, 55, 56, 57])), ("MOST_FIGURES", (.int 15)), ("MOST_TICKS", (.int 1000000)), ("MOST_FIELDS", (.int 100))], tb := [("KEY_WORDS", kt_KEY_WORDS), ("ROW_WORDS", kt_ROW_WORDS), ("SET_WORDS", kt_SET_WORDS), ("TABLE_WORDS", kt_TABLE_WORDS), ("RANK_WORDS", kt_RANK_WORDS), ("TEXT_WORDS", kt_TEXT_WORDS)], ls := [("OF_TWO", kl_OF_TWO)], fs := ["_wall", "number_in", "is_small", "texts_row", "as_number", "between", "renamed", "ended", "left_ticks", "key_done", "put_in_rows", "taken", "carried", "row_done", "put_in_sets", "taken_out", "of_two", "set_done", "with_entry", "without", "table_done", "in_order", "rank_done", "told_text", "put", "added", "joined", "text_done", "count_of", "wrong", "answer", "_law_cell", "_law_mix", "_law_draw", "_law_pick", "_law_state", "_law_touch", "_law_keep", "_law_drop", "_law_has", "_law_number", "_law_texts", "_law_picture", "_law_keys", "_law_slice", "_law_row_deed", "_law_words", "law"], cs := kcls, ms := [("Store", "__init__"), ("Store", "kind"), ("Store", "value"), ("Store", "changed"), ("Store", "keep"), ("Store", "drop"), ("Store", "pass_time"), ("Store", "picture")], fl := [("Store", "ends"), ("Store", "held"), ("Store", "now"), ("Store", "stamp"), ("Store", "stamps")], xs := [] }
def i__wall : FnI := ⟨"_wall", ("_wall", none), "_wall", "_wall", (top 0), f__wall, ["k"]⟩
def i_number_in : FnI := ⟨"number_in", ("number_in", none), "number_in", "number_in", (top 12), f_number_in, ["text", "figures", "sign"]⟩
def i_is_small : FnI := ⟨"is_small", ("is_small", none), "is_small", "is_small", (top 13), f_is_small, ["number"]⟩
def i_Store___init__ : FnI := ⟨"Store.__init__", ("Store", some "__init__"), "__init__", "Store.__init__", (L2.inClass (top 14) 0), f_Store___init__, ["self"]⟩
def i_Store_kind : FnI := ⟨"Store.kind", ("Store", some "kind"), "kind", "Store.kind", (L2.inClass (top 14) 1), f_Store_kind, ["self", "key"]⟩
def i_Store_value : FnI := ⟨"Store.value", ("Store", some "value"), "value", "Store.value", (L2.inClass (top 14) 2), f_Store_value, ["self", "key", "kind", "empty"]⟩
def i_Store_changed : FnI := ⟨"Store.changed", ("Store", some "changed"), "changed", "Store.changed", (L2.inClass (top 14) 3), f_Store_changed, ["self", "key"]⟩
def i_Store_keep : FnI := ⟨"Store.keep", ("Store", some "keep"), "keep", "Store.keep", (L2.inClass (top 14) 4), f_Store_keep, ["self", "key", "kind", "value"]⟩
def i_Store_drop : FnI := ⟨"Store.drop", ("Store", some "drop"), "drop", "Store.drop", (L2.inClass (top 14) 5), f_Store_drop, ["self", "key"]⟩
def i_Store_pass_time : FnI := ⟨"Store.pass_time", ("Store", some "pass_time"), "pass_time", "Store.pass_time", (L2.inClass (top 14) 6), f_Store_pass_time, ["self", "many"]⟩
def i_Store_picture : FnI := ⟨"Store.picture", ("Store", some "picture"), "picture", "Store.picture", (L2.inClass (top 14) 7), f_Store_picture, ["self", "found", "key", "kind", "value", "one"]⟩
def i_texts_row : FnI := ⟨"texts_row", ("texts_row", none), "texts_row", "texts_row", (top 15), f_texts_row, ["some", "one"]⟩
def i_as_number : FnI := ⟨"as_number", ("as_number", none), "as_number", "as_number", (top 16), f_as_number, ["truth"]⟩
def i_between : FnI := ⟨"between", ("between", none), "between", "between", (top 17), f_between, ["row", "first", "last", "many"]⟩
def i_renamed : FnI := ⟨"renamed", ("renamed", none), "renamed", "renamed", (top 21), f_renamed, ["store", "old", "new", "kind", "value", "end"]⟩
def i_ended : FnI := ⟨"ended", ("ended", none), "ended", "ended", (top 22), f_ended, ["store", "key", "text", "many"]⟩
def i_left_ticks : FnI := ⟨"left_ticks", ("left_ticks", none), "left_ticks", "left_ticks", (top 23), f_left_ticks, ["store", "key"]⟩
def i_key_done : FnI := ⟨"key_done", ("key_done", none), "key_done", "key_done", (top 24), f_key_done, ["store", "word", "args", "key"]⟩
def i_put_in_rows : FnI := ⟨"put_in_rows", ("put_in_rows", none), "put_in", "put_in", (top 27), f_put_in_rows, ["store", "word", "key", "row", "texts", "later"]⟩
def i_taken : FnI := ⟨"taken", ("taken", none), "taken", "taken", (top 29), f_taken, ["store", "word", "key", "row", "found"]⟩
def i_carried : FnI := ⟨"carried", ("carried", none), "carried", "carried", (top 30), f_carried, ["store", "key", "row", "goal", "other", "found"]⟩
def i_row_done : FnI := ⟨"row_done", ("row_done", none), "row_done", "row_done", (top 31), f_row_done, ["store", "word", "args", "key", "row", "first", "last"]⟩
def i_put_in_sets : FnI := ⟨"put_in_sets", ("put_in_sets", none), "put_in", "put_in", (top 35), f_put_in_sets, ["store", "key", "some", "texts", "later", "text"]⟩
def i_taken_out : FnI := ⟨"taken_out", ("taken_out", none), "taken_out", "taken_out", (top 37), f_taken_out, ["store", "key", "some", "texts", "later", "text"]⟩
def i_of_two : FnI := ⟨"of_two", ("of_two", none), "of_two", "of_two", (top 38), f_of_two, ["word", "some", "other", "text"]⟩
def i_set_done : FnI := ⟨"set_done", ("set_done", none), "set_done", "set_done", (top 39), f_set_done, ["store", "word", "args", "key", "some", "other", "found"]⟩
def i_with_entry : FnI := ⟨"with_entry", ("with_entry", none), "with_entry", "with_entry", (top 44), f_with_entry, ["store", "key", "kind", "some", "name", "value", "is_new", "later"]⟩
def i_without : FnI := ⟨"without", ("without", none), "without", "without", (top 45), f_without, ["store", "key", "kind", "some", "names", "later", "name"]⟩
def i_table_done : FnI := ⟨"table_done", ("table_done", none), "table_done", "table_done", (top 46), f_table_done, ["store", "word", "args", "key", "some", "found", "name"]⟩
def i_in_order : FnI := ⟨"in_order", ("in_order", none), "in_order", "in_order", (top 47), f_in_order, ["some", "number", "name"]⟩
def i_rank_done : FnI := ⟨"rank_done", ("rank_done", none), "rank_done", "rank_done", (top 48), f_rank_done, ["store", "word", "args", "key", "some", "number", "first", "last"]⟩
def i_told_text : FnI := ⟨"told_text", ("told_text", none), "told_text", "told_text", (top 51), f_told_text, ["text"]⟩
def i_put : FnI := ⟨"put", ("put", none), "put", "put", (top 52), f_put, ["store", "key", "text"]⟩
def i_added : FnI := ⟨"added", ("added", none), "added", "added", (top 53), f_added, ["store", "key", "old", "text", "more", "number"]⟩
def i_joined : FnI := ⟨"joined", ("joined", none), "joined", "joined", (top 54), f_joined, ["store", "key", "old", "text", "found"]⟩
def i_text_done : FnI := ⟨"text_done", ("text_done", none), "text_done", "text_done", (top 55), f_text_done, ["store", "word", "args", "key", "is_new", "old"]⟩
def i_count_of : FnI := ⟨"count_of", ("count_of", none), "count_of", "count_of", (top 57), f_count_of, ["word", "found"]⟩
def i_wrong : FnI := ⟨"wrong", ("wrong", none), "wrong", "wrong", (top 58), f_wrong, ["word", "args", "count"]⟩
def i_answer : FnI := ⟨"answer", ("answer", none), "answer", "answer", (top 59), f_answer, ["store", "words", "word", "args", "found"]⟩
def i__law_cell : FnI := ⟨"_law_cell", ("_law_cell", none), "_law_cell", "_law_cell", (top 61), f__law_cell, ["_law_script", "_law_k"]⟩
def i__law_mix : FnI := ⟨"_law_mix", ("_law_mix", none), "_law_mix", "_law_mix", (top 62), f__law_mix, ["_law_script", "_law_k", "_law_number_here"]⟩
def i__law_draw : FnI := ⟨"_law_draw", ("_law_draw", none), "_law_draw", "_law_draw", (top 63), f__law_draw, ["_law_script", "_law_town", "_law_many"]⟩
def i__law_pick : FnI := ⟨"_law_pick", ("_law_pick", none), "_law_pick", "_law_pick", (top 64), f__law_pick, ["_law_script", "_law_town", "_law_some"]⟩
def i__law_state : FnI := ⟨"_law_state", ("_law_state", none), "_law_state", "_law_state", (top 65), f__law_state, []⟩
def i__law_touch : FnI := ⟨"_law_touch", ("_law_touch", none), "_law_touch", "_law_touch", (top 66), f__law_touch, ["_law_state_here", "_law_key"]⟩
def i__law_keep : FnI := ⟨"_law_keep", ("_law_keep", none), "_law_keep", "_law_keep", (top 67), f__law_keep, ["_law_state_here", "_law_key", "_law_kind", "_law_value"]⟩
def i__law_drop : FnI := ⟨"_law_drop", ("_law_drop", none), "_law_drop", "_law_drop", (top 68), f__law_drop, ["_law_state_here", "_law_key"]⟩
def i__law_has : FnI := ⟨"_law_has", ("_law_has", none), "_law_has", "_law_has", (top 69), f__law_has, ["_law_state_here", "_law_key", "_law_kind", "_law_empty"]⟩
def i__law_number : FnI := ⟨"_law_number", ("_law_number", none), "_law_number", "_law_number", (top 70), f__law_number, ["_law_text", "_law_figures", "_law_sign"]⟩
def i__law_texts : FnI := ⟨"_law_texts", ("_law_texts", none), "_law_texts", "_law_texts", (top 71), f__law_texts, ["_law_some", "_law_one"]⟩
def i__law_picture : FnI := ⟨"_law_picture", ("_law_picture", none), "_law_picture", "_law_picture", (top 72), f__law_picture, ["_law_state_here", "_law_found", "_law_key", "_law_kind", "_law_value", "_law_shown", "_law_left", "_law_name"]⟩
def i__law_keys : FnI := ⟨"_law_keys", ("_law_keys", none), "_law_keys", "_law_keys", (top 73), f__law_keys, ["_law_state_here", "_law_words_here", "_law_word", "_law_args", "_law_held", "_law_entry", "_law_end", "_law_many", "_law_key"]⟩
def i__law_slice : FnI := ⟨"_law_slice", ("_law_slice", none), "_law_slice", "_law_slice", (top 74), f__law_slice, ["_law_row", "_law_first", "_law_last", "_law_k"]⟩
def i__law_row_deed : FnI := ⟨"_law_row_deed", ("_law_row_deed", none), "_law_row_deed", "_law_row_deed", (top 75), f__law_row_deed, ["_law_state_here", "_law_words_here", "_law_word", "_law_args", "_law_key", "_law_row", "_law_later", "_law_first", "_law_last", "_law_other"]⟩
def i__law_words : FnI := ⟨"_law_words", ("_law_words", none), "_law_words", "_law_words", (top 76), f__law_words, ["_law_script", "_law_town", "_law_key", "_law_other", "_law_some", "_law_places", "_law_words_here", "_law_k"]⟩
def i_law : FnI := ⟨"law", ("law", none), "law", "law", (top 77), f_law, ["_law_script", "_law_town", "_law_store", "_law_state_here", "_law_k", "_law_words_here", "_law_given", "_law_due"]⟩
theorem ok__wall : i__wall.Ok tabs := ⟨by decide +kernel, rfl, rfl, fun _ _ _ _ _ _ us hl => match us, hl with | [_], _ => rfl, by decide +kernel⟩
theorem ok_number_in : i_number_in.Ok tabs := ⟨by decide +kernel, rfl, rfl, fun _ _ _ _ _ _ us hl => match us, hl with | [_], _ => rfl, by decide +kernel⟩
theorem ok_is_small : i_is_small.Ok tabs := ⟨by decide +kernel, rfl, rfl, fun _ _ _ _ _ _ us hl => match us, hl with | [_], _ => rfl, by decide +kernel⟩
theorem ok_Store___init__ : i_Store___init__.Ok tabs := ⟨by decide +kernel, rfl, rfl, fun _ _ _ _ _ _ us hl => match us, hl with | [_], _ => rfl, by decide +kernel⟩
theorem ok_Store_kind : i_Store_kind.Ok tabs := ⟨by decide +kernel, rfl, rfl, fun _ _ _ _ _ _ us hl => match us, hl with | [_, _], _ => rfl, by decide +kernel⟩
theorem ok_Store_value : i_Store_value.Ok tabs := ⟨by decide +kernel, rfl, rfl, fun _ _ _ _ _ _ us hl => match us, hl with | [_, _, _, _], _ => rfl, by decide +kernel⟩
theorem ok_Store_changed : i_Store_changed.Ok tabs := ⟨by decide +kernel, rfl, rfl, fun _ _ _ _ _ _ us hl => match us, hl with | [_, _], _ => rfl, by decide +kernel⟩
theorem ok_Store_keep : i_Store_keep.Ok tabs := ⟨by decide +kernel, rfl, rfl, fun _ _ _ _ _ _ us hl => match us, hl with | [_, _, _, _], _ => rfl, by decide +kernel⟩
theorem ok_Store_drop : i_Store_drop.Ok tabs := ⟨by decide +kernel, rfl, rfl, fun _ _ _ _ _ _ us hl => match us, hl with | [_, _], _ => rfl, by decide +kernel⟩
theorem ok_Store_pass_time : i_Store_pass_time.Ok tabs := ⟨by decide +kernel, rfl, rfl, fun _ _ _ _ _ _ us hl => match us, hl with | [_, _], _ => rfl, by decide +kernel⟩
theorem ok_Store_picture : i_Store_picture.Ok tabs := ⟨by decide +kernel, rfl, rfl, fun _ _ _ _ _ _ us hl => match us, hl with | [_], _ => rfl, by decide +kernel⟩
theorem ok_texts_row : i_texts_row.Ok tabs := ⟨by decide +kernel, rfl, rfl, fun _ _ _ _ _ _ us hl => match us, hl with | [_], _ => rfl, by decide +kernel⟩
theorem ok_as_number : i_as_number.Ok tabs := ⟨by decide +kernel, rfl, rfl, fun _ _ _ _ _ _ us hl => match us, hl with | [_], _ => rfl, by decide +kernel⟩
theorem ok_between : i_between.Ok tabs := ⟨by decide +kernel, rfl, rfl, fun _ _ _ _ _ _ us hl => match us, hl with | [_, _, _], _ => rfl, by decide +kernel⟩
theorem ok_renamed : i_renamed.Ok tabs := ⟨by decide +kernel, rfl, rfl, fun _ _ _ _ _ _ us hl => match us, hl with | [_, _, _], _ => rfl, by decide +kernel⟩
theorem ok_ended : i_ended.Ok tabs := ⟨by decide +kernel, rfl, rfl, fun _ _ _ _ _ _ us hl => match us, hl with | [_, _, _], _ => rfl, by decide +kernel⟩
theorem ok_left_ticks : i_left_ticks.Ok tabs := ⟨by decide +kernel, rfl, rfl, fun _ _ _ _ _ _ us hl => match us, hl with | [_, _], _ => rfl, by decide +kernel⟩
theorem ok_key_done : i_key_done.Ok tabs := ⟨by decide +kernel, rfl, rfl, fun _ _ _ _ _ _ us hl => match us, hl with | [_, _, _], _ => rfl, by decide +kernel⟩
theorem ok_put_in_rows : i_put_in_rows.Ok tabs := ⟨by decide +kernel, rfl, rfl, fun _ _ _ _ _ _ us hl => match us, hl with | [_, _, _, _, _], _ => rfl, by decide +kernel⟩
theorem ok_taken : i_taken.Ok tabs := ⟨by decide +kernel, rfl, rfl, fun _ _ _ _ _ _ us hl => match us, hl with | [_, _, _, _], _ => rfl, by decide +kernel⟩
theorem ok_carried : i_carried.Ok tabs := ⟨by decide +kernel, rfl, rfl, fun _ _ _ _ _ _ us hl => match us, hl with | [_, _, _, _], _ => rfl, by decide +kernel⟩
theorem ok_row_done : i_row_done.Ok tabs := ⟨by decide +kernel, rfl, rfl, fun _ _ _ _ _ _ us hl => match us, hl with | [_, _, _], _ => rfl, by decide +kernel⟩
theorem ok_put_in_sets : i_put_in_sets.Ok tabs := ⟨by decide +kernel, rfl, rfl, fun _ _ _ _ _ _ us hl => match us, hl with | [_, _, _, _], _ => rfl, by decide +kernel⟩
theorem ok_taken_out : i_taken_out.Ok tabs := ⟨by decide +kernel, rfl, rfl, fun _ _ _ _ _ _ us hl => match us, hl with | [_, _, _, _], _ => rfl, by decide +kernel⟩
theorem ok_of_two : i_of_two.Ok tabs := ⟨by decide +kernel, rfl, rfl, fun _ _ _ _ _ _ us hl => match us, hl with | [_, _, _], _ => rfl, by decide +kernel⟩
theorem ok_set_done : i_set_done.Ok tabs := ⟨by decide +kernel, rfl, rfl, fun _ _ _ _ _ _ us hl => match us, hl with | [_, _, _], _ => rfl, by decide +kernel⟩
theorem ok_with_entry : i_with_entry.Ok tabs := ⟨by decide +kernel, rfl, rfl, fun _ _ _ _ _ _ us hl => match us, hl with | [_, _, _, _, _, _], _ => rfl, by decide +kernel⟩
theorem ok_without : i_without.Ok tabs := ⟨by decide +kernel, rfl, rfl, fun _ _ _ _ _ _ us hl => match us, hl with | [_, _, _, _, _], _ => rfl, by decide +kernel⟩
theorem ok_table_done : i_table_done.Ok tabs := ⟨by decide +kernel, rfl, rfl, fun _ _ _ _ _ _ us hl => match us, hl with | [_, _, _], _ => rfl, by decide +kernel⟩
theorem ok_in_order : i_in_order.Ok tabs := ⟨by decide +kernel, rfl, rfl, fun _ _ _ _ _ _ us hl => match us, hl with | [_], _ => rfl, by decide +kernel⟩
theorem ok_rank_done : i_rank_done.Ok tabs := ⟨by decide +kernel, rfl, rfl, fun _ _ _ _ _ _ us hl => match us, hl with | [_, _, _], _ => rfl, by decide +kernel⟩
theorem ok_told_text : i_told_text.Ok tabs := ⟨by decide +kernel, rfl, rfl, fun _ _ _ _ _ _ us hl => match us, hl with | [_], _ => rfl, by decide +kernel⟩
theorem ok_put : i_put.Ok tabs := ⟨by decide +kernel, rfl, rfl, fun _ _ _ _ _ _ us hl => match us, hl with | [_, _, _], _ => rfl, by decide +kernel⟩
theorem ok_added : i_added.Ok tabs := ⟨by decide +kernel, rfl, rfl, fun _ _ _ _ _ _ us hl => match us, hl with | [_, _, _, _], _ => rfl, by decide +kernel⟩
theorem ok_joined : i_joined.Ok tabs := ⟨by decide +kernel, rfl, rfl, fun _ _ _ _ _ _ us hl => match us, hl with | [_, _, _, _], _ => rfl, by decide +kernel⟩
theorem ok_text_done : i_text_done.Ok tabs := ⟨by decide +kernel, rfl, rfl, fun _ _ _ _ _ _ us hl => match us, hl with | [_, _, _], _ => rfl, by decide +kernel⟩
theorem ok_count_of : i_count_of.Ok tabs := ⟨by decide +kernel, rfl, rfl, fun _ _ _ _ _ _ us hl => match us, hl with | [_], _ => rfl, by decide +kernel⟩
theorem ok_wrong : i_wrong.Ok tabs := ⟨by decide +kernel, rfl, rfl, fun _ _ _ _ _ _ us hl => match us, hl with | [_, _], _ => rfl, by decide +kernel⟩
theorem ok_answer : i_answer.Ok tabs := ⟨by decide +kernel, rfl, rfl, fun _ _ _ _ _ _ us hl => match us, hl with | [_, _], _ => rfl, by decide +kernel⟩
theorem ok__law_cell : i__law_cell.Ok tabs := ⟨by decide +kernel, rfl, rfl, fun _ _ _ _ _ _ us hl => match us, hl with | [_, _], _ => rfl, by decide +kernel⟩
theorem ok__law_mix : i__law_mix.Ok tabs := ⟨by decide +kernel, rfl, rfl, fun _ _ _ _ _ _ us hl => match us, hl with | [_, _], _ => rfl, by decide +kernel⟩
theorem ok__law_draw : i__law_draw.Ok tabs := ⟨by decide +kernel, rfl, rfl, fun _ _ _ _ _ _ us hl => match us, hl with | [_, _, _], _ => rfl, by decide +kernel⟩
theorem ok__law_pick : i__law_pick.Ok tabs := ⟨by decide +kernel, rfl, rfl, fun _ _ _ _ _ _ us hl => match us, hl with | [_, _, _], _ => rfl, by decide +kernel⟩
theorem ok__law_state : i__law_state.Ok tabs := ⟨by decide +kernel, rfl, rfl, fun _ _ _ _ _ _ us hl => match us, hl with | [], _ => rfl, by decide +kernel⟩
theorem ok__law_touch : i__law_touch.Ok tabs := ⟨by decide +kernel, rfl, rfl, fun _ _ _ _ _ _ us hl => match us, hl with | [_, _], _ => rfl, by decide +kernel⟩
theorem ok__law_keep : i__law_keep.Ok tabs := ⟨by decide +kernel, rfl, rfl, fun _ _ _ _ _ _ us hl => match us, hl with | [_, _, _, _], _ => rfl, by decide +kernel⟩
theorem ok__law_drop : i__law_drop.Ok tabs := ⟨by decide +kernel, rfl, rfl, fun _ _ _ _ _ _ us hl => match us, hl with | [_, _], _ => rfl, by decide +kernel⟩
theorem ok__law_has : i__law_has.Ok tabs := ⟨by decide +kernel, rfl, rfl, fun _ _ _ _ _ _ us hl => match us, hl with | [_, _, _, _], _ => rfl, by decide +kernel⟩
theorem ok__law_number : i__law_number.Ok tabs := ⟨by decide +kernel, rfl, rfl, fun _ _ _ _ _ _ us hl => match us, hl with | [_], _ => rfl, by decide +kernel⟩
theorem ok__law_texts : i__law_texts.Ok tabs := ⟨by decide +kernel, rfl, rfl, fun _ _ _ _ _ _ us hl => match us, hl with | [_], _ => rfl, by decide +kernel⟩
theorem ok__law_picture : i__law_picture.Ok tabs := ⟨by decide +kernel, rfl, rfl, fun _ _ _ _ _ _ us hl => match us, hl with | [_], _ => rfl, by decide +kernel⟩
theorem ok__law_keys : i__law_keys.Ok tabs := ⟨by decide +kernel, rfl, rfl, fun _ _ _ _ _ _ us hl => match us, hl with | [_, _], _ => rfl, by decide +kernel⟩
theorem ok__law_slice : i__law_slice.Ok tabs := ⟨by decide +kernel, rfl, rfl, fun _ _ _ _ _ _ us hl => match us, hl with | [_, _, _], _ => rfl, by decide +kernel⟩
theorem ok__law_row_deed : i__law_row_deed.Ok tabs := ⟨by decide +kernel, rfl, rfl, fun _ _ _ _ _ _ us hl => match us, hl with | [_, _], _ => rfl, by decide +kernel⟩
theorem ok__law_words : i__law_words.Ok tabs := ⟨by decide +kernel, rfl, rfl, fun _ _ _ _ _ _ us hl => match us, hl with | [_, _], _ => rfl, by decide +kernel⟩
theorem ok_law : i_law.Ok tabs := ⟨by decide +kernel, rfl, rfl, fun _ _ _ _ _ _ us hl => match us, hl with | [_], _ => rfl, by decide +kernel⟩
def fis : List FnI := [i__wall, i_number_in, i_is_small, i_Store___init__, i_Store_kind, i_Store_value, i_Store_changed, i_Store_keep, i_Store_drop, i_Store_pass_time, i_Store_picture, i_texts_row, i_as_number, i_between, i_renamed, i_ended, i_left_ticks, i_key_done, i_put_in_rows, i_taken, i_carried, i_row_done, i_put_in_sets, i_taken_out, i_of_two, i_set_done, i_with_entry, i_without, i_table_done, i_in_order, i_rank_done, i_told_text, i_put, i_added, i_joined, i_text_done, i_count_of, i_wrong, i_answer, i__law_cell, i__law_mix, i__law_draw, i__law_pick, i__law_state, i__law_touch, i__law_keep, i__law_drop, i__law_has, i__law_number, i__law_texts, i__law_picture, i__law_keys, i__law_slice, i__law_row_deed, i__law_words, i_law]
theorem fis_ok : ∀ f ∈ fis, f.Ok tabs := by
  intro f h
  simp only [fis, List.mem_cons, List.not_mem_nil, or_false] at h
  rcases h with rfl | rfl | rfl | rfl | rfl | rfl | rfl | rfl | rfl | rfl | rfl | rfl | rfl | rfl | rfl | rfl | rfl | rfl | rfl | rfl | rfl | rfl | rfl | rfl | rfl | rfl | rfl | rfl | rfl | rfl | rfl | rfl | rfl | rfl | rfl | rfl | rfl | rfl | rfl | rfl | rfl | rfl | rfl | rfl | rfl | rfl | rfl | rfl | rfl | rfl | rfl | rfl | rfl | rfl | rfl | rfl
  · exact ok__wall
  · exact ok_number_in
  · exact ok_is_small
  · exact ok_Store___init__
  · exact ok_Store_kind
  · exact ok_Store_value
  · exact ok_Store_changed
  · exact ok_Store_keep
  · exact ok_Store_drop
  · exact ok_Store_pass_time
  · exact ok_Store_picture
  · exact ok_texts_row
  · exact ok_as_number
  · exact ok_between
  · exact ok_renamed
  · exact ok_ended
  · exact ok_left_ticks
  · exact ok_key_done
  · exact ok_put_in_rows
  · exact ok_taken
  · exact ok_carried
  · exact ok_row_done
  · exact ok_put_in_sets
  · exact ok_taken_out
  · exact ok_of_two
  · exact ok_set_done
  · exact ok_with_entry
  · exact ok_without
  · exact ok_table_done
  · exact ok_in_order
  · exact ok_rank_done
  · exact ok_told_text
  · exact ok_put
  · exact ok_added
  · exact ok_joined
  · exact ok_text_done
  · exact ok_count_of
  · exact ok_wrong
  · exact ok_answer
  · exact ok__law_cell
  · exact ok__law_mix
  · exact ok__law_draw
  · exact ok__law_pick
  · exact ok__law_state
  · exact ok__law_touch
  · exact ok__law_keep
  · exact ok__law_drop
  · exact ok__law_has
  · exact ok__law_number
  · exact ok__law_texts
  · exact ok__law_picture
  · exact ok__law_keys
  · exact ok__law_slice
  · exact ok__law_row_deed
  · exact ok__law_words
  · exact ok_law
theorem fis_ck : chkG tabs fis = true := by decide +kernel
theorem fis_g (n : String) : prog n = (fis.map fun f => (f.key, f.fn)).lookup n := rfl
end KW
set_option maxHeartbeats 0
/-! KwRun: the head. -/
namespace KW
open PySem PySem.Spec PyProof.Rows L2
abbrev RW : PySem.W.OpenRow := PySem.W.OpenLaw.row PySem.Challenge.rw_keywire_k12_whole_rows
def faR : List He.Fa := faOf tabs
def fnR : List He.DefD := fis.map FnI.dd
def tsR : List He.Tab := tsOf tabs
def xR : Fr → Bool := xOf tabs
abbrev hk : PySem.W.Hook := hookK 5 faR fnR tsR xR
def ob (s : PySem.W.SharedT) : AlK := obsKG 5 faR fnR tsR xR (HandSHeadRun.getT s)
theorem ob_eq (s : PySem.W.SharedT) : ob s = hk.obs s.abs := obsKG_eq (HandSHeadRun.getT_eq s)
def loose0 : List PySem.Str := ["_wall", "MOST_TEXT", "MOST_PARTS", "MOST_NUMBER", "DONE", "NONE", "KIND", "NUMBER", "LONG", "FIGURES", "MOST_FIGURES", "number_in", "is_small", "Store", "texts_row", "as_number", "between", "KEY_WORDS", "MOST_TICKS", "renamed"]
def loose1 : List PySem.Str := ["ended", "left_ticks", "key_done", "ROW_WORDS", "put_in", "put_in_rows", "taken", "carried", "row_done", "SET_WORDS", "OF_TWO", "put_in_sets", "taken_out", "of_two", "set_done", "MOST_FIELDS", "TABLE_WORDS", "RANK_WORDS", "with_entry", "without"]
def loose2 : List PySem.Str := ["table_done", "in_order", "rank_done", "TEXT_WORDS", "told_text", "put", "added", "joined", "text_done", "count_of", "wrong", "answer", "_law_cell", "_law_mix", "_law_draw", "_law_pick", "_law_state", "_law_touch", "_law_keep", "_law_drop"]
def loose3 : List PySem.Str := ["_law_has", "_law_number", "_law_texts", "_law_picture", "_law_keys", "_law_slice", "_law_row_deed", "_law_words"]
def loose : List PySem.Str := loose0 ++ loose1 ++ loose2 ++ loose3
def PP (w : World) : Prop := HandSHeadRun.RunEq RW (PySem.W.view RW.prog [77]) hk ob 12000 loose w
theorem hrun0 (w : World) : PP (w.withFollow "special-get-raises" false) := by
  intro os
  kernel_rfl
theorem hrun1 (w : World) : PP (w.withFollow "special-get-raises" true) := by
  intro os
  kernel_rfl
theorem hrun (w : World) : PP w := PySem.W.byRow2 "special-get-raises" hrun0 hrun1 w
end KW
set_option maxHeartbeats 0
/-! KwEnd: the law, from its plain law. -/
namespace KW
open PySem PySem.Spec PyProof.Rows L2
def PlainOk : Prop := ∀ ns : List Int, ns.length ≤ 63 → ∃ h, callF prog 20 "law" [.lst (ns.map D.int)] [] = .ok (.val (.bl true)) ⟨[], h⟩
theorem law_facts {P : Program} {w : World} {K : PySem.W.Frag} {h : Heap} {mg : Str → Option Value} {f : Addr} (X : K.In h) (G : h.Ns mainGlobals mg) (hfa : mg ("law" : Str) = some (.ref f)) (c : SaysK faR fnR tsR xR w K) :
    ∃ fd : FuncData, (∀ (s : Shared) (v : Value), BindsTo s fd ⟨[v], []⟩ [("_law_script", v)]) ∧ ∀ base : Heap, K.In base → base.Ns mainGlobals mg → FnOk P w K mg base (L2.CX P w) 40 f fd ["_law_script"] (spOf K (callF prog 20) "law") := by
  have F : Facts K w mg tabs prog := facts_of fis_g fis_ok fis_ck X G c
  have hi : i_law ∈ fis := by simp [fis]
  obtain ⟨i, hi⟩ := List.getElem?_of_mem (List.mem_map_of_mem (f := FnI.dd) hi)
  obtain ⟨fd0, F0⟩ := c.t.d.def_ i hi
  have ea : He.fAd K i_law.dd.at_ = f := by
    have := He.glo_ok X G (factK c.t.d (f := .glo (sst "law")) (by
      unfold faR faOf
      exact List.mem_append_right _ (List.mem_append_left _ (List.mem_map_of_mem (f := fun f => He.Fa.glo (sst f)) (by decide +kernel)))))
    have e2 : mg (sst "law") = mg ("law" : Str) := rfl
    rw [e2, hfa] at this
    injection this with this
    injection this with this
    exact this.symm
  have b := FunD.bindsA (ps := i_law.ps) F0 ok_law.bd
  have hfd : ∀ base : Heap, K.In base → base.Ns mainGlobals mg → FnOk P w K mg base (L2.CX P w) 40 f fd0 ["_law_script"] (spOf K (callF prog 20) "law") := fun base KB GB => by
    rw [← ea]
    exact fn_at (P := P) (base := base) F 20 "law" f_law _ _ _ _ _ _ _ _ _ _ rfl F0 (C8.fnScope_by ok_law.sc) ok_law.ln ok_law.lp ok_law.mt
  exact ⟨fd0, fun s v => b s [v] rfl, hfd⟩
end KW
set_option maxHeartbeats 0
/-! KwHolds: the law. -/
open PySem PySem.W PySem.Calls PyProof.Rows
theorem KW.rcx (P : Program) (w : World) (H : L2.Hp) (s : Shared) (e : Value) (s' : Shared) (h : L2.CX P w [] H s (fun _ _ _ => False) e s') : False := by
  obtain ⟨_, _, _, _, _, _, _, _, _, _, _, _, z⟩ := h
  exact z
theorem KW.law_at (plain : KW.PlainOk) (w : World) (mg : Str → Option Value) (fa : Addr) (h : Heap) (y : KW.hk.says w h) (G : h.Ns mainGlobals mg) (hm : mg ("law" : Str) = some (.ref fa)) :
    ∃ K : PySem.W.Frag, K.In h ∧ LamX.LawAtS PySem.Challenge.rw_keywire_k12_whole_rows w K (L2.CX (PySem.Challenge.rw_keywire_k12_whole_rows).prog w) 40 63 "_law_script" mg fa h := by
  obtain ⟨K, KX, c⟩ := y
  obtain ⟨fd, hb, hF⟩ := KW.law_facts (P := (PySem.Challenge.rw_keywire_k12_whole_rows).prog) KX G hm c
  refine ⟨K, KX, fd, [], KW.spOf K (KW.callF KW.prog 20) "law", fun p hp => (by cases hp), fun p hp => (by cases hp), fun p hp => (by cases hp), hb, fun H a ns hl _ _ hS => ?_, fun base KB GB _ => hF base KB GB⟩
  obtain ⟨h', e⟩ := plain ns hl
  exact KW.sp_law c.noI hS e
theorem KW.holds_of (plain : KW.PlainOk) : PySem.Challenge.rw_keywire_k12_whole_rows.Holds := by
  w_on; o_law
  refine HandSHeadRun.head_any (r := OpenLaw.row PySem.Challenge.rw_keywire_k12_whole_rows) (q := view (OpenLaw.row PySem.Challenge.rw_keywire_k12_whole_rows).prog [77]) (H := KW.hk) (ob := KW.ob) (M := 12000) (loose := KW.loose)
    (d := HandSHeadRun.topDef (OpenLaw.row PySem.Challenge.rw_keywire_k12_whole_rows).prog 77) (kwd := []) KW.ob_eq (by kernel_rfl) (fun s => by kernel_rfl) KW.hrun (by kernel_rfl) (by kernel_rfl) (by kernel_rfl) (by rfl) (by first | assumption | decide +kernel)
    (by decide +kernel) ⟨rfl, rfl, rfl, rfl, rfl, by decide +kernel⟩ ?hw ?hc
  case hw => w_witness2
  case hc =>
    refine LamX.walk_ofTsE (l := PySem.Challenge.rw_keywire_k12_whole_rows) (n := 63) (k := 40) (x := "_law_script") (CX := fun w => L2.CX (PySem.Challenge.rw_keywire_k12_whole_rows).prog w) rfl (by decide) (by kernel_rfl) ⟨rfl, by decide, by decide⟩ ?F (KW.rcx _)
    intro w mg fa h y G hm
    have e : (HandSHeadRun.topDef (OpenLaw.row PySem.Challenge.rw_keywire_k12_whole_rows).prog 77).name = ("law" : PySem.Str) := by kernel_rfl
    rw [e] at hm
    exact KW.law_at plain w mg fa h y G hm
/-! KwPlain: what the small language computes, by rewriting; what waits for a value is a name, so that rewriting goes from the left. -/
namespace KW
section
variable {C : CallF} {s : S} {α β : Type}

@[simp] theorem ev_var (i : Nat) : evalE C (.var i) s = match s.σ[i]? with
    | some (some sv) => .ok (sv.rv (.slot i)) s
    | _ => .stuck := by rw [evalE] <;> rfl
@[simp] theorem ev_cst (d : D) : evalE C (.cst d) s = .ok (.val d) s := by rw [evalE] <;> rfl
@[simp] theorem ev_glb (x : String) (d : D) : evalE C (.glb x d) s = .ok (.val d) s := by rw [evalE] <;> rfl
def kP1 (o : Op1) (r₀ : R RV) : R RV := r₀.bind fun x s => opt s (run1 s.h o x)
@[simp] theorem kP1_ok (o : Op1) (x₀ : RV) : kP1 o (.ok x₀ s) = (fun x => opt s (run1 s.h o x)) x₀ := Eq.trans rfl rfl
@[simp] theorem kP1_ite (o : Op1) {c₀ : Prop} [Decidable c₀] (a₀ b₀ : R RV) : kP1 o (if c₀ then a₀ else b₀) = if c₀ then kP1 o a₀ else kP1 o b₀ := by split <;> rfl
@[simp] theorem kP1_stuck (o : Op1) : kP1 o .stuck = .stuck := Eq.trans rfl rfl
@[simp] theorem kP1_raise (o : Op1) (x₀ : Exc) : kP1 o (.raise x₀ s) = .raise x₀ s := Eq.trans rfl rfl
@[simp] theorem ev_p1 (o : Op1) (a : E) : evalE C (.p1 o a) s = kP1 o (evalE C a s) := by rw [evalE] <;> rfl
def kP2b (o : Op2) (x : RV) (r₀ : R RV) : R RV := r₀.bind fun y s => opt s (run2 s.h o x y)
@[simp] theorem kP2b_ok (o : Op2) (x : RV) (x₀ : RV) : kP2b o x (.ok x₀ s) = (fun y => opt s (run2 s.h o x y)) x₀ := Eq.trans rfl rfl
@[simp] theorem kP2b_ite (o : Op2) (x : RV) {c₀ : Prop} [Decidable c₀] (a₀ b₀ : R RV) : kP2b o x (if c₀ then a₀ else b₀) = if c₀ then kP2b o x a₀ else kP2b o x b₀ := by split <;> rfl
@[simp] theorem kP2b_stuck (o : Op2) (x : RV) : kP2b o x .stuck = .stuck := Eq.trans rfl rfl
@[simp] theorem kP2b_raise (o : Op2) (x : RV) (x₀ : Exc) : kP2b o x (.raise x₀ s) = .raise x₀ s := Eq.trans rfl rfl
def kP2 (C : CallF) (o : Op2) (b : E) (r₀ : R RV) : R RV := r₀.bind fun x s => if (isPk x && !pure b) || !recv2 s.h o x then .stuck else kP2b o x (evalE C b s)
@[simp] theorem kP2_ok (C : CallF) (o : Op2) (b : E) (x₀ : RV) : kP2 C o b (.ok x₀ s) = (fun x => if (isPk x && !pure b) || !recv2 s.h o x then .stuck else kP2b o x (evalE C b s)) x₀ := Eq.trans rfl rfl
@[simp] theorem kP2_ite (C : CallF) (o : Op2) (b : E) {c₀ : Prop} [Decidable c₀] (a₀ b₀ : R RV) : kP2 C o b (if c₀ then a₀ else b₀) = if c₀ then kP2 C o b a₀ else kP2 C o b b₀ := by split <;> rfl
@[simp] theorem kP2_stuck (C : CallF) (o : Op2) (b : E) : kP2 C o b .stuck = .stuck := Eq.trans rfl rfl
@[simp] theorem kP2_raise (C : CallF) (o : Op2) (b : E) (x₀ : Exc) : kP2 C o b (.raise x₀ s) = .raise x₀ s := Eq.trans rfl rfl
@[simp] theorem ev_p2 (o : Op2) (a b : E) : evalE C (.p2 o a b) s = kP2 C o b (evalE C a s) := by rw [evalE] <;> rfl
def kP3c (o : Op3) (x y : RV) (r₀ : R RV) : R RV := r₀.bind fun z s => opt s (run3 s.h o x y z)
@[simp] theorem kP3c_ok (o : Op3) (x y : RV) (x₀ : RV) : kP3c o x y (.ok x₀ s) = (fun z => opt s (run3 s.h o x y z)) x₀ := Eq.trans rfl rfl
@[simp] theorem kP3c_ite (o : Op3) (x y : RV) {c₀ : Prop} [Decidable c₀] (a₀ b₀ : R RV) : kP3c o x y (if c₀ then a₀ else b₀) = if c₀ then kP3c o x y a₀ else kP3c o x y b₀ := by split <;> rfl
@[simp] theorem kP3c_stuck (o : Op3) (x y : RV) : kP3c o x y .stuck = .stuck := Eq.trans rfl rfl
@[simp] theorem kP3c_raise (o : Op3) (x y : RV) (x₀ : Exc) : kP3c o x y (.raise x₀ s) = .raise x₀ s := Eq.trans rfl rfl
def kP3b (C : CallF) (o : Op3) (c : E) (x : RV) (r₀ : R RV) : R RV := r₀.bind fun y s => if (isPk y && !pure c) || !recv3b o y then .stuck else kP3c o x y (evalE C c s)
@[simp] theorem kP3b_ok (C : CallF) (o : Op3) (c : E) (x : RV) (x₀ : RV) : kP3b C o c x (.ok x₀ s) = (fun y => if (isPk y && !pure c) || !recv3b o y then .stuck else kP3c o x y (evalE C c s)) x₀ := Eq.trans rfl rfl
@[simp] theorem kP3b_ite (C : CallF) (o : Op3) (c : E) (x : RV) {c₀ : Prop} [Decidable c₀] (a₀ b₀ : R RV) : kP3b C o c x (if c₀ then a₀ else b₀) = if c₀ then kP3b C o c x a₀ else kP3b C o c x b₀ := by split <;> rfl
@[simp] theorem kP3b_stuck (C : CallF) (o : Op3) (c : E) (x : RV) : kP3b C o c x .stuck = .stuck := Eq.trans rfl rfl
@[simp] theorem kP3b_raise (C : CallF) (o : Op3) (c : E) (x : RV) (x₀ : Exc) : kP3b C o c x (.raise x₀ s) = .raise x₀ s := Eq.trans rfl rfl
def kP3 (C : CallF) (o : Op3) (b c : E) (r₀ : R RV) : R RV := r₀.bind fun x s => if (isPk x && !(pure b && pure c)) || !recv3 s.h o x then .stuck else kP3b C o c x (evalE C b s)
@[simp] theorem kP3_ok (C : CallF) (o : Op3) (b c : E) (x₀ : RV) : kP3 C o b c (.ok x₀ s) = (fun x => if (isPk x && !(pure b && pure c)) || !recv3 s.h o x then .stuck else kP3b C o c x (evalE C b s)) x₀ := Eq.trans rfl rfl
@[simp] theorem kP3_ite (C : CallF) (o : Op3) (b c : E) {c₀ : Prop} [Decidable c₀] (a₀ b₀ : R RV) : kP3 C o b c (if c₀ then a₀ else b₀) = if c₀ then kP3 C o b c a₀ else kP3 C o b c b₀ := by split <;> rfl
@[simp] theorem kP3_stuck (C : CallF) (o : Op3) (b c : E) : kP3 C o b c .stuck = .stuck := Eq.trans rfl rfl
@[simp] theorem kP3_raise (C : CallF) (o : Op3) (b c : E) (x₀ : Exc) : kP3 C o b c (.raise x₀ s) = .raise x₀ s := Eq.trans rfl rfl
@[simp] theorem ev_p3 (o : Op3) (a b c : E) : evalE C (.p3 o a b c) s = kP3 C o b c (evalE C a s) := by rw [evalE] <;> rfl
def kTup  (r₀ : R (List D)) : R RV := r₀.bind fun ds s => .ok (.val (.tup ds)) s
@[simp] theorem kTup_ok  (x₀ : (List D)) : kTup  (.ok x₀ s) = (fun ds => .ok (.val (.tup ds)) s) x₀ := Eq.trans rfl rfl
@[simp] theorem kTup_ite  {c₀ : Prop} [Decidable c₀] (a₀ b₀ : R (List D)) : kTup  (if c₀ then a₀ else b₀) = if c₀ then kTup  a₀ else kTup  b₀ := by split <;> rfl
@[simp] theorem kTup_stuck  : kTup  .stuck = .stuck := Eq.trans rfl rfl
@[simp] theorem kTup_raise  (x₀ : Exc) : kTup  (.raise x₀ s) = .raise x₀ s := Eq.trans rfl rfl
@[simp] theorem ev_tup (es : List E) : evalE C (.tup es) s = kTup (evalEs C es s) := by rw [evalE] <;> rfl
def kLst  (r₀ : R (List D)) : R RV := r₀.bind fun ds s => opt s (newLst ds)
@[simp] theorem kLst_ok  (x₀ : (List D)) : kLst  (.ok x₀ s) = (fun ds => opt s (newLst ds)) x₀ := Eq.trans rfl rfl
@[simp] theorem kLst_ite  {c₀ : Prop} [Decidable c₀] (a₀ b₀ : R (List D)) : kLst  (if c₀ then a₀ else b₀) = if c₀ then kLst  a₀ else kLst  b₀ := by split <;> rfl
@[simp] theorem kLst_stuck  : kLst  .stuck = .stuck := Eq.trans rfl rfl
@[simp] theorem kLst_raise  (x₀ : Exc) : kLst  (.raise x₀ s) = .raise x₀ s := Eq.trans rfl rfl
@[simp] theorem ev_lst (es : List E) : evalE C (.lst es) s = kLst (evalEs C es s) := by rw [evalE] <;> rfl
def kDct (ks : List D) (r₀ : R (List D)) : R RV := r₀.bind fun ds s => if ds.length = ks.length then opt s (((ks.mapM keyOf).map fun ks => .own (.dct ((ks.zip ds).foldl (fun l q => kput q.1 q.2 l) [])))) else .stuck
@[simp] theorem kDct_ok (ks : List D) (x₀ : (List D)) : kDct ks (.ok x₀ s) = (fun ds => if ds.length = ks.length then opt s (((ks.mapM keyOf).map fun ks => .own (.dct ((ks.zip ds).foldl (fun l q => kput q.1 q.2 l) [])))) else .stuck) x₀ := Eq.trans rfl rfl
@[simp] theorem kDct_ite (ks : List D) {c₀ : Prop} [Decidable c₀] (a₀ b₀ : R (List D)) : kDct ks (if c₀ then a₀ else b₀) = if c₀ then kDct ks a₀ else kDct ks b₀ := by split <;> rfl
@[simp] theorem kDct_stuck (ks : List D) : kDct ks .stuck = .stuck := Eq.trans rfl rfl
@[simp] theorem kDct_raise (ks : List D) (x₀ : Exc) : kDct ks (.raise x₀ s) = .raise x₀ s := Eq.trans rfl rfl
@[simp] theorem ev_dct (ks : List D) (es : List E) : evalE C (.dct ks es) s = kDct ks (evalEs C es s) := by rw [evalE] <;> rfl
def kFld (cs : List String) (f : String) (r₀ : R RV) : R RV := r₀.bind fun x s => (match x with
    | .val (.ref i) => match s.h[i]? with
      | some (.ins c fs) => if cs.contains c = true then (match ffind f fs with
        | some sv => .ok (sv.rv (.fld i f)) s
        | none => .stuck) else .stuck
      | _ => .stuck
    | .val (.exc _ fs) => match ffind f fs with
      | some d => .ok (.val d) s
      | none => .stuck
    | _ => .stuck)
@[simp] theorem kFld_ok (cs : List String) (f : String) (x₀ : RV) : kFld cs f (.ok x₀ s) = (fun x => (match x with
    | .val (.ref i) => match s.h[i]? with
      | some (.ins c fs) => if cs.contains c = true then (match ffind f fs with
        | some sv => .ok (sv.rv (.fld i f)) s
        | none => .stuck) else .stuck
      | _ => .stuck
    | .val (.exc _ fs) => match ffind f fs with
      | some d => .ok (.val d) s
      | none => .stuck
    | _ => .stuck)) x₀ := Eq.trans rfl rfl
@[simp] theorem kFld_ite (cs : List String) (f : String) {c₀ : Prop} [Decidable c₀] (a₀ b₀ : R RV) : kFld cs f (if c₀ then a₀ else b₀) = if c₀ then kFld cs f a₀ else kFld cs f b₀ := by split <;> rfl
@[simp] theorem kFld_stuck (cs : List String) (f : String) : kFld cs f .stuck = .stuck := Eq.trans rfl rfl
@[simp] theorem kFld_raise (cs : List String) (f : String) (x₀ : Exc) : kFld cs f (.raise x₀ s) = .raise x₀ s := Eq.trans rfl rfl
@[simp] theorem ev_fld (cs : List String) (e : E) (f : String) : evalE C (.fld cs e f) s = kFld cs f (evalE C e s) := by rw [evalE] <;> rfl
def kAndB (C : CallF) (b : E) (x : RV) (s : S) : Option Bool → R RV
  | some true => evalE C b s
  | some false => .ok x s
  | none => .stuck
@[simp] theorem kAndB_some (C : CallF) (b : E) (x : RV) (t₀ : Bool) : kAndB C b x s (some t₀) = if t₀ = true then evalE C b s else .ok x s := by cases t₀ <;> rfl
@[simp] theorem kAndB_none (C : CallF) (b : E) (x : RV) : kAndB C b x s none = .stuck := Eq.trans rfl rfl
def kAnd (C : CallF) (b : E) (r₀ : R RV) : R RV := r₀.bind fun x s => kAndB C b x s (truth s.h x)
@[simp] theorem kAnd_ok (C : CallF) (b : E) (x₀ : RV) : kAnd C b (.ok x₀ s) = (fun x => kAndB C b x s (truth s.h x)) x₀ := Eq.trans rfl rfl
@[simp] theorem kAnd_ite (C : CallF) (b : E) {c₀ : Prop} [Decidable c₀] (a₀ b₀ : R RV) : kAnd C b (if c₀ then a₀ else b₀) = if c₀ then kAnd C b a₀ else kAnd C b b₀ := by split <;> rfl
@[simp] theorem kAnd_stuck (C : CallF) (b : E) : kAnd C b .stuck = .stuck := Eq.trans rfl rfl
@[simp] theorem kAnd_raise (C : CallF) (b : E) (x₀ : Exc) : kAnd C b (.raise x₀ s) = .raise x₀ s := Eq.trans rfl rfl
@[simp] theorem ev_and (a b : E) : evalE C (.and a b) s = kAnd C b (evalE C a s) := by rw [evalE] <;> rfl
def kOrB (C : CallF) (b : E) (x : RV) (s : S) : Option Bool → R RV
  | some true => .ok x s
  | some false => evalE C b s
  | none => .stuck
@[simp] theorem kOrB_some (C : CallF) (b : E) (x : RV) (t₀ : Bool) : kOrB C b x s (some t₀) = if t₀ = true then .ok x s else evalE C b s := by cases t₀ <;> rfl
@[simp] theorem kOrB_none (C : CallF) (b : E) (x : RV) : kOrB C b x s none = .stuck := Eq.trans rfl rfl
def kOr (C : CallF) (b : E) (r₀ : R RV) : R RV := r₀.bind fun x s => kOrB C b x s (truth s.h x)
@[simp] theorem kOr_ok (C : CallF) (b : E) (x₀ : RV) : kOr C b (.ok x₀ s) = (fun x => kOrB C b x s (truth s.h x)) x₀ := Eq.trans rfl rfl
@[simp] theorem kOr_ite (C : CallF) (b : E) {c₀ : Prop} [Decidable c₀] (a₀ b₀ : R RV) : kOr C b (if c₀ then a₀ else b₀) = if c₀ then kOr C b a₀ else kOr C b b₀ := by split <;> rfl
@[simp] theorem kOr_stuck (C : CallF) (b : E) : kOr C b .stuck = .stuck := Eq.trans rfl rfl
@[simp] theorem kOr_raise (C : CallF) (b : E) (x₀ : Exc) : kOr C b (.raise x₀ s) = .raise x₀ s := Eq.trans rfl rfl
@[simp] theorem ev_or (a b : E) : evalE C (.or a b) s = kOr C b (evalE C a s) := by rw [evalE] <;> rfl
def kNot  (r₀ : R RV) : R RV := r₀.bind fun x s => opt s ((truth s.h x).map fun b => .val (.bl (!b)))
@[simp] theorem kNot_ok  (x₀ : RV) : kNot  (.ok x₀ s) = (fun x => opt s ((truth s.h x).map fun b => .val (.bl (!b)))) x₀ := Eq.trans rfl rfl
@[simp] theorem kNot_ite  {c₀ : Prop} [Decidable c₀] (a₀ b₀ : R RV) : kNot  (if c₀ then a₀ else b₀) = if c₀ then kNot  a₀ else kNot  b₀ := by split <;> rfl
@[simp] theorem kNot_stuck  : kNot  .stuck = .stuck := Eq.trans rfl rfl
@[simp] theorem kNot_raise  (x₀ : Exc) : kNot  (.raise x₀ s) = .raise x₀ s := Eq.trans rfl rfl
@[simp] theorem ev_not (a : E) : evalE C (.not a) s = kNot (evalE C a s) := by rw [evalE] <;> rfl
def kIfeB (C : CallF) (a b : E) (s : S) : Option Bool → R RV
  | some true => evalE C a s
  | some false => evalE C b s
  | none => .stuck
@[simp] theorem kIfeB_some (C : CallF) (a b : E) (t₀ : Bool) : kIfeB C a b s (some t₀) = if t₀ = true then evalE C a s else evalE C b s := by cases t₀ <;> rfl
@[simp] theorem kIfeB_none (C : CallF) (a b : E) : kIfeB C a b s none = .stuck := Eq.trans rfl rfl
def kIfe (C : CallF) (a b : E) (r₀ : R RV) : R RV := r₀.bind fun x s => kIfeB C a b s (truth s.h x)
@[simp] theorem kIfe_ok (C : CallF) (a b : E) (x₀ : RV) : kIfe C a b (.ok x₀ s) = (fun x => kIfeB C a b s (truth s.h x)) x₀ := Eq.trans rfl rfl
@[simp] theorem kIfe_ite (C : CallF) (a b : E) {c₀ : Prop} [Decidable c₀] (a₀ b₀ : R RV) : kIfe C a b (if c₀ then a₀ else b₀) = if c₀ then kIfe C a b a₀ else kIfe C a b b₀ := by split <;> rfl
@[simp] theorem kIfe_stuck (C : CallF) (a b : E) : kIfe C a b .stuck = .stuck := Eq.trans rfl rfl
@[simp] theorem kIfe_raise (C : CallF) (a b : E) (x₀ : Exc) : kIfe C a b (.raise x₀ s) = .raise x₀ s := Eq.trans rfl rfl
@[simp] theorem ev_ife (c a b : E) : evalE C (.ife c a b) s = kIfe C a b (evalE C c s) := by
  rw [evalE]
  unfold kIfe isTruth
  cases evalE C c s with
  | ok x s1 =>
    simp only [bind_ok]
    cases truth s1.h x with
    | none => rfl
    | some t => cases t <;> rfl
  | _ => rfl
def kCh3 (o : CmpO) (y : RV) (r₀ : R RV) : R RV := r₀.bind fun z s => opt s ((runCmp s.h o y z).map fun t => .val (.bl t))
@[simp] theorem kCh3_ok (o : CmpO) (y : RV) (x₀ : RV) : kCh3 o y (.ok x₀ s) = (fun z => opt s ((runCmp s.h o y z).map fun t => .val (.bl t))) x₀ := Eq.trans rfl rfl
@[simp] theorem kCh3_ite (o : CmpO) (y : RV) {c₀ : Prop} [Decidable c₀] (a₀ b₀ : R RV) : kCh3 o y (if c₀ then a₀ else b₀) = if c₀ then kCh3 o y a₀ else kCh3 o y b₀ := by split <;> rfl
@[simp] theorem kCh3_stuck (o : CmpO) (y : RV) : kCh3 o y .stuck = .stuck := Eq.trans rfl rfl
@[simp] theorem kCh3_raise (o : CmpO) (y : RV) (x₀ : Exc) : kCh3 o y (.raise x₀ s) = .raise x₀ s := Eq.trans rfl rfl
def kChB (C : CallF) (o₂ : CmpO) (c : E) (y : RV) (s : S) : Option Bool → R RV
  | some true => kCh3 o₂ y (evalE C c s)
  | some false => .ok (.val (.bl false)) s
  | none => .stuck
@[simp] theorem kChB_some (C : CallF) (o₂ : CmpO) (c : E) (y : RV) (t₀ : Bool) : kChB C o₂ c y s (some t₀) = if t₀ = true then kCh3 o₂ y (evalE C c s) else .ok (.val (.bl false)) s := by cases t₀ <;> rfl
@[simp] theorem kChB_none (C : CallF) (o₂ : CmpO) (c : E) (y : RV) : kChB C o₂ c y s none = .stuck := Eq.trans rfl rfl
def kCh2 (C : CallF) (o₁ o₂ : CmpO) (c : E) (x : RV) (r₀ : R RV) : R RV := r₀.bind fun y s => if isPk x || isPk y then .stuck else kChB C o₂ c y s (runCmp s.h o₁ x y)
@[simp] theorem kCh2_ok (C : CallF) (o₁ o₂ : CmpO) (c : E) (x : RV) (x₀ : RV) : kCh2 C o₁ o₂ c x (.ok x₀ s) = (fun y => if isPk x || isPk y then .stuck else kChB C o₂ c y s (runCmp s.h o₁ x y)) x₀ := Eq.trans rfl rfl
@[simp] theorem kCh2_ite (C : CallF) (o₁ o₂ : CmpO) (c : E) (x : RV) {c₀ : Prop} [Decidable c₀] (a₀ b₀ : R RV) : kCh2 C o₁ o₂ c x (if c₀ then a₀ else b₀) = if c₀ then kCh2 C o₁ o₂ c x a₀ else kCh2 C o₁ o₂ c x b₀ := by split <;> rfl
@[simp] theorem kCh2_stuck (C : CallF) (o₁ o₂ : CmpO) (c : E) (x : RV) : kCh2 C o₁ o₂ c x .stuck = .stuck := Eq.trans rfl rfl
@[simp] theorem kCh2_raise (C : CallF) (o₁ o₂ : CmpO) (c : E) (x : RV) (x₀ : Exc) : kCh2 C o₁ o₂ c x (.raise x₀ s) = .raise x₀ s := Eq.trans rfl rfl
def kCh (C : CallF) (o₁ o₂ : CmpO) (b c : E) (r₀ : R RV) : R RV := r₀.bind fun x s => kCh2 C o₁ o₂ c x (evalE C b s)
@[simp] theorem kCh_ok (C : CallF) (o₁ o₂ : CmpO) (b c : E) (x₀ : RV) : kCh C o₁ o₂ b c (.ok x₀ s) = (fun x => kCh2 C o₁ o₂ c x (evalE C b s)) x₀ := Eq.trans rfl rfl
@[simp] theorem kCh_ite (C : CallF) (o₁ o₂ : CmpO) (b c : E) {c₀ : Prop} [Decidable c₀] (a₀ b₀ : R RV) : kCh C o₁ o₂ b c (if c₀ then a₀ else b₀) = if c₀ then kCh C o₁ o₂ b c a₀ else kCh C o₁ o₂ b c b₀ := by split <;> rfl
@[simp] theorem kCh_stuck (C : CallF) (o₁ o₂ : CmpO) (b c : E) : kCh C o₁ o₂ b c .stuck = .stuck := Eq.trans rfl rfl
@[simp] theorem kCh_raise (C : CallF) (o₁ o₂ : CmpO) (b c : E) (x₀ : Exc) : kCh C o₁ o₂ b c (.raise x₀ s) = .raise x₀ s := Eq.trans rfl rfl
@[simp] theorem ev_chain (o₁ o₂ : CmpO) (a b c : E) : evalE C (.chain o₁ o₂ a b c) s = kCh C o₁ o₂ b c (evalE C a s) := by rw [evalE] <;> rfl
def kCall (C : CallF) (f : String) (r₀ : R (List D)) : R RV := r₀.bind fun ds s => back s.σ (C f ds s.h)
@[simp] theorem kCall_ok (C : CallF) (f : String) (x₀ : (List D)) : kCall C f (.ok x₀ s) = (fun ds => back s.σ (C f ds s.h)) x₀ := Eq.trans rfl rfl
@[simp] theorem kCall_ite (C : CallF) (f : String) {c₀ : Prop} [Decidable c₀] (a₀ b₀ : R (List D)) : kCall C f (if c₀ then a₀ else b₀) = if c₀ then kCall C f a₀ else kCall C f b₀ := by split <;> rfl
@[simp] theorem kCall_stuck (C : CallF) (f : String) : kCall C f .stuck = .stuck := Eq.trans rfl rfl
@[simp] theorem kCall_raise (C : CallF) (f : String) (x₀ : Exc) : kCall C f (.raise x₀ s) = .raise x₀ s := Eq.trans rfl rfl
@[simp] theorem ev_call (f : String) (es : List E) : evalE C (.call f es) s = kCall C f (evalEs C es s) := by rw [evalE] <;> rfl
def kMeth2 (C : CallF) (f : String) (i : Nat) (r₀ : R (List D)) : R RV := r₀.bind fun ds s => back s.σ (C f (.ref i :: ds) s.h)
@[simp] theorem kMeth2_ok (C : CallF) (f : String) (i : Nat) (x₀ : (List D)) : kMeth2 C f i (.ok x₀ s) = (fun ds => back s.σ (C f (.ref i :: ds) s.h)) x₀ := Eq.trans rfl rfl
@[simp] theorem kMeth2_ite (C : CallF) (f : String) (i : Nat) {c₀ : Prop} [Decidable c₀] (a₀ b₀ : R (List D)) : kMeth2 C f i (if c₀ then a₀ else b₀) = if c₀ then kMeth2 C f i a₀ else kMeth2 C f i b₀ := by split <;> rfl
@[simp] theorem kMeth2_stuck (C : CallF) (f : String) (i : Nat) : kMeth2 C f i .stuck = .stuck := Eq.trans rfl rfl
@[simp] theorem kMeth2_raise (C : CallF) (f : String) (i : Nat) (x₀ : Exc) : kMeth2 C f i (.raise x₀ s) = .raise x₀ s := Eq.trans rfl rfl
def kMeth (C : CallF) (c m : String) (es : List E) (r₀ : R RV) : R RV := r₀.bind fun x s => (match x with
    | .val (.ref i) => match s.h[i]? with
      | some (.ins c' fs) => if c' = c ∧ (ffind m fs).isNone = true then kMeth2 C (c ++ "." ++ m) i (evalEs C es s) else .stuck
      | _ => .stuck
    | _ => .stuck)
@[simp] theorem kMeth_ok (C : CallF) (c m : String) (es : List E) (x₀ : RV) : kMeth C c m es (.ok x₀ s) = (fun x => (match x with
    | .val (.ref i) => match s.h[i]? with
      | some (.ins c' fs) => if c' = c ∧ (ffind m fs).isNone = true then kMeth2 C (c ++ "." ++ m) i (evalEs C es s) else .stuck
      | _ => .stuck
    | _ => .stuck)) x₀ := Eq.trans rfl rfl
@[simp] theorem kMeth_ite (C : CallF) (c m : String) (es : List E) {c₀ : Prop} [Decidable c₀] (a₀ b₀ : R RV) : kMeth C c m es (if c₀ then a₀ else b₀) = if c₀ then kMeth C c m es a₀ else kMeth C c m es b₀ := by split <;> rfl
@[simp] theorem kMeth_stuck (C : CallF) (c m : String) (es : List E) : kMeth C c m es .stuck = .stuck := Eq.trans rfl rfl
@[simp] theorem kMeth_raise (C : CallF) (c m : String) (es : List E) (x₀ : Exc) : kMeth C c m es (.raise x₀ s) = .raise x₀ s := Eq.trans rfl rfl
@[simp] theorem ev_meth (c m : String) (e : E) (es : List E) : evalE C (.meth c m e es) s = kMeth C c m es (evalE C e s) := by rw [evalE] <;> rfl
def runB (C : CallF) (b : List St) (s : S) : R Flow := execs C b s
def runC (C : CallF) (cs : List E) (s : S) : R Bool := evalCs C cs s
def runX (C : CallF) (e : E) (s : S) : R D := exports (evalE C e s)
def kComp2 (σ0 : List (Option SV)) (is : List Nat) (r₀ : R (List D)) : R RV := r₀.bind fun xs s => opt (backT σ0 is s) (newLst xs)
@[simp] theorem kComp2_ok (σ0 : List (Option SV)) (is : List Nat) (x₀ : (List D)) : kComp2 σ0 is (.ok x₀ s) = (fun xs => opt (backT σ0 is s) (newLst xs)) x₀ := Eq.trans rfl rfl
@[simp] theorem kComp2_ite (σ0 : List (Option SV)) (is : List Nat) {c₀ : Prop} [Decidable c₀] (a₀ b₀ : R (List D)) : kComp2 σ0 is (if c₀ then a₀ else b₀) = if c₀ then kComp2 σ0 is a₀ else kComp2 σ0 is b₀ := by split <;> rfl
@[simp] theorem kComp2_stuck (σ0 : List (Option SV)) (is : List Nat) : kComp2 σ0 is .stuck = .stuck := Eq.trans rfl rfl
@[simp] theorem kComp2_raise (σ0 : List (Option SV)) (is : List Nat) (x₀ : Exc) : kComp2 σ0 is (.raise x₀ s) = .raise x₀ s := Eq.trans rfl rfl
def kCalm {α : Type} (r : R α) : R α := r.calm
@[simp] theorem kCalm_ok (x : α) : kCalm (.ok x s) = .ok x s := rfl
def kComp (C : CallF) (is : List Nat) (cs : List E) (e : E) (r₀ : R (List D × Bool)) : R RV := r₀.bind fun ps s => if ps.2 && !(pures cs && pure e) then .stuck else kComp2 s.σ is (kCalm (compLoop is (runC C cs) (runX C e) ps.1 s []))
@[simp] theorem kComp_ok (C : CallF) (is : List Nat) (cs : List E) (e : E) (x₀ : (List D × Bool)) : kComp C is cs e (.ok x₀ s) = (fun ps => if ps.2 && !(pures cs && pure e) then .stuck else kComp2 s.σ is (kCalm (compLoop is (runC C cs) (runX C e) ps.1 s []))) x₀ := Eq.trans rfl rfl
@[simp] theorem kComp_ite (C : CallF) (is : List Nat) (cs : List E) (e : E) {c₀ : Prop} [Decidable c₀] (a₀ b₀ : R (List D × Bool)) : kComp C is cs e (if c₀ then a₀ else b₀) = if c₀ then kComp C is cs e a₀ else kComp C is cs e b₀ := by split <;> rfl
@[simp] theorem kComp_stuck (C : CallF) (is : List Nat) (cs : List E) (e : E) : kComp C is cs e .stuck = .stuck := Eq.trans rfl rfl
@[simp] theorem kComp_raise (C : CallF) (is : List Nat) (cs : List E) (e : E) (x₀ : Exc) : kComp C is cs e (.raise x₀ s) = .raise x₀ s := Eq.trans rfl rfl
@[simp] theorem ev_comp (is : List Nat) (it : It) (cs : List E) (e : E) : evalE C (.comp is it cs e) s = kComp C is cs e (evalIt C it s) := by rw [evalE] <;> rfl
def kMut2 (o : Mu) (x : RV) (r₀ : R (List D)) : R RV := r₀.bind fun ds s => runMu s o x ds
@[simp] theorem kMut2_ok (o : Mu) (x : RV) (x₀ : (List D)) : kMut2 o x (.ok x₀ s) = (fun ds => runMu s o x ds) x₀ := Eq.trans rfl rfl
@[simp] theorem kMut2_ite (o : Mu) (x : RV) {c₀ : Prop} [Decidable c₀] (a₀ b₀ : R (List D)) : kMut2 o x (if c₀ then a₀ else b₀) = if c₀ then kMut2 o x a₀ else kMut2 o x b₀ := by split <;> rfl
@[simp] theorem kMut2_stuck (o : Mu) (x : RV) : kMut2 o x .stuck = .stuck := Eq.trans rfl rfl
@[simp] theorem kMut2_raise (o : Mu) (x : RV) (x₀ : Exc) : kMut2 o x (.raise x₀ s) = .raise x₀ s := Eq.trans rfl rfl
def kMut (C : CallF) (o : Mu) (es : List E) (r₀ : R RV) : R RV := r₀.bind fun x s => if (isPk x && !pures es) || !recvM s.h o x then .stuck else kMut2 o x (evalEs C es s)
@[simp] theorem kMut_ok (C : CallF) (o : Mu) (es : List E) (x₀ : RV) : kMut C o es (.ok x₀ s) = (fun x => if (isPk x && !pures es) || !recvM s.h o x then .stuck else kMut2 o x (evalEs C es s)) x₀ := Eq.trans rfl rfl
@[simp] theorem kMut_ite (C : CallF) (o : Mu) (es : List E) {c₀ : Prop} [Decidable c₀] (a₀ b₀ : R RV) : kMut C o es (if c₀ then a₀ else b₀) = if c₀ then kMut C o es a₀ else kMut C o es b₀ := by split <;> rfl
@[simp] theorem kMut_stuck (C : CallF) (o : Mu) (es : List E) : kMut C o es .stuck = .stuck := Eq.trans rfl rfl
@[simp] theorem kMut_raise (C : CallF) (o : Mu) (es : List E) (x₀ : Exc) : kMut C o es (.raise x₀ s) = .raise x₀ s := Eq.trans rfl rfl
@[simp] theorem ev_mut (o : Mu) (e : E) (es : List E) : evalE C (.mut o e es) s = kMut C o es (evalE C e s) := by rw [evalE] <;> rfl
def kBox  (r₀ : R RV) : R RV := r₀.bind fun x s => boxIt s x
@[simp] theorem kBox_ok  (x₀ : RV) : kBox  (.ok x₀ s) = (fun x => boxIt s x) x₀ := Eq.trans rfl rfl
@[simp] theorem kBox_ite  {c₀ : Prop} [Decidable c₀] (a₀ b₀ : R RV) : kBox  (if c₀ then a₀ else b₀) = if c₀ then kBox  a₀ else kBox  b₀ := by split <;> rfl
@[simp] theorem kBox_stuck  : kBox  .stuck = .stuck := Eq.trans rfl rfl
@[simp] theorem kBox_raise  (x₀ : Exc) : kBox  (.raise x₀ s) = .raise x₀ s := Eq.trans rfl rfl
@[simp] theorem ev_box (e : E) : evalE C (.box e) s = kBox (evalE C e s) := by rw [evalE] <;> rfl
def kFrz  (r₀ : R RV) : R RV := r₀.bind fun x s => frzIt s x
@[simp] theorem kFrz_ok  (x₀ : RV) : kFrz  (.ok x₀ s) = (fun x => frzIt s x) x₀ := Eq.trans rfl rfl
@[simp] theorem kFrz_ite  {c₀ : Prop} [Decidable c₀] (a₀ b₀ : R RV) : kFrz  (if c₀ then a₀ else b₀) = if c₀ then kFrz  a₀ else kFrz  b₀ := by split <;> rfl
@[simp] theorem kFrz_stuck  : kFrz  .stuck = .stuck := Eq.trans rfl rfl
@[simp] theorem kFrz_raise  (x₀ : Exc) : kFrz  (.raise x₀ s) = .raise x₀ s := Eq.trans rfl rfl
@[simp] theorem ev_frz (e : E) : evalE C (.frz e) s = kFrz (evalE C e s) := by rw [evalE] <;> rfl
def kNew2 (i : Nat) (r₀ : R RV) : R RV := r₀.bind fun v s => (match v with
    | .val .non => .ok (.val (.ref i)) s
    | _ => .stuck)
@[simp] theorem kNew2_ok (i : Nat) (x₀ : RV) : kNew2 i (.ok x₀ s) = (fun v => (match v with
    | .val .non => .ok (.val (.ref i)) s
    | _ => .stuck)) x₀ := Eq.trans rfl rfl
@[simp] theorem kNew2_ite (i : Nat) {c₀ : Prop} [Decidable c₀] (a₀ b₀ : R RV) : kNew2 i (if c₀ then a₀ else b₀) = if c₀ then kNew2 i a₀ else kNew2 i b₀ := by split <;> rfl
@[simp] theorem kNew2_stuck (i : Nat) : kNew2 i .stuck = .stuck := Eq.trans rfl rfl
@[simp] theorem kNew2_raise (i : Nat) (x₀ : Exc) : kNew2 i (.raise x₀ s) = .raise x₀ s := Eq.trans rfl rfl
def kNew (C : CallF) (c : String) (r₀ : R (List D)) : R RV := r₀.bind fun ds s => kNew2 s.h.length (kCalm (back s.σ (C (c ++ ".__init__") (.ref s.h.length :: ds) (s.h ++ [.ins c []]))))
@[simp] theorem kNew_ok (C : CallF) (c : String) (x₀ : (List D)) : kNew C c (.ok x₀ s) = (fun ds => kNew2 s.h.length (kCalm (back s.σ (C (c ++ ".__init__") (.ref s.h.length :: ds) (s.h ++ [.ins c []]))))) x₀ := Eq.trans rfl rfl
@[simp] theorem kNew_ite (C : CallF) (c : String) {c₀ : Prop} [Decidable c₀] (a₀ b₀ : R (List D)) : kNew C c (if c₀ then a₀ else b₀) = if c₀ then kNew C c a₀ else kNew C c b₀ := by split <;> rfl
@[simp] theorem kNew_stuck (C : CallF) (c : String) : kNew C c .stuck = .stuck := Eq.trans rfl rfl
@[simp] theorem kNew_raise (C : CallF) (c : String) (x₀ : Exc) : kNew C c (.raise x₀ s) = .raise x₀ s := Eq.trans rfl rfl
@[simp] theorem ev_new (c : String) (es : List E) : evalE C (.new c es) s = kNew C c (evalEs C es s) := by rw [evalE] <;> rfl
def kGIn (kvs : List (T × D)) (r₀ : R RV) : R RV := r₀.bind fun x s => (match x with
    | .val (.str t) => .ok (.val (.bl (tfind t kvs).isSome)) s
    | _ => .stuck)
@[simp] theorem kGIn_ok (kvs : List (T × D)) (x₀ : RV) : kGIn kvs (.ok x₀ s) = (fun x => (match x with
    | .val (.str t) => .ok (.val (.bl (tfind t kvs).isSome)) s
    | _ => .stuck)) x₀ := Eq.trans rfl rfl
@[simp] theorem kGIn_ite (kvs : List (T × D)) {c₀ : Prop} [Decidable c₀] (a₀ b₀ : R RV) : kGIn kvs (if c₀ then a₀ else b₀) = if c₀ then kGIn kvs a₀ else kGIn kvs b₀ := by split <;> rfl
@[simp] theorem kGIn_stuck (kvs : List (T × D)) : kGIn kvs .stuck = .stuck := Eq.trans rfl rfl
@[simp] theorem kGIn_raise (kvs : List (T × D)) (x₀ : Exc) : kGIn kvs (.raise x₀ s) = .raise x₀ s := Eq.trans rfl rfl
@[simp] theorem ev_gIn (x : String) (kvs : List (T × D)) (e : E) : evalE C (.gIn x kvs e) s = kGIn kvs (evalE C e s) := by rw [evalE] <;> rfl
def kGIdx (kvs : List (T × D)) (r₀ : R RV) : R RV := r₀.bind fun x s => (match x with
    | .val (.str t) => opt s ((tfind t kvs).map .val)
    | _ => .stuck)
@[simp] theorem kGIdx_ok (kvs : List (T × D)) (x₀ : RV) : kGIdx kvs (.ok x₀ s) = (fun x => (match x with
    | .val (.str t) => opt s ((tfind t kvs).map .val)
    | _ => .stuck)) x₀ := Eq.trans rfl rfl
@[simp] theorem kGIdx_ite (kvs : List (T × D)) {c₀ : Prop} [Decidable c₀] (a₀ b₀ : R RV) : kGIdx kvs (if c₀ then a₀ else b₀) = if c₀ then kGIdx kvs a₀ else kGIdx kvs b₀ := by split <;> rfl
@[simp] theorem kGIdx_stuck (kvs : List (T × D)) : kGIdx kvs .stuck = .stuck := Eq.trans rfl rfl
@[simp] theorem kGIdx_raise (kvs : List (T × D)) (x₀ : Exc) : kGIdx kvs (.raise x₀ s) = .raise x₀ s := Eq.trans rfl rfl
@[simp] theorem ev_gIdx (x : String) (kvs : List (T × D)) (e : E) : evalE C (.gIdx x kvs e) s = kGIdx kvs (evalE C e s) := by rw [evalE] <;> rfl
def kInL (ts : List T) (r₀ : R RV) : R RV := r₀.bind fun x s => (match x with
    | .val (.str t) => .ok (.val (.bl (decide (t ∈ ts)))) s
    | _ => .stuck)
@[simp] theorem kInL_ok (ts : List T) (x₀ : RV) : kInL ts (.ok x₀ s) = (fun x => (match x with
    | .val (.str t) => .ok (.val (.bl (decide (t ∈ ts)))) s
    | _ => .stuck)) x₀ := Eq.trans rfl rfl
@[simp] theorem kInL_ite (ts : List T) {c₀ : Prop} [Decidable c₀] (a₀ b₀ : R RV) : kInL ts (if c₀ then a₀ else b₀) = if c₀ then kInL ts a₀ else kInL ts b₀ := by split <;> rfl
@[simp] theorem kInL_stuck (ts : List T) : kInL ts .stuck = .stuck := Eq.trans rfl rfl
@[simp] theorem kInL_raise (ts : List T) (x₀ : Exc) : kInL ts (.raise x₀ s) = .raise x₀ s := Eq.trans rfl rfl
@[simp] theorem ev_inL (x : String) (ts : List T) (e : E) : evalE C (.inL x ts e) s = kInL ts (evalE C e s) := by rw [evalE] <;> rfl
@[simp] theorem es_nil  : evalEs C [] s = .ok [] s := by rw [evalEs] <;> rfl
def kEs2 (d : D) (r₀ : R (List D)) : R (List D) := r₀.bind fun ds s => .ok (d :: ds) s
@[simp] theorem kEs2_ok (d : D) (x₀ : (List D)) : kEs2 d (.ok x₀ s) = (fun ds => .ok (d :: ds) s) x₀ := Eq.trans rfl rfl
@[simp] theorem kEs2_ite (d : D) {c₀ : Prop} [Decidable c₀] (a₀ b₀ : R (List D)) : kEs2 d (if c₀ then a₀ else b₀) = if c₀ then kEs2 d a₀ else kEs2 d b₀ := by split <;> rfl
@[simp] theorem kEs2_stuck (d : D) : kEs2 d .stuck = .stuck := Eq.trans rfl rfl
@[simp] theorem kEs2_raise (d : D) (x₀ : Exc) : kEs2 d (.raise x₀ s) = .raise x₀ s := Eq.trans rfl rfl
def kEs (C : CallF) (r : List E) (r₀ : R RV) : R (List D) := r₀.bind fun x s => (match expo x with
    | some d => kEs2 d (evalEs C r s)
    | none => .stuck)
@[simp] theorem kEs_ok (C : CallF) (r : List E) (x₀ : RV) : kEs C r (.ok x₀ s) = (fun x => (match expo x with
    | some d => kEs2 d (evalEs C r s)
    | none => .stuck)) x₀ := Eq.trans rfl rfl
@[simp] theorem kEs_ite (C : CallF) (r : List E) {c₀ : Prop} [Decidable c₀] (a₀ b₀ : R RV) : kEs C r (if c₀ then a₀ else b₀) = if c₀ then kEs C r a₀ else kEs C r b₀ := by split <;> rfl
@[simp] theorem kEs_stuck (C : CallF) (r : List E) : kEs C r .stuck = .stuck := Eq.trans rfl rfl
@[simp] theorem kEs_raise (C : CallF) (r : List E) (x₀ : Exc) : kEs C r (.raise x₀ s) = .raise x₀ s := Eq.trans rfl rfl
@[simp] theorem es_cons (e : E) (r : List E) : evalEs C (e :: r) s = kEs C r (evalE C e s) := by
  rw [evalEs]
  unfold kEs exports
  cases evalE C e s with
  | ok x s1 =>
    simp only [bind_ok]
    cases expo x <;> rfl
  | _ => rfl
@[simp] theorem cs_nil  : evalCs C [] s = .ok true s := by rw [evalCs] <;> rfl
def kCsB (C : CallF) (r : List E) (s : S) : Option Bool → R Bool
  | some true => evalCs C r s
  | some false => .ok false s
  | none => .stuck
@[simp] theorem kCsB_some (C : CallF) (r : List E) (t₀ : Bool) : kCsB C r s (some t₀) = if t₀ = true then evalCs C r s else .ok false s := by cases t₀ <;> rfl
@[simp] theorem kCsB_none (C : CallF) (r : List E) : kCsB C r s none = .stuck := Eq.trans rfl rfl
def kCs (C : CallF) (r : List E) (r₀ : R RV) : R Bool := r₀.bind fun x s => kCsB C r s (truth s.h x)
@[simp] theorem kCs_ok (C : CallF) (r : List E) (x₀ : RV) : kCs C r (.ok x₀ s) = (fun x => kCsB C r s (truth s.h x)) x₀ := Eq.trans rfl rfl
@[simp] theorem kCs_ite (C : CallF) (r : List E) {c₀ : Prop} [Decidable c₀] (a₀ b₀ : R RV) : kCs C r (if c₀ then a₀ else b₀) = if c₀ then kCs C r a₀ else kCs C r b₀ := by split <;> rfl
@[simp] theorem kCs_stuck (C : CallF) (r : List E) : kCs C r .stuck = .stuck := Eq.trans rfl rfl
@[simp] theorem kCs_raise (C : CallF) (r : List E) (x₀ : Exc) : kCs C r (.raise x₀ s) = .raise x₀ s := Eq.trans rfl rfl
@[simp] theorem cs_cons (e : E) (r : List E) : evalCs C (e :: r) s = kCs C r (evalE C e s) := by
  rw [evalCs]
  unfold kCs isTruth
  cases evalE C e s with
  | ok x s1 =>
    simp only [bind_ok]
    cases truth s1.h x with
    | none => rfl
    | some t => cases t <;> rfl
  | _ => rfl
def kSeqI  (r₀ : R RV) : R (List D × Bool) := r₀.bind fun x s => (match x with
    | .val (.str t) => .ok (t.map fun c => .str [c], false) s
    | x => opt s ((seqOf s.h x).map fun xs => (xs, muOf x)))
@[simp] theorem kSeqI_ok  (x₀ : RV) : kSeqI  (.ok x₀ s) = (fun x => (match x with
    | .val (.str t) => .ok (t.map fun c => .str [c], false) s
    | x => opt s ((seqOf s.h x).map fun xs => (xs, muOf x)))) x₀ := Eq.trans rfl rfl
@[simp] theorem kSeqI_ite  {c₀ : Prop} [Decidable c₀] (a₀ b₀ : R RV) : kSeqI  (if c₀ then a₀ else b₀) = if c₀ then kSeqI  a₀ else kSeqI  b₀ := by split <;> rfl
@[simp] theorem kSeqI_stuck  : kSeqI  .stuck = .stuck := Eq.trans rfl rfl
@[simp] theorem kSeqI_raise  (x₀ : Exc) : kSeqI  (.raise x₀ s) = .raise x₀ s := Eq.trans rfl rfl
@[simp] theorem it_seq (e : E) : evalIt C (.seq e) s = kSeqI (evalE C e s) := by rw [evalIt] <;> rfl
def kRng1  (r₀ : R RV) : R (List D × Bool) := r₀.bind fun x s => (match x with
    | .val (.int n) => if -(2 ^ 62) ≤ n ∧ n < 2 ^ 62 then .ok (range' 0 1 n.toNat, false) s else .stuck
    | _ => .stuck)
@[simp] theorem kRng1_ok  (x₀ : RV) : kRng1  (.ok x₀ s) = (fun x => (match x with
    | .val (.int n) => if -(2 ^ 62) ≤ n ∧ n < 2 ^ 62 then .ok (range' 0 1 n.toNat, false) s else .stuck
    | _ => .stuck)) x₀ := Eq.trans rfl rfl
@[simp] theorem kRng1_ite  {c₀ : Prop} [Decidable c₀] (a₀ b₀ : R RV) : kRng1  (if c₀ then a₀ else b₀) = if c₀ then kRng1  a₀ else kRng1  b₀ := by split <;> rfl
@[simp] theorem kRng1_stuck  : kRng1  .stuck = .stuck := Eq.trans rfl rfl
@[simp] theorem kRng1_raise  (x₀ : Exc) : kRng1  (.raise x₀ s) = .raise x₀ s := Eq.trans rfl rfl
@[simp] theorem it_rng1 (e : E) : evalIt C (.rng1 e) s = kRng1 (evalE C e s) := by rw [evalIt] <;> rfl
def kKeys  (r₀ : R RV) : R (List D × Bool) := r₀.bind fun x s => opt s ((dctOf s.h x).map fun q => (q.2.map fun e => keyD e.1, muOf x))
@[simp] theorem kKeys_ok  (x₀ : RV) : kKeys  (.ok x₀ s) = (fun x => opt s ((dctOf s.h x).map fun q => (q.2.map fun e => keyD e.1, muOf x))) x₀ := Eq.trans rfl rfl
@[simp] theorem kKeys_ite  {c₀ : Prop} [Decidable c₀] (a₀ b₀ : R RV) : kKeys  (if c₀ then a₀ else b₀) = if c₀ then kKeys  a₀ else kKeys  b₀ := by split <;> rfl
@[simp] theorem kKeys_stuck  : kKeys  .stuck = .stuck := Eq.trans rfl rfl
@[simp] theorem kKeys_raise  (x₀ : Exc) : kKeys  (.raise x₀ s) = .raise x₀ s := Eq.trans rfl rfl
@[simp] theorem it_keys (e : E) : evalIt C (.keys e) s = kKeys (evalE C e s) := by rw [evalIt] <;> rfl
def kAsgn (i : Nat) (r₀ : R RV) : R Flow := r₀.bind fun x s => (match toSV x with
    | some sv => .ok .next { s with σ := s.σ.set i (some sv) }
    | none => .stuck)
@[simp] theorem kAsgn_ok (i : Nat) (x₀ : RV) : kAsgn i (.ok x₀ s) = (fun x => (match toSV x with
    | some sv => .ok .next { s with σ := s.σ.set i (some sv) }
    | none => .stuck)) x₀ := Eq.trans rfl rfl
@[simp] theorem kAsgn_ite (i : Nat) {c₀ : Prop} [Decidable c₀] (a₀ b₀ : R RV) : kAsgn i (if c₀ then a₀ else b₀) = if c₀ then kAsgn i a₀ else kAsgn i b₀ := by split <;> rfl
@[simp] theorem kAsgn_stuck (i : Nat) : kAsgn i .stuck = .stuck := Eq.trans rfl rfl
@[simp] theorem kAsgn_raise (i : Nat) (x₀ : Exc) : kAsgn i (.raise x₀ s) = .raise x₀ s := Eq.trans rfl rfl
@[simp] theorem ex_asgn (i : Nat) (e : E) : execS C (.asgn i e) s = kAsgn i (evalE C e s) := by rw [execS] <;> rfl
def kUnp (is : List Nat) (r₀ : R RV) : R Flow := r₀.bind fun x s => (match expo x with
    | some d => (match bindT is d s with
      | some s => .ok .next s
      | none => .stuck)
    | none => .stuck)
@[simp] theorem kUnp_ok (is : List Nat) (x₀ : RV) : kUnp is (.ok x₀ s) = (fun x => (match expo x with
    | some d => (match bindT is d s with
      | some s => .ok .next s
      | none => .stuck)
    | none => .stuck)) x₀ := Eq.trans rfl rfl
@[simp] theorem kUnp_ite (is : List Nat) {c₀ : Prop} [Decidable c₀] (a₀ b₀ : R RV) : kUnp is (if c₀ then a₀ else b₀) = if c₀ then kUnp is a₀ else kUnp is b₀ := by split <;> rfl
@[simp] theorem kUnp_stuck (is : List Nat) : kUnp is .stuck = .stuck := Eq.trans rfl rfl
@[simp] theorem kUnp_raise (is : List Nat) (x₀ : Exc) : kUnp is (.raise x₀ s) = .raise x₀ s := Eq.trans rfl rfl
@[simp] theorem ex_unp (is : List Nat) (e : E) : execS C (.unp is e) s = kUnp is (evalE C e s) := by
  rw [execS]
  unfold kUnp exports
  cases evalE C e s with
  | ok x s1 =>
    simp only [bind_ok]
    cases expo x <;> rfl
  | _ => rfl
def kPar (is : List Nat) (r₀ : R (List D)) : R Flow := r₀.bind fun ds s => if ds.length = is.length then .ok .next { s with σ := (is.zip ds).foldl (fun σ q => σ.set q.1 (some (.val q.2))) s.σ } else .stuck
@[simp] theorem kPar_ok (is : List Nat) (x₀ : (List D)) : kPar is (.ok x₀ s) = (fun ds => if ds.length = is.length then .ok .next { s with σ := (is.zip ds).foldl (fun σ q => σ.set q.1 (some (.val q.2))) s.σ } else .stuck) x₀ := Eq.trans rfl rfl
@[simp] theorem kPar_ite (is : List Nat) {c₀ : Prop} [Decidable c₀] (a₀ b₀ : R (List D)) : kPar is (if c₀ then a₀ else b₀) = if c₀ then kPar is a₀ else kPar is b₀ := by split <;> rfl
@[simp] theorem kPar_stuck (is : List Nat) : kPar is .stuck = .stuck := Eq.trans rfl rfl
@[simp] theorem kPar_raise (is : List Nat) (x₀ : Exc) : kPar is (.raise x₀ s) = .raise x₀ s := Eq.trans rfl rfl
@[simp] theorem ex_par (is : List Nat) (es : List E) : execS C (.par is es) s = kPar is (evalEs C es s) := by rw [execS] <;> rfl
def kFset2 (cs : List String) (f : String) (v : RV) (r₀ : R RV) : R Flow := r₀.bind fun x s => (match x, toSV v with
    | .val (.ref i), some sv => match s.h[i]? with
      | some (.ins c fs) => if cs.contains c = true ∧ fs.length < 1000 then .ok .next { s with h := s.h.set i (.ins c (fput f sv fs)) } else .stuck
      | _ => .stuck
    | _, _ => .stuck)
@[simp] theorem kFset2_ok (cs : List String) (f : String) (v : RV) (x₀ : RV) : kFset2 cs f v (.ok x₀ s) = (fun x => (match x, toSV v with
    | .val (.ref i), some sv => match s.h[i]? with
      | some (.ins c fs) => if cs.contains c = true ∧ fs.length < 1000 then .ok .next { s with h := s.h.set i (.ins c (fput f sv fs)) } else .stuck
      | _ => .stuck
    | _, _ => .stuck)) x₀ := Eq.trans rfl rfl
@[simp] theorem kFset2_ite (cs : List String) (f : String) (v : RV) {c₀ : Prop} [Decidable c₀] (a₀ b₀ : R RV) : kFset2 cs f v (if c₀ then a₀ else b₀) = if c₀ then kFset2 cs f v a₀ else kFset2 cs f v b₀ := by split <;> rfl
@[simp] theorem kFset2_stuck (cs : List String) (f : String) (v : RV) : kFset2 cs f v .stuck = .stuck := Eq.trans rfl rfl
@[simp] theorem kFset2_raise (cs : List String) (f : String) (v : RV) (x₀ : Exc) : kFset2 cs f v (.raise x₀ s) = .raise x₀ s := Eq.trans rfl rfl
def kFset (C : CallF) (cs : List String) (o : E) (f : String) (r₀ : R RV) : R Flow := r₀.bind fun v s => kFset2 cs f v (evalE C o s)
@[simp] theorem kFset_ok (C : CallF) (cs : List String) (o : E) (f : String) (x₀ : RV) : kFset C cs o f (.ok x₀ s) = (fun v => kFset2 cs f v (evalE C o s)) x₀ := Eq.trans rfl rfl
@[simp] theorem kFset_ite (C : CallF) (cs : List String) (o : E) (f : String) {c₀ : Prop} [Decidable c₀] (a₀ b₀ : R RV) : kFset C cs o f (if c₀ then a₀ else b₀) = if c₀ then kFset C cs o f a₀ else kFset C cs o f b₀ := by split <;> rfl
@[simp] theorem kFset_stuck (C : CallF) (cs : List String) (o : E) (f : String) : kFset C cs o f .stuck = .stuck := Eq.trans rfl rfl
@[simp] theorem kFset_raise (C : CallF) (cs : List String) (o : E) (f : String) (x₀ : Exc) : kFset C cs o f (.raise x₀ s) = .raise x₀ s := Eq.trans rfl rfl
@[simp] theorem ex_fset (cs : List String) (o : E) (f : String) (e : E) : execS C (.fset cs o f e) s = kFset C cs o f (evalE C e s) := by rw [execS] <;> rfl
def kUnit  (r₀ : R Unit) : R Flow := r₀.bind fun _ s => .ok .next s
@[simp] theorem kUnit_ok  (x₀ : Unit) : kUnit  (.ok x₀ s) = (fun _ => .ok .next s) x₀ := Eq.trans rfl rfl
@[simp] theorem kUnit_ite  {c₀ : Prop} [Decidable c₀] (a₀ b₀ : R Unit) : kUnit  (if c₀ then a₀ else b₀) = if c₀ then kUnit  a₀ else kUnit  b₀ := by split <;> rfl
@[simp] theorem kUnit_stuck  : kUnit  .stuck = .stuck := Eq.trans rfl rfl
@[simp] theorem kUnit_raise  (x₀ : Exc) : kUnit  (.raise x₀ s) = .raise x₀ s := Eq.trans rfl rfl
def kIset3 (x v : RV) (r₀ : R RV) : R Flow := r₀.bind fun k s => (match expo k with
    | some k => kUnit (runISet s x k v)
    | none => .stuck)
@[simp] theorem kIset3_ok (x v : RV) (x₀ : RV) : kIset3 x v (.ok x₀ s) = (fun k => (match expo k with
    | some k => kUnit (runISet s x k v)
    | none => .stuck)) x₀ := Eq.trans rfl rfl
@[simp] theorem kIset3_ite (x v : RV) {c₀ : Prop} [Decidable c₀] (a₀ b₀ : R RV) : kIset3 x v (if c₀ then a₀ else b₀) = if c₀ then kIset3 x v a₀ else kIset3 x v b₀ := by split <;> rfl
@[simp] theorem kIset3_stuck (x v : RV) : kIset3 x v .stuck = .stuck := Eq.trans rfl rfl
@[simp] theorem kIset3_raise (x v : RV) (x₀ : Exc) : kIset3 x v (.raise x₀ s) = .raise x₀ s := Eq.trans rfl rfl
def kIset2 (C : CallF) (k : E) (v : RV) (r₀ : R RV) : R Flow := r₀.bind fun x s => if isPk x && !pure k then .stuck else kIset3 x v (evalE C k s)
@[simp] theorem kIset2_ok (C : CallF) (k : E) (v : RV) (x₀ : RV) : kIset2 C k v (.ok x₀ s) = (fun x => if isPk x && !pure k then .stuck else kIset3 x v (evalE C k s)) x₀ := Eq.trans rfl rfl
@[simp] theorem kIset2_ite (C : CallF) (k : E) (v : RV) {c₀ : Prop} [Decidable c₀] (a₀ b₀ : R RV) : kIset2 C k v (if c₀ then a₀ else b₀) = if c₀ then kIset2 C k v a₀ else kIset2 C k v b₀ := by split <;> rfl
@[simp] theorem kIset2_stuck (C : CallF) (k : E) (v : RV) : kIset2 C k v .stuck = .stuck := Eq.trans rfl rfl
@[simp] theorem kIset2_raise (C : CallF) (k : E) (v : RV) (x₀ : Exc) : kIset2 C k v (.raise x₀ s) = .raise x₀ s := Eq.trans rfl rfl
def kIset (C : CallF) (o k : E) (r₀ : R RV) : R Flow := r₀.bind fun v s => if isPk v then .stuck else kIset2 C k v (evalE C o s)
@[simp] theorem kIset_ok (C : CallF) (o k : E) (x₀ : RV) : kIset C o k (.ok x₀ s) = (fun v => if isPk v then .stuck else kIset2 C k v (evalE C o s)) x₀ := Eq.trans rfl rfl
@[simp] theorem kIset_ite (C : CallF) (o k : E) {c₀ : Prop} [Decidable c₀] (a₀ b₀ : R RV) : kIset C o k (if c₀ then a₀ else b₀) = if c₀ then kIset C o k a₀ else kIset C o k b₀ := by split <;> rfl
@[simp] theorem kIset_stuck (C : CallF) (o k : E) : kIset C o k .stuck = .stuck := Eq.trans rfl rfl
@[simp] theorem kIset_raise (C : CallF) (o k : E) (x₀ : Exc) : kIset C o k (.raise x₀ s) = .raise x₀ s := Eq.trans rfl rfl
@[simp] theorem ex_iset (o k e : E) : execS C (.iset o k e) s = kIset C o k (evalE C e s) := by
  rw [execS]
  unfold kIset kIset2 kIset3 kUnit exports
  cases evalE C e s with
  | ok v s1 =>
    simp only [bind_ok]
    split
    · rfl
    cases evalE C o s1 with
    | ok x s2 =>
      simp only [bind_ok]
      split
      · rfl
      cases evalE C k s2 with
      | ok y s3 =>
        simp only [bind_ok]
        cases expo y <;> rfl
      | _ => rfl
    | _ => rfl
  | _ => rfl
def kExpr  (r₀ : R RV) : R Flow := r₀.bind fun _ s => .ok .next s
@[simp] theorem kExpr_ok  (x₀ : RV) : kExpr  (.ok x₀ s) = (fun _ => .ok .next s) x₀ := Eq.trans rfl rfl
@[simp] theorem kExpr_ite  {c₀ : Prop} [Decidable c₀] (a₀ b₀ : R RV) : kExpr  (if c₀ then a₀ else b₀) = if c₀ then kExpr  a₀ else kExpr  b₀ := by split <;> rfl
@[simp] theorem kExpr_stuck  : kExpr  .stuck = .stuck := Eq.trans rfl rfl
@[simp] theorem kExpr_raise  (x₀ : Exc) : kExpr  (.raise x₀ s) = .raise x₀ s := Eq.trans rfl rfl
@[simp] theorem ex_expr (e : E) : execS C (.expr e) s = kExpr (evalE C e s) := by rw [execS] <;> rfl
def kIteB (C : CallF) (a b : List St) (s : S) : Option Bool → R Flow
  | some true => execs C a s
  | some false => execs C b s
  | none => .stuck
@[simp] theorem kIteB_some (C : CallF) (a b : List St) (t₀ : Bool) : kIteB C a b s (some t₀) = if t₀ = true then execs C a s else execs C b s := by cases t₀ <;> rfl
@[simp] theorem kIteB_none (C : CallF) (a b : List St) : kIteB C a b s none = .stuck := Eq.trans rfl rfl
def kIte (C : CallF) (a b : List St) (r₀ : R RV) : R Flow := r₀.bind fun x s => kIteB C a b s (truth s.h x)
@[simp] theorem kIte_ok (C : CallF) (a b : List St) (x₀ : RV) : kIte C a b (.ok x₀ s) = (fun x => kIteB C a b s (truth s.h x)) x₀ := Eq.trans rfl rfl
@[simp] theorem kIte_ite (C : CallF) (a b : List St) {c₀ : Prop} [Decidable c₀] (a₀ b₀ : R RV) : kIte C a b (if c₀ then a₀ else b₀) = if c₀ then kIte C a b a₀ else kIte C a b b₀ := by split <;> rfl
@[simp] theorem kIte_stuck (C : CallF) (a b : List St) : kIte C a b .stuck = .stuck := Eq.trans rfl rfl
@[simp] theorem kIte_raise (C : CallF) (a b : List St) (x₀ : Exc) : kIte C a b (.raise x₀ s) = .raise x₀ s := Eq.trans rfl rfl
@[simp] theorem ex_ite (c : E) (a b : List St) : execS C (.ite c a b) s = kIte C a b (evalE C c s) := by
  rw [execS]
  unfold kIte isTruth
  cases evalE C c s with
  | ok x s1 =>
    simp only [bind_ok]
    cases truth s1.h x with
    | none => rfl
    | some t => cases t <;> rfl
  | _ => rfl
def kFor (C : CallF) (is : List Nat) (k : Bool) (b : List St) (r₀ : R (List D × Bool)) : R Flow := r₀.bind fun ps s => if ps.2 then .stuck else calmIf k (forLoop is (runB C b) ps.1 s)
@[simp] theorem kFor_ok (C : CallF) (is : List Nat) (k : Bool) (b : List St) (x₀ : (List D × Bool)) : kFor C is k b (.ok x₀ s) = (fun ps => if ps.2 then .stuck else calmIf k (forLoop is (runB C b) ps.1 s)) x₀ := Eq.trans rfl rfl
@[simp] theorem kFor_ite (C : CallF) (is : List Nat) (k : Bool) (b : List St) {c₀ : Prop} [Decidable c₀] (a₀ b₀ : R (List D × Bool)) : kFor C is k b (if c₀ then a₀ else b₀) = if c₀ then kFor C is k b a₀ else kFor C is k b b₀ := by split <;> rfl
@[simp] theorem kFor_stuck (C : CallF) (is : List Nat) (k : Bool) (b : List St) : kFor C is k b .stuck = .stuck := Eq.trans rfl rfl
@[simp] theorem kFor_raise (C : CallF) (is : List Nat) (k : Bool) (b : List St) (x₀ : Exc) : kFor C is k b (.raise x₀ s) = .raise x₀ s := Eq.trans rfl rfl
@[simp] theorem ex_for (is : List Nat) (it : It) (b : List St) : execS C (.forr is it b) s = kFor C is (isK it) b (evalIt C it s) := by rw [execS] <;> rfl
def kRet  (r₀ : R RV) : R Flow := r₀.bind fun x s => (match retV x with
    | some v => .ok (.ret v) s
    | none => .stuck)
@[simp] theorem kRet_ok  (x₀ : RV) : kRet  (.ok x₀ s) = (fun x => (match retV x with
    | some v => .ok (.ret v) s
    | none => .stuck)) x₀ := Eq.trans rfl rfl
@[simp] theorem kRet_ite  {c₀ : Prop} [Decidable c₀] (a₀ b₀ : R RV) : kRet  (if c₀ then a₀ else b₀) = if c₀ then kRet  a₀ else kRet  b₀ := by split <;> rfl
@[simp] theorem kRet_stuck  : kRet  .stuck = .stuck := Eq.trans rfl rfl
@[simp] theorem kRet_raise  (x₀ : Exc) : kRet  (.raise x₀ s) = .raise x₀ s := Eq.trans rfl rfl
@[simp] theorem ex_ret (e : E) : execS C (.ret e) s = kRet (evalE C e s) := by rw [execS] <;> rfl
@[simp] theorem ex_retN  : execS C .retN s = .ok (.ret (.val .non)) s := by rw [execS] <;> rfl
@[simp] theorem ex_pas  : execS C .pas s = .ok .next s := by rw [execS] <;> rfl
@[simp] theorem exs_nil  : execs C [] s = .ok .next s := by rw [execs] <;> rfl
def kSeq (C : CallF) (r : List St) (r₀ : R Flow) : R Flow := r₀.bind fun f s => (match f with
    | .next => execs C r s
    | f => .ok f s)

@[simp] theorem kSeq_ite (C : CallF) (r : List St) {c₀ : Prop} [Decidable c₀] (a₀ b₀ : R Flow) : kSeq C r (if c₀ then a₀ else b₀) = if c₀ then kSeq C r a₀ else kSeq C r b₀ := by split <;> rfl
@[simp] theorem kSeq_stuck (C : CallF) (r : List St) : kSeq C r .stuck = .stuck := Eq.trans rfl rfl
@[simp] theorem kSeq_raise (C : CallF) (r : List St) (x₀ : Exc) : kSeq C r (.raise x₀ s) = .raise x₀ s := Eq.trans rfl rfl
@[simp] theorem kSeq_next (C : CallF) (r : List St) : kSeq C r (.ok .next s) = execs C r s := Eq.trans rfl rfl
@[simp] theorem kSeq_ret (C : CallF) (r : List St) (v : RV) : kSeq C r (.ok (.ret v) s) = .ok (.ret v) s := Eq.trans rfl rfl
@[simp] theorem kSeq_brk (C : CallF) (r : List St) : kSeq C r (.ok .brk s) = .ok .brk s := Eq.trans rfl rfl
@[simp] theorem exs_cons (st : St) (r : List St) : execs C (st :: r) s = kSeq C r (execS C st s) := by rw [execs] <;> rfl
def kFn  (r₀ : R Flow) : R RV := r₀.bind fun f s => (match f with
          | .next => .ok (.val .non) ⟨[], s.h⟩
          | .ret v => .ok v ⟨[], s.h⟩
          | .brk => .stuck)

@[simp] theorem kFn_ite  {c₀ : Prop} [Decidable c₀] (a₀ b₀ : R Flow) : kFn  (if c₀ then a₀ else b₀) = if c₀ then kFn  a₀ else kFn  b₀ := by split <;> rfl
@[simp] theorem kFn_stuck  : kFn  .stuck = .stuck := Eq.trans rfl rfl
@[simp] theorem kFn_raise  (x₀ : Exc) : kFn  (.raise x₀ s) = .raise x₀ s := Eq.trans rfl rfl
@[simp] theorem kFn_next : kFn (.ok .next s) = .ok (.val .non) ⟨[], s.h⟩ := Eq.trans rfl rfl
@[simp] theorem kFn_ret (v : RV) : kFn (.ok (.ret v) s) = .ok v ⟨[], s.h⟩ := Eq.trans rfl rfl
theorem callF_is {g : Prog} {d : Nat} {f : String} {ds : List D} {h : List Cell} {fn : Fn} (e : g f = some fn) (hl : ds.length = fn.np) : callF g (d + 1) f ds h = kFn (execs (callF g d) fn.body ⟨(ds.map fun d => some (.val d)) ++ List.replicate (fn.ns - fn.np) none, h⟩) := by
  simp only [callF, e, if_pos hl]
  rfl
@[simp] theorem kCalm_ite {c : Prop} [Decidable c] {a b : R α} : kCalm (if c then a else b) = if c then kCalm a else kCalm b := by split <;> rfl
@[simp] theorem back_ok (σ : List (Option SV)) (a : α) : back σ (.ok a s) = .ok a ⟨σ, s.h⟩ := rfl
@[simp] theorem back_ite {c : Prop} [Decidable c] {σ : List (Option SV)} {a b : R α} : back σ (if c then a else b) = if c then back σ a else back σ b := by split <;> rfl
@[simp] theorem opt_ite {c : Prop} [Decidable c] {a b : Option α} : opt s (if c then a else b) = if c then opt s a else opt s b := by split <;> rfl
/-! reading -/
@[simp] theorem frz_val (d : D) : frzIt s (.val d) = .ok (.val d) s := rfl
@[simp] theorem frz_own (c : Cont) : frzIt s (.own c) = .ok (.val c.fz) s := rfl
@[simp] theorem calmIf_ok (k : Bool) (x : α) : calmIf k (.ok x s) = .ok x s := by cases k <;> rfl

@[simp] theorem retV_val (d : D) : retV (.val d) = some (.val d) := rfl
@[simp] theorem retV_own (c : Cont) : retV (.own c) = some (.own c) := rfl
@[simp] theorem retV_slot (i : Nat) (c : Cont) : retV (.pk (.slot i) c) = some (.own c) := rfl
@[simp] theorem isN_non : oIsNone (.val .non) = some true := rfl
@[simp] theorem isN_tup (xs : List D) : oIsNone (.val (.tup xs)) = some false := rfl
@[simp] theorem isN_lst (xs : List D) : oIsNone (.val (.lst xs)) = some false := rfl
@[simp] theorem isN_dct (xs : List (Key × D)) : oIsNone (.val (.dct xs)) = some false := rfl
@[simp] theorem isN_str (xs : T) : oIsNone (.val (.str xs)) = some false := rfl
@[simp] theorem isN_int (xs : Int) : oIsNone (.val (.int xs)) = some false := rfl
@[simp] theorem isN_bl (xs : Bool) : oIsNone (.val (.bl xs)) = some false := rfl
@[simp] theorem isN_ref (xs : Nat) : oIsNone (.val (.ref xs)) = some false := rfl
@[simp] theorem isN_own (c : Cont) : oIsNone (.own c) = some false := rfl
@[simp] theorem isN_pk (p : Pl) (c : Cont) : oIsNone (.pk p c) = some false := rfl
@[simp] theorem unSV_val (d : D) : unSV (.val d) = d := rfl

@[simp] theorem pk_val (d : D) : isPk (.val d) = false := rfl
@[simp] theorem pk_own (d : Cont) : isPk (.own d) = false := rfl
@[simp] theorem pk_pk (p : Pl) (d : Cont) : isPk (.pk p d) = true := rfl
@[simp] theorem pu_var (i : Nat) : pure (.var i) = true := by rw [pure]
@[simp] theorem pu_cst (d : D) : pure (.cst d) = true := by rw [pure]
@[simp] theorem pu_glb (x : String) (d : D) : pure (.glb x d) = true := by rw [pure]
@[simp] theorem pu_p1 (o : Op1) (a : E) : pure (.p1 o a) = pure a := by rw [pure]
@[simp] theorem pu_p2 (o : Op2) (a b : E) : pure (.p2 o a b) = (pure a && pure b) := by rw [pure]
@[simp] theorem pu_p3 (o : Op3) (a b c : E) : pure (.p3 o a b c) = (pure a && pure b && pure c) := by rw [pure]
@[simp] theorem pu_tup (es : List E) : pure (.tup es) = pures es := by rw [pure]
@[simp] theorem pu_lst (es : List E) : pure (.lst es) = pures es := by rw [pure]
@[simp] theorem pu_fld (cs : List String) (e : E) (f : String) : pure (.fld cs e f) = pure e := by rw [pure]
@[simp] theorem pu_call (f : String) (es : List E) : pure (.call f es) = false := by rw [pure] <;> simp
@[simp] theorem pu_frz (e : E) : pure (.frz e) = false := by rw [pure] <;> simp
@[simp] theorem pu_ife (c a b : E) : pure (.ife c a b) = (pure c && pure a && pure b) := by rw [pure]
@[simp] theorem pus_nil : pures [] = true := by rw [pures]
@[simp] theorem pus_cons (e : E) (r : List E) : pures (e :: r) = (pure e && pures r) := by rw [pures]
@[simp] theorem kfind_nil (k : Key) : kfind k ([] : List (Key × α)) = none := rfl
@[simp] theorem tr_bl (h : List Cell) (b : Bool) : truth h (.val (.bl b)) = some b := rfl
@[simp] theorem tr_non (h : List Cell) : truth h (.val .non) = some false := rfl
@[simp] theorem tr_int (h : List Cell) (i : Int) : truth h (.val (.int i)) = some (decide (i ≠ 0)) := rfl
@[simp] theorem tr_str (h : List Cell) (t : T) : truth h (.val (.str t)) = some (!t.isEmpty) := rfl
@[simp] theorem tr_lst (h : List Cell) (t : List D) : truth h (.val (.lst t)) = some (!t.isEmpty) := rfl
@[simp] theorem tr_tup (h : List Cell) (t : List D) : truth h (.val (.tup t)) = some (!t.isEmpty) := rfl
@[simp] theorem eqD_str (a b : T) : eqD (.str a) (.str b) = some (decide (a = b)) := by simp [eqD, shaped, isData, dep, deq]
@[simp] theorem eqD_int (a b : Int) : eqD (.int a) (.int b) = some (decide (a = b)) := by simp [eqD, shaped, isData, dep, deq]
@[simp] theorem kfind_plain (k : Key) : ∀ kvs : List (Key × D), kfind k (plainEs kvs) = (kfind k kvs).map .val
  | [] => rfl
  | q :: r => by
    have ih := kfind_plain k r
    simp only [plainEs] at ih
    simp only [plainEs, List.map_cons, kfind]
    split
    · rfl
    · exact ih
@[simp] theorem kfind_plain' (k : Key) (kvs : List (Key × D)) : kfind k (kvs.map fun q => (q.1, SV.val q.2)) = (kfind k kvs).map .val := kfind_plain k kvs
@[simp] theorem kdel_plain (k : Key) (kvs : List (Key × D)) : kdel k (kvs.map fun q => (q.1, SV.val q.2)) = (kdel k kvs).map fun q => (q.1, SV.val q.2) := by
  simp [kdel, List.filter_map]; rfl
@[simp] theorem kput_plain (k : Key) (v : D) : ∀ kvs : List (Key × D), kput k (SV.val v) (kvs.map fun q => (q.1, SV.val q.2)) = (kput k v kvs).map fun q => (q.1, SV.val q.2)
  | [] => rfl
  | q :: r => by
    have ih := kput_plain k v r
    simp only [List.map_cons, kput]
    split
    · rfl
    · rw [ih]; rfl
@[simp] theorem unplain (kvs : List (Key × D)) : (kvs.map fun q => (q.1, SV.val q.2)).map (fun q => (q.1, unSV q.2)) = kvs := by
  rw [List.map_map]
  exact List.map_id'' (fun _ => rfl) _
@[simp] theorem unplain' (kvs : List (Key × D)) : kvs.map ((fun q => (q.1, unSV q.2)) ∘ fun q => (q.1, SV.val q.2)) = kvs := List.map_id'' (fun _ => rfl) _
@[simp] theorem get_set (h : List Cell) (i : Nat) (c : Cell) : (h.set i c)[i]? = (h[i]?).map fun _ => c := by
  by_cases z : i < h.length
  · rw [List.getElem?_set_self z, List.getElem?_eq_getElem z]; rfl
  · rw [List.getElem?_eq_none (by simpa using z), List.getElem?_eq_none (by simpa using z)]; rfl
end
end KW
/-! KwS1: the store's parts. -/
namespace KW
structure Sto where
  held : List (Key × D)
  ends : List (Key × D)
  stamps : List (Key × D)
  now : Int
  stamp : Int
def Sto.cell (s : Sto) : Cell := .ins "Store" [("held", .own (.dct s.held)), ("ends", .own (.dct s.ends)), ("stamps", .own (.dct s.stamps)), ("now", .val (.int s.now)), ("stamp", .val (.int s.stamp))]
def touchS (s : Sto) (k : T) : Sto := { s with stamp := s.stamp + 1, stamps := kput (.inr k) (.int (s.stamp + 1)) s.stamps }
def dropS (s : Sto) (k : T) : Sto := match kfind (.inr k) s.held with
  | some _ => touchS { s with ends := kdel (.inr k) s.ends, held := kdel (.inr k) s.held } k
  | none => { s with ends := kdel (.inr k) s.ends }
def setS (s : Sto) (k kd : T) (v : D) : Sto := touchS { s with held := kput (.inr k) (.tup [.str kd, v]) s.held } k
/-- how much a value holds -/
def lenD : D → Option Nat
  | .str t => some t.length
  | .lst xs => some xs.length
  | .tup xs => some xs.length
  | .dct kvs => some kvs.length
  | _ => none
def text : T := [116, 101, 120, 116]
def keepS (s : Sto) (k kd : T) (v : D) : Sto := if kd ≠ text ∧ lenD v = some 0 then dropS s k else setS s k kd v
/-- all values stand as they are put -/
def OkV : D → Prop
  | .tup [.str _, v] => (lenD v).isSome
  | _ => False
structure Sto.Ok (s : Sto) (n : Nat) : Prop where
  he : s.held.length ≤ n
  st : s.stamps.length ≤ n
  en : s.ends.length ≤ n
  vs : ∀ q ∈ s.held, OkV q.2
theorem kfind_mem {k : Key} {v : D} : ∀ {l : List (Key × D)}, kfind k l = some v → (k, v) ∈ l
  | [], h => by cases h
  | q :: r, h => by
    unfold kfind at h
    split at h
    · rename_i e
      injection h with h
      subst e h
      exact List.mem_cons_self
    · exact List.mem_cons_of_mem _ (kfind_mem h)
theorem kdel_none {k : Key} : ∀ {l : List (Key × D)}, kfind k l = none → kdel k l = l
  | [], _ => rfl
  | q :: r, h => by
    unfold kfind at h
    split at h
    · cases h
    · rename_i e
      have ih := kdel_none h
      unfold kdel at ih ⊢
      rw [List.filter_cons, if_pos (by simpa using e), ih]
theorem c_changed {d : Nat} {h : List Cell} {i : Nat} {s : Sto} {k : T} (hi : h[i]? = some s.cell) (hz : s.stamps.length < sizeLine) :
    callF prog (d + 1) "Store.changed" [.ref i, .str k] h = .ok (.val .non) ⟨[], h.set i (touchS s k).cell⟩ := by
  rw [callF_is (fn := f_Store_changed) rfl rfl]
  simp [f_Store_changed, hi, Sto.cell, kcls, touchS, run1, run2, oAdd, runISet, getPl, putPl, fput, hz, recv2, List.lookup]
theorem okV_is {v : D} (h : OkV v) : ∃ kd u, v = .tup [.str kd, u] ∧ (lenD u).isSome := by
  unfold OkV at h
  split at h
  · exact ⟨_, _, rfl, h⟩
  · exact h.elim
theorem c_drop {d : Nat} {h : List Cell} {i : Nat} {s : Sto} {k : T} (hi : h[i]? = some s.cell) (hz : s.stamps.length < sizeLine) (hv : ∀ q ∈ s.held, OkV q.2) :
    callF prog (d + 2) "Store.drop" [.ref i, .str k] h = .ok (.val (.bl (kfind (.inr k) s.held).isSome)) ⟨[], h.set i (dropS s k).cell⟩ := by
  rw [callF_is (fn := f_Store_drop) rfl rfl]
  have eN : (kfind (.inr k) s.ends = none) → kdel (.inr k) s.ends = s.ends := kdel_none
  have ch := fun (s' : Sto) (hh : List Cell) (hi' : hh[i]? = some s'.cell) (hz' : s'.stamps.length < sizeLine) => c_changed (d := d) (k := k) hi' hz'
  cases e2 : kfind (.inr k) s.held with
  | none =>
    cases e1 : kfind (.inr k) s.ends <;>
      simp [f_Store_drop, hi, Sto.cell, kcls, run1, getPl, putPl, fput, recv2, List.lookup, recvM, dctOf, runMu, muD, e1, e2, dropS, eN, kdel_none e2, -unSV]
  | some v =>
    obtain ⟨kd, u, rfl, _⟩ := okV_is (hv _ (kfind_mem e2))
    have := c_changed (d := d) (h := h.set i ({ s with ends := kdel (.inr k) s.ends, held := kdel (.inr k) s.held } : Sto).cell) (i := i) (s := { s with ends := kdel (.inr k) s.ends, held := kdel (.inr k) s.held }) (k := k) (by simp [hi]) hz
    cases e1 : kfind (.inr k) s.ends with
    | none =>
      simp [Sto.cell, eN e1] at this
      simp [f_Store_drop, hi, Sto.cell, kcls, run1, getPl, putPl, fput, recv2, List.lookup, recvM, dctOf, runMu, muD, e1, e2, dropS, eN, this, -unSV]
    | some w =>
      simp [Sto.cell] at this
      simp [f_Store_drop, hi, Sto.cell, kcls, run1, getPl, putPl, fput, recv2, List.lookup, recvM, dctOf, runMu, muD, e1, e2, dropS, this, -unSV]
end KW
/-! KwS2: the store's deeds. -/
namespace KW
def kindD (s : Sto) (k : T) : D := match kfind (.inr k) s.held with
  | some (.tup (x :: _)) => x
  | _ => .str [110, 111, 110, 101]
theorem c_kind {d : Nat} {h : List Cell} {i : Nat} {s : Sto} {k : T} (hi : h[i]? = some s.cell) (hv : ∀ q ∈ s.held, OkV q.2) :
    callF prog (d + 1) "Store.kind" [.ref i, .str k] h = .ok (.val (kindD s k)) ⟨[], h⟩ := by
  rw [callF_is (fn := f_Store_kind) rfl rfl]
  unfold kindD
  cases e2 : kfind (.inr k) s.held with
  | none =>
    simp [f_Store_kind, hi, Sto.cell, kcls, run2, runCmp, runIn, lstOf, inD, dctOf, recv2, List.lookup, e2]
  | some v =>
    obtain ⟨kd, u, rfl, _⟩ := okV_is (hv _ (kfind_mem e2))
    simp [f_Store_kind, hi, Sto.cell, kcls, run2, runCmp, runIn, lstOf, inD, dctOf, recv2, List.lookup, e2, runIdx, seqOf, oIdxD, entOf, oIdxL, atI, ixN]
theorem c_value {d : Nat} {h : List Cell} {i : Nat} {s : Sto} {k kd : T} {z : D} (hi : h[i]? = some s.cell) (hv : ∀ q ∈ s.held, OkV q.2) :
    callF prog (d + 1) "Store.value" [.ref i, .str k, .str kd, z] h = .ok (.val (match kfind (.inr k) s.held with
      | some (.tup [.str x, u]) => if x = kd then u else .non
      | _ => z)) ⟨[], h⟩ := by
  rw [callF_is (fn := f_Store_value) rfl rfl]
  cases e2 : kfind (.inr k) s.held with
  | none =>
    simp [f_Store_value, hi, Sto.cell, kcls, run2, runCmp, runIn, lstOf, inD, dctOf, recv2, List.lookup, e2]
  | some v =>
    obtain ⟨x, u, rfl, _⟩ := okV_is (hv _ (kfind_mem e2))
    by_cases ex : x = kd
    · simp [f_Store_value, hi, Sto.cell, kcls, run2, runCmp, runIn, lstOf, inD, dctOf, recv2, List.lookup, e2, runIdx, seqOf, oIdxD, entOf, oIdxL, atI, ixN, datOf, ex]
    · simp [f_Store_value, hi, Sto.cell, kcls, run2, runCmp, runIn, lstOf, inD, dctOf, recv2, List.lookup, e2, runIdx, seqOf, oIdxD, entOf, oIdxL, atI, ixN, datOf, ex]
theorem c_keepT {d : Nat} {h : List Cell} {i : Nat} {s : Sto} {k t : T} (hi : h[i]? = some s.cell) (hz : s.stamps.length < sizeLine) (hz2 : s.held.length < sizeLine) :
    callF prog (d + 3) "Store.keep" [.ref i, .str k, .str text, .str t] h = .ok (.val .non) ⟨[], h.set i (setS s k text (.str t)).cell⟩ := by
  rw [callF_is (fn := f_Store_keep) rfl rfl]
  have := c_changed (d := d + 1) (h := h.set i ({ s with held := kput (.inr k) (.tup [.str text, .str t]) s.held } : Sto).cell) (i := i) (s := { s with held := kput (.inr k) (.tup [.str text, .str t]) s.held }) (k := k) (by simp [hi]) hz
  simp [Sto.cell, text] at this
  simp [f_Store_keep, hi, Sto.cell, kcls, run2, runCmp, runIn, lstOf, inD, dctOf, recv2, List.lookup, datOf, text, runISet, getPl, putPl, fput, hz2, setS, this]
def numD : Option Int → D
  | some n => .int n
  | none => .non
theorem c_as_number {d : Nat} {h : List Cell} {b : Bool} : callF prog (d + 1) "as_number" [.bl b] h = .ok (.val (.tup [.str [110, 117, 109, 98, 101, 114], .int (if b then 1 else 0)])) ⟨[], h⟩ := by
  rw [callF_is (fn := f_as_number) rfl rfl]
  cases b <;> simp [f_as_number]
theorem c_told {d : Nat} {h : List Cell} {t : T} : callF prog (d + 1) "told_text" [.str t] h = .ok (.val (.tup [.str text, .str t])) ⟨[], h⟩ := by
  rw [callF_is (fn := f_told_text) rfl rfl]
  simp [f_told_text, run1, text]
theorem c_told0 {d : Nat} {h : List Cell} : callF prog (d + 1) "told_text" [.non] h = .ok (.val (.tup [.str [110, 111, 110, 101]])) ⟨[], h⟩ := by
  rw [callF_is (fn := f_told_text) rfl rfl]
  simp [f_told_text, run1, text]
theorem c_small {d : Nat} {h : List Cell} {n : Int} : callF prog (d + 1) "is_small" [.int n] h = .ok (.val (.bl (decide (n.natAbs ≤ 999999999999999)))) ⟨[], h⟩ := by
  rw [callF_is (fn := f_is_small) rfl rfl]
  simp [f_is_small, run1, oAbs, run2, runCmp, cmpInt, cmpI, recv2]
  split <;> omega
/-- a key loses its end -/
def noEnd (s : Sto) (k : T) : Sto := { s with ends := kdel (.inr k) s.ends }
theorem c_put {d : Nat} {h : List Cell} {i : Nat} {s : Sto} {k t : T} (hi : h[i]? = some s.cell) (hz : s.stamps.length < sizeLine) (hz2 : s.held.length < sizeLine) :
    callF prog (d + 4) "put" [.ref i, .str k, .str t] h = .ok (.val (.tup [.str [111, 107], .str [100, 111, 110, 101]])) ⟨[], h.set i (setS (noEnd s k) k text (.str t)).cell⟩ := by
  rw [callF_is (fn := f_put) rfl rfl]
  have := c_keepT (d := d) (h := h.set i (noEnd s k).cell) (i := i) (s := noEnd s k) (k := k) (t := t) (by simp [hi]) hz hz2
  cases e1 : kfind (.inr k) s.ends with
  | none =>
    simp [Sto.cell, noEnd, text, kdel_none e1] at this
    simp [f_put, hi, Sto.cell, kcls, getPl, putPl, fput, recv2, List.lookup, recvM, dctOf, runMu, muD, e1, noEnd, text, this, kdel_none e1, -unSV]
  | some w =>
    simp [Sto.cell, noEnd, text] at this
    simp [f_put, hi, Sto.cell, kcls, getPl, putPl, fput, recv2, List.lookup, recvM, dctOf, runMu, muD, e1, noEnd, text, this, -unSV]
end KW
/-! KwS3: comprehensions, numbers. -/
namespace KW
section
variable {C : CallF} {σ : List (Option SV)} {h : List Cell} {i : Nat} {b : D → Bool} {f : D → D}
/-- a comprehension over one name -/
theorem comp_go {fc : S → R Bool} {fe : S → R D} : ∀ {ds : List D} {σ' : List (Option SV)} {acc : List D}, (∀ x, σ'.set i x = σ.set i x) →
    (∀ d ∈ ds, fc ⟨σ.set i (some (.val d)), h⟩ = .ok (b d) ⟨σ.set i (some (.val d)), h⟩) → (∀ d ∈ ds, b d = true → fe ⟨σ.set i (some (.val d)), h⟩ = .ok (f d) ⟨σ.set i (some (.val d)), h⟩) →
    ∃ σ'', (∀ x, σ''.set i x = σ.set i x) ∧ compLoop [i] fc fe ds ⟨σ', h⟩ acc = .ok (acc.reverse ++ (ds.filter b).map f) ⟨σ'', h⟩
  | [], σ', acc, hs, _, _ => ⟨σ', hs, by simp [compLoop]⟩
  | d :: r, σ', acc, hs, h1, h2 => by
    have e1 := h1 d (by simp)
    have ih := fun acc => comp_go (ds := r) (σ' := σ.set i (some (.val d))) (acc := acc) (fun x => by rw [List.set_set]) (fun d hd => h1 d (by simp [hd])) fun d hd => h2 d (by simp [hd])
    cases z : b d with
    | false =>
      obtain ⟨σ2, k1, k2⟩ := ih acc
      refine ⟨σ2, k1, ?_⟩
      rw [compLoop]
      simp only [bindT, hs]
      rw [e1, bind_ok, z, if_neg Bool.false_ne_true, k2, List.filter_cons, if_neg (by rw [z]; exact Bool.false_ne_true)]
    | true =>
      obtain ⟨σ2, k1, k2⟩ := ih (f d :: acc)
      refine ⟨σ2, k1, ?_⟩
      rw [compLoop]
      simp only [bindT, hs]
      rw [e1, bind_ok, z, if_pos rfl, h2 d (by simp) z, bind_ok, k2, List.filter_cons, if_pos z]
      simp
theorem comp_is {cs : List E} {e : E} {ds : List D} {mu : Bool} (hm : mu = true → (pures cs && pure e) = true) (h0 : σ[i]? = some none)
    (h1 : ∀ d ∈ ds, evalCs C cs ⟨σ.set i (some (.val d)), h⟩ = .ok (b d) ⟨σ.set i (some (.val d)), h⟩) (h2 : ∀ d ∈ ds, b d = true → exports (evalE C e ⟨σ.set i (some (.val d)), h⟩) = .ok (f d) ⟨σ.set i (some (.val d)), h⟩) :
    kComp C [i] cs e (.ok (ds, mu) ⟨σ, h⟩) = opt ⟨σ, h⟩ (newLst ((ds.filter b).map f)) := by
  rw [kComp_ok]
  have hg : ((ds, mu).2 && !(pures cs && pure e)) = false := by
    cases mu with
    | false => rfl
    | true => simp [hm rfl]
  simp only [hg, if_neg Bool.false_ne_true]
  obtain ⟨σ2, k1, k2⟩ := comp_go (fc := runC C cs) (fe := runX C e) (σ := σ) (h := h) (i := i) (b := b) (f := f) (σ' := σ) (acc := []) (fun _ => rfl) h1 h2
  rw [k2, kCalm_ok, kComp2_ok]
  have e3 : backT σ [i] ⟨σ2, h⟩ = ⟨σ, h⟩ := by
    unfold backT oldVal
    simp only [List.foldl, h0]
    rw [k1]
    congr 1
    exact List.ext_getElem? fun j => by
      by_cases z : i = j
      · subst z
        rw [h0]
        have : i < σ.length := (List.getElem?_eq_some_iff.mp h0).1
        rw [List.getElem?_set_self this]
      · rw [List.getElem?_set_ne z]
  rw [e3]
  simp
end
/-- the number that a text is -/
def figs (t : T) : T := if t.head? = some 45 then t.drop 1 else t
def numIn (t : T) : Option Int := if 1 ≤ (figs t).length ∧ (figs t).length ≤ 15 ∧ (figs t).all (fun c => decide (48 ≤ c) && decide (c ≤ 57)) = true then (match atoi t with
  | some n => if itoa n = t then some n else none
  | none => none) else none
theorem atoN_lt : ∀ (t : T) (a : Nat), t.all (fun c => decide (48 ≤ c) && decide (c ≤ 57)) = true → atoN a t < (a + 1) * 10 ^ t.length
  | [], a, _ => by
    show a < (a + 1) * 10 ^ 0
    rw [Nat.pow_zero, Nat.mul_one]
    exact Nat.lt_succ_self a
  | c :: r, a, h => by
    simp only [List.all_cons, Bool.and_eq_true, decide_eq_true_eq] at h
    have ih := atoN_lt r (10 * a + (c - 48)) h.2
    unfold atoN
    refine Nat.lt_of_lt_of_le ih ?_
    rw [List.length_cons, Nat.pow_succ]
    have : (10 * a + (c - 48) + 1) ≤ (a + 1) * 10 := by omega
    calc (10 * a + (c - 48) + 1) * 10 ^ r.length ≤ ((a + 1) * 10) * 10 ^ r.length := Nat.mul_le_mul_right _ this
      _ = (a + 1) * (10 ^ r.length * 10) := by rw [Nat.mul_assoc, Nat.mul_comm 10]
/-- figures in their number make a number that is small -/
theorem atoi_fig {t : T} (h1 : 1 ≤ (figs t).length) (h2 : (figs t).length ≤ 15) (h3 : (figs t).all (fun c => decide (48 ≤ c) && decide (c ≤ 57)) = true) : ∃ n : Int, atoi t = some n ∧ n.natAbs < 10 ^ 15 := by
  have hd : (figs t).all isDig = true := h3
  have hb := atoN_lt (figs t) 0 h3
  have hb2 : atoN 0 (figs t) < 10 ^ 15 := Nat.lt_of_lt_of_le hb (by rw [Nat.zero_add, Nat.one_mul]; exact Nat.pow_le_pow_right (by omega) h2)
  have he : (figs t).isEmpty = false := by
    cases q : figs t with
    | nil => rw [q] at h1; simp at h1
    | cons _ _ => rfl
  unfold figs at *
  cases t with
  | nil => simp at h1
  | cons c r =>
    by_cases z : c = 45
    · subst z
      simp at hd he hb2 h2 ⊢
      refine ⟨-(atoN 0 r : Int), ?_, by omega⟩
      unfold atoi
      simp [he, hd, show ¬ 640 < r.length + 1 by omega]
      intro x hx; exact hd x hx
    · simp [z] at hd he hb2 h2 ⊢
      refine ⟨(atoN 0 (c :: r) : Int), ?_, by omega⟩
      unfold atoi
      split
      · rename_i e; cases e; exact absurd rfl z
      · simp [hd, show ¬ 640 < r.length + 1 by omega]
        intro x hx; exact hd.2 x hx
end KW
/-! KwS4: texts that are numbers. -/
namespace KW
theorem strs_len (t : T) : (t.map fun c => D.str [c]).length = t.length := List.length_map _
theorem bools_map {α : Type} (g : α → Bool) : ∀ l : List α, boolsOf (l.map fun x => .bl (g x)) = some (l.map g)
  | [] => rfl
  | x :: r => by
    show ((boolsOf (r.map fun x => .bl (g x))).map (g x :: ·)) = _
    rw [bools_map g r]; rfl
def isF (c : Nat) : Bool := decide (48 ≤ c) && decide (c ≤ 57)
theorem isF_is (c : Nat) : decide (c ∈ [48, 49, 50, 51, 52, 53, 54, 55, 56, 57]) = isF c := by
  unfold isF
  rw [← Bool.decide_and, decide_eq_decide]
  simp only [List.mem_cons, List.not_mem_nil, or_false]
  omega
theorem filter_true {α : Type} : ∀ l : List α, l.filter (fun _ => true) = l
  | [] => rfl
  | x :: r => by rw [List.filter_cons, if_pos rfl, filter_true r]
theorem head_is (t : T) : (t.head? == some 45) = decide (t.head? = some 45) := by
  cases t with
  | nil => rfl
  | cons c r =>
    by_cases e : c = 45
    · simp [e]
    · simp [e]
theorem cut1 (t : T) : cut t (some 1) none = t.drop 1 := by
  cases t with
  | nil => rfl
  | cons c r =>
    unfold cut sIx
    simp
    try rw [show min 1 (r.length + 1) = 1 from by omega]
    try simp
theorem cut01 (t : T) : cut t none (some 1) = t.take 1 := by
  cases t with
  | nil => rfl
  | cons c r =>
    unfold cut sIx
    simp
theorem log2_small {n : Nat} (h : n < 10 ^ 15) : n.log2 < 1920 := by
  rcases Nat.eq_zero_or_pos n with rfl | p
  · simp
  · have := (Nat.log2_lt (by omega) (k := 50)).mpr (Nat.lt_of_lt_of_le h (by decide))
    omega
theorem num_tail {t : T} (hh : (figs t).all isF = true) (h1 : 1 ≤ (figs t).length) (h2 : (figs t).length ≤ 15) : ∃ n : Int, atoi t = some n ∧ n.natAbs.log2 < 1920 ∧ numIn t = if itoa n = t then some n else none := by
  obtain ⟨n, e, q⟩ := atoi_fig h1 h2 hh
  refine ⟨n, e, log2_small q, ?_⟩
  unfold numIn
  rw [if_pos ⟨h1, h2, hh⟩, e]
theorem num_none {t : T} (hh : ¬ (1 ≤ (figs t).length ∧ (figs t).length ≤ 15 ∧ (figs t).all isF = true)) : numIn t = none := by
  unfold numIn
  exact if_neg hh
theorem c_number_in {d : Nat} {h : List Cell} {t : T} : callF prog (d + 1) "number_in" [.str t] h = .ok (.val (numD (numIn t))) ⟨[], h⟩ := by
  rw [callF_is (fn := f_number_in) rfl rfl]
  have hc := comp_is (C := callF prog d) (cs := []) (e := .p2 (.cmp .isIn) (.var 2) (.glb "FIGURES" (.str [48, 49, 50, 51, 52, 53, 54, 55, 56, 57]))) (σ := [some (.val (.str t)), some (.val (.str (figs t))), none]) (h := h) (i := 2) (b := fun _ => true)
    (f := fun d => match d with
      | .str [c] => .bl (isF c)
      | _ => .non) (ds := (figs t).map fun c => .str [c]) (mu := false) (fun z => by cases z) rfl (fun d hd => by simp) (fun d hd _ => by
      obtain ⟨c, _, rfl⟩ := List.mem_map.mp hd
      simp [recv2, run2, runCmp, runIn, inS, exports, isF_is]
      rw [← isF_is]
      simp)
  simp only [filter_true, List.map_map] at hc
  have e1 : (D.str ∘ fun c => [c] : Nat → D) = fun c => .str [c] := rfl
  have e2 : ((fun d => match d with
      | .str [c] => .bl (isF c)
      | _ => .non : D → D) ∘ fun c => D.str [c]) = fun c => .bl (isF c) := rfl
  rw [e2] at hc
  by_cases g : 1 ≤ (figs t).length ∧ (figs t).length ≤ 15
  · have g2 : okSize ((figs t).map fun c => D.bl (isF c)).length = true := by
      unfold okSize
      simp [sizeLine]
      omega
    have g6 : (1 : Int) ≤ ((figs t).length : Int) := by omega
    have g7 : ((figs t).length : Int) ≤ 15 := by omega
    have g8 : ¬ (15 < ((figs t).length : Int)) := by omega
    rw [newLst, if_pos g2] at hc
    by_cases g3 : (figs t).all isF = true
    · obtain ⟨n, n1, n2, n3⟩ := num_tail g3 g.1 g.2
      rw [n3]
      have g4 : (List.map isF (figs t)).all id = true := by
        rw [List.all_map]
        exact g3
      by_cases z : t.head? = some 45
      · have fz : t.drop 1 = figs t := by unfold figs; rw [if_pos z]
        by_cases zz : itoa n = t
        · simp [f_number_in, run2, runCut, cut1, part, recv2, run1, oStart, head_is, z, -List.drop_one, oLen, runCmp, cmpInt, cmpI, hc, bools_map, g6, g7, g8, lstOf, numD, frzIt, getPl, putPl, -List.all_map, -List.all_eq_true, -List.all_eq_false, g4, oInt, oStr, datOf, fz, n1, n2, zz]
        · simp [f_number_in, run2, runCut, cut1, part, recv2, run1, oStart, head_is, z, -List.drop_one, oLen, runCmp, cmpInt, cmpI, hc, bools_map, g6, g7, g8, lstOf, numD, frzIt, getPl, putPl, -List.all_map, -List.all_eq_true, -List.all_eq_false, g4, oInt, oStr, datOf, fz, n1, n2, zz]
      · have fz : figs t = t := by unfold figs; rw [if_neg z]
        rw [fz] at hc g6 g7 g8 g4
        by_cases zz : itoa n = t
        · simp [f_number_in, run2, runCut, cut1, part, recv2, run1, oStart, head_is, z, -List.drop_one, oLen, runCmp, cmpInt, cmpI, hc, bools_map, g6, g7, g8, lstOf, numD, frzIt, getPl, putPl, -List.all_map, -List.all_eq_true, -List.all_eq_false, g4, oInt, oStr, datOf, n1, n2, zz]
        · simp [f_number_in, run2, runCut, cut1, part, recv2, run1, oStart, head_is, z, -List.drop_one, oLen, runCmp, cmpInt, cmpI, hc, bools_map, g6, g7, g8, lstOf, numD, frzIt, getPl, putPl, -List.all_map, -List.all_eq_true, -List.all_eq_false, g4, oInt, oStr, datOf, n1, n2, zz]
    · rw [num_none fun z => g3 z.2.2]
      have g4 : (List.map isF (figs t)).all id = false := by
        rw [List.all_map]
        exact Bool.eq_false_iff.mpr g3
      by_cases z : t.head? = some 45
      · have fz : t.drop 1 = figs t := by unfold figs; rw [if_pos z]
        simp [f_number_in, run2, runCut, cut1, part, recv2, run1, oStart, head_is, z, -List.drop_one, oLen, runCmp, cmpInt, cmpI, hc, bools_map, g6, g7, g8, lstOf, numD, frzIt, getPl, putPl, -List.all_map, -List.all_eq_true, -List.all_eq_false, g4, oInt, oStr, datOf, fz]
      · have fz : figs t = t := by unfold figs; rw [if_neg z]
        rw [fz] at hc g6 g7 g8 g4
        simp [f_number_in, run2, runCut, cut1, part, recv2, run1, oStart, head_is, z, -List.drop_one, oLen, runCmp, cmpInt, cmpI, hc, bools_map, g6, g7, g8, lstOf, numD, frzIt, getPl, putPl, -List.all_map, -List.all_eq_true, -List.all_eq_false, g4, oInt, oStr, datOf]
  · rw [num_none fun z => g ⟨z.1, z.2.1⟩]
    have g5 : ¬ (1 ≤ ((figs t).length : Int) ∧ ((figs t).length : Int) ≤ 15) := by omega
    by_cases z : t.head? = some 45
    · have fz : t.drop 1 = figs t := by unfold figs; rw [if_pos z]
      by_cases g6 : 1 ≤ ((figs t).length : Int)
      · have g7 : ¬ ((figs t).length : Int) ≤ 15 := fun q => g5 ⟨g6, q⟩
        simp [f_number_in, run2, runCut, cut1, part, recv2, run1, oStart, head_is, z, -List.drop_one, fz, oLen, runCmp, cmpInt, cmpI, numD, g6, g7]
      · simp [f_number_in, run2, runCut, cut1, part, recv2, run1, oStart, head_is, z, -List.drop_one, fz, oLen, runCmp, cmpInt, cmpI, numD, g6]
    · have fz : figs t = t := by unfold figs; rw [if_neg z]
      rw [fz] at g5
      by_cases g6 : 1 ≤ (t.length : Int)
      · have g7 : ¬ (t.length : Int) ≤ 15 := fun q => g5 ⟨g6, q⟩
        simp [f_number_in, run2, runCut, cut1, part, recv2, run1, oStart, head_is, z, oLen, runCmp, cmpInt, cmpI, numD, g6, g7]
      · simp [f_number_in, run2, runCut, cut1, part, recv2, run1, oStart, head_is, z, oLen, runCmp, cmpInt, cmpI, numD, g6]
end KW
/-! KwS5: deeds on texts. -/
namespace KW
def tNumber : D := .str [110, 117, 109, 98, 101, 114]
def dNumber : D := .tup [.str [98, 97, 100], .str [110, 117, 109, 98, 101, 114]]
def dLong : D := .tup [.str [98, 97, 100], .str [108, 111, 110, 103]]
def dKind : D := .tup [.str [98, 97, 100], .str [107, 105, 110, 100]]
def dNone : D := .tup [.str [110, 111, 110, 101]]
def dDone : D := .tup [.str [111, 107], .str [100, 111, 110, 101]]
def addP (s : Sto) (k : T) (o t : T) : Sto × D := match numIn t, numIn o with
  | some m, some n => if (n + m).natAbs ≤ 999999999999999 then (setS s k text (.str (itoa (n + m))), .tup [tNumber, .int (n + m)]) else (s, dNumber)
  | _, _ => (s, dNumber)
def joinP (s : Sto) (k : T) (o t : T) : Sto × D := if o.length + t.length > 300 then (s, dLong) else (setS s k text (.str (o ++ t)), .tup [tNumber, .int (o.length + t.length)])
def optT : Option T → D
  | some t => .str t
  | none => .non
theorem itoa_log {n : Int} (h : n.natAbs ≤ 999999999999999) : n.natAbs.log2 < 1920 := log2_small (by omega)
theorem num0 : numIn [48] = some 0 := by decide
theorem set_id {h : List Cell} {i : Nat} {c : Cell} (hi : h[i]? = some c) : h.set i c = h := by
  apply List.ext_getElem?
  intro j
  by_cases z : i = j
  · subst z
    rw [get_set, hi]; rfl
  · rw [List.getElem?_set_ne z]
theorem c_added {d : Nat} {h : List Cell} {i : Nat} {s : Sto} {k t : T} {o : Option T} (hi : h[i]? = some s.cell) (hz : s.stamps.length < sizeLine) (hz2 : s.held.length < sizeLine) :
    callF prog (d + 4) "added" [.ref i, .str k, optT o, .str t] h = .ok (.val (addP s k (o.getD [48]) t).2) ⟨[], h.set i (addP s k (o.getD [48]) t).1.cell⟩ := by
  rw [callF_is (fn := f_added) rfl rfl]
  have k1 := fun (n : Int) => c_keepT (d := d) (k := k) (t := itoa n) hi hz hz2
  simp [Sto.cell, text] at k1
  have e0 : callF prog (d + 3) "number_in" [.str (o.getD [48])] h = .ok (.val (numD (numIn (o.getD [48])))) ⟨[], h⟩ := c_number_in
  have hh := set_id hi
  simp [Sto.cell] at hh
  cases o with
  | none =>
    simp [num0, numD] at e0
    cases e1 : numIn t with
    | none => simp [f_added, optT, c_number_in, e1, numD, e0, run1, addP, set_id hi, dNumber, num0]
    | some m =>
      by_cases z : m.natAbs ≤ 999999999999999
      · simp [f_added, optT, c_number_in, e1, numD, e0, run1, addP, num0, c_small, z, run2, oAdd, recv2, oStr, itoa_log z, hi, k1, Sto.cell, setS, text, tNumber, List.lookup]
      · simp [f_added, optT, c_number_in, e1, numD, e0, run1, addP, num0, c_small, z, run2, oAdd, recv2, hh, Sto.cell, dNumber]
  | some w =>
    simp at e0
    cases e1 : numIn t with
    | none => simp [f_added, optT, c_number_in, e1, numD, e0, run1, addP, set_id hi, dNumber]
    | some m =>
      cases e2 : numIn w with
      | none => simp [f_added, optT, c_number_in, e1, e2, numD, e0, run1, addP, set_id hi, dNumber]
      | some n =>
        by_cases z : (n + m).natAbs ≤ 999999999999999
        · simp [f_added, optT, c_number_in, e1, e2, numD, e0, run1, addP, c_small, z, run2, oAdd, recv2, oStr, itoa_log z, hi, k1, Sto.cell, setS, text, tNumber, List.lookup]
        · simp [f_added, optT, c_number_in, e1, e2, numD, e0, run1, addP, c_small, z, run2, oAdd, recv2, hh, Sto.cell, dNumber]
theorem c_joined {d : Nat} {h : List Cell} {i : Nat} {s : Sto} {k t : T} {o : Option T} (hi : h[i]? = some s.cell) (hz : s.stamps.length < sizeLine) (hz2 : s.held.length < sizeLine) (hl : (o.getD []).length + t.length ≤ sizeLine) :
    callF prog (d + 4) "joined" [.ref i, .str k, optT o, .str t] h = .ok (.val (joinP s k (o.getD []) t).2) ⟨[], h.set i (joinP s k (o.getD []) t).1.cell⟩ := by
  rw [callF_is (fn := f_joined) rfl rfl]
  have k1 := fun (n : T) => c_keepT (d := d) (k := k) (t := n) hi hz hz2
  simp [Sto.cell, text] at k1
  have hh := set_id hi
  simp [Sto.cell] at hh
  cases o with
  | none =>
    have g : okSize t.length = true := by simpa [okSize] using hl
    by_cases z : t.length > 300
    · have z2 : (300 : Int) < (t.length : Int) := by omega
      simp [f_joined, optT, run1, run2, oAdd, recv2, newStr, g, oLen, runCmp, cmpInt, cmpI, joinP, z, z2, hh, Sto.cell, dLong]
    · have z2 : ¬ (300 : Int) < (t.length : Int) := by omega
      simp [f_joined, optT, run1, run2, oAdd, recv2, newStr, g, oLen, runCmp, cmpInt, cmpI, joinP, z, z2, hi, k1, Sto.cell, setS, text, tNumber, List.lookup]
  | some w =>
    have g : okSize (w.length + t.length) = true := by simpa [okSize] using hl
    by_cases z : w.length + t.length > 300
    · have z2 : (300 : Int) < (w.length : Int) + (t.length : Int) := by omega
      simp [f_joined, optT, run1, run2, oAdd, recv2, newStr, g, oLen, runCmp, cmpInt, cmpI, joinP, z, z2, hh, Sto.cell, dLong]
    · have z2 : ¬ (300 : Int) < (w.length : Int) + (t.length : Int) := by omega
      simp [f_joined, optT, run1, run2, oAdd, recv2, newStr, g, oLen, runCmp, cmpInt, cmpI, joinP, z, z2, hi, k1, Sto.cell, setS, text, tNumber, List.lookup]
end KW
/-! KwS6: deeds on texts, by their words. -/
namespace KW
/-- what stands under a key, if it is a text -/
def TxtV (v : D) : Prop := ∃ t : T, v = .tup [.str text, .str t] ∧ t.length ≤ 300
structure Sto.Tx (s : Sto) (n : Nat) : Prop where
  he : s.held.length ≤ n
  st : s.stamps.length ≤ n
  vs : ∀ q ∈ s.held, TxtV q.2
  ks : ∀ q ∈ s.held, ∃ t : T, q.1 = .inr t
theorem txt_ok {v : D} (h : TxtV v) : OkV v := by
  obtain ⟨t, rfl, _⟩ := h
  rfl
/-- the text under a key -/
def txtOf (s : Sto) (k : T) : Option T := match kfind (.inr k) s.held with
  | some (.tup [_, .str t]) => some t
  | _ => none
def toldT : Option T → D
  | some t => .tup [.str text, .str t]
  | none => dNone
def numB (b : Bool) : D := .tup [tNumber, .int (if b then 1 else 0)]
/-- a text's deed: word, key, more -/
def textP (s : Sto) (w k : T) (t : T) : Sto × D :=
  if w = [112, 117, 116] then (setS (noEnd s k) k text (.str t), dDone)
  else if w = [112, 117, 116, 110, 101, 119] then (if (txtOf s k).isSome then (s, numB false) else (setS s k text (.str t), numB true))
  else if w = [103, 101, 116] then (s, toldT (txtOf s k))
  else if w = [115, 119, 97, 112] then (setS (noEnd s k) k text (.str t), toldT (txtOf s k))
  else if w = [97, 100, 100] then addP s k ((txtOf s k).getD [48]) t
  else if w = [106, 111, 105, 110] then joinP s k ((txtOf s k).getD []) t
  else (s, .tup [tNumber, .int ((txtOf s k).getD []).length])
section
variable {d : Nat} {h : List Cell} {i n : Nat} {s : Sto} {k t : T}
theorem find_txt (hv : ∀ q ∈ s.held, TxtV q.2) : (kfind (.inr k) s.held = none ∧ txtOf s k = none) ∨ ∃ t, kfind (.inr k) s.held = some (.tup [.str text, .str t]) ∧ txtOf s k = some t ∧ t.length ≤ 300 := by
  cases e : kfind (.inr k) s.held with
  | none => exact .inl ⟨rfl, by unfold txtOf; rw [e]⟩
  | some v =>
    obtain ⟨t, rfl, hl⟩ := hv _ (kfind_mem e)
    exact .inr ⟨t, rfl, by unfold txtOf; rw [e], hl⟩
theorem c_text_put (hi : h[i]? = some s.cell) (hz : s.stamps.length < sizeLine) (hz2 : s.held.length < sizeLine) :
    callF prog (d + 5) "text_done" [.ref i, .str [112, 117, 116], .lst [.str k, .str t]] h = .ok (.val dDone) ⟨[], h.set i (setS (noEnd s k) k text (.str t)).cell⟩ := by
  rw [callF_is (fn := f_text_done) rfl rfl]
  simp [f_text_done, run2, recv2, runIdx, seqOf, lstOf, oIdxL, atI, ixN, runCmp, datOf, c_put hi hz hz2, dDone]
theorem c_text_putnew (hi : h[i]? = some s.cell) (hz : s.stamps.length < sizeLine) (hz2 : s.held.length < sizeLine) (hv : ∀ q ∈ s.held, TxtV q.2) :
    callF prog (d + 5) "text_done" [.ref i, .str [112, 117, 116, 110, 101, 119], .lst [.str k, .str t]] h = .ok (.val (textP s [112, 117, 116, 110, 101, 119] k t).2) ⟨[], h.set i (textP s [112, 117, 116, 110, 101, 119] k t).1.cell⟩ := by
  rw [callF_is (fn := f_text_done) rfl rfl]
  have k1 := c_keepT (d := d + 1) (k := k) (t := t) hi hz hz2
  have hh := set_id hi
  simp [Sto.cell, text] at k1 hh
  rcases find_txt (k := k) hv with ⟨e1, e2⟩ | ⟨o, e1, e2, _⟩
  · simp [f_text_done, run2, recv2, runIdx, seqOf, lstOf, oIdxL, atI, ixN, runCmp, datOf, textP, e2, hi, Sto.cell, kcls, List.lookup, runIn, inD, dctOf, e1, k1, text, c_as_number, numB, tNumber, setS]
  · simp [f_text_done, run2, recv2, runIdx, seqOf, lstOf, oIdxL, atI, ixN, runCmp, datOf, textP, e2, hi, Sto.cell, kcls, List.lookup, runIn, inD, dctOf, e1, hh, c_as_number, numB, tNumber]
theorem kind_is (hi : h[i]? = some s.cell) (hv : ∀ q ∈ s.held, TxtV q.2) : ∃ kd : T, callF prog (d + 1) "Store.kind" [.ref i, .str k] h = .ok (.val (.str kd)) ⟨[], h⟩ ∧ (kd = [110, 111, 110, 101] ∨ kd = text) := by
  have := c_kind (d := d) (k := k) hi fun q hq => txt_ok (hv q hq)
  unfold kindD at this
  rcases find_txt (k := k) hv with ⟨e1, e2⟩ | ⟨o, e1, e2, _⟩
  · rw [e1] at this
    exact ⟨_, this, .inl rfl⟩
  · rw [e1] at this
    exact ⟨_, this, .inr rfl⟩
theorem value_is (hi : h[i]? = some s.cell) (hv : ∀ q ∈ s.held, TxtV q.2) : callF prog (d + 1) "Store.value" [.ref i, .str k, .str text, .non] h = .ok (.val (optT (txtOf s k))) ⟨[], h⟩ := by
  rw [c_value hi fun q hq => txt_ok (hv q hq)]
  rcases find_txt (k := k) hv with ⟨e1, e2⟩ | ⟨o, e1, e2, _⟩
  · simp [e1, e2, optT]
  · simp [e1, e2, optT]
theorem c_text_get (hi : h[i]? = some s.cell) (hv : ∀ q ∈ s.held, TxtV q.2) :
    callF prog (d + 5) "text_done" [.ref i, .str [103, 101, 116], .lst [.str k]] h = .ok (.val (toldT (txtOf s k))) ⟨[], h⟩ := by
  rw [callF_is (fn := f_text_done) rfl rfl]
  obtain ⟨kd, e1, e2⟩ := kind_is (d := d + 3) (k := k) hi hv
  have e3 := value_is (d := d + 3) (k := k) hi hv
  simp [Sto.cell] at hi
  rcases e2 with rfl | rfl <;> cases e4 : txtOf s k <;>
    simp [text, e4, optT] at e3 e1 <;> simp [f_text_done, run2, recv2, runIdx, seqOf, lstOf, oIdxL, atI, ixN, runCmp, datOf, e1, e3, hi, runIn, inT, flat, deq, text, c_told, c_told0, toldT, dNone, List.lookup]
theorem value_set {i' : Nat} (hi : h[i]? = some s.cell) : (h.set i' s.cell)[i]? = some s.cell := by
  by_cases z : i' = i
  · subst z; rw [get_set, hi]; rfl
  · rw [List.getElem?_set_ne z]; exact hi
theorem c_text_swap (hi : h[i]? = some s.cell) (hz : s.stamps.length < sizeLine) (hz2 : s.held.length < sizeLine) (hv : ∀ q ∈ s.held, TxtV q.2) :
    callF prog (d + 5) "text_done" [.ref i, .str [115, 119, 97, 112], .lst [.str k, .str t]] h = .ok (.val (toldT (txtOf s k))) ⟨[], h.set i (setS (noEnd s k) k text (.str t)).cell⟩ := by
  rw [callF_is (fn := f_text_done) rfl rfl]
  obtain ⟨kd, e1, e2⟩ := kind_is (d := d + 3) (k := k) hi hv
  have e3 := value_is (d := d + 3) (k := k) hi hv
  have e5 := c_put (d := d) (k := k) (t := t) hi hz hz2
  simp [Sto.cell] at hi e5
  rcases e2 with rfl | rfl <;> cases e4 : txtOf s k <;>
    simp [text, e4, optT] at e3 e1 e5 <;> simp [f_text_done, run2, recv2, runIdx, seqOf, lstOf, oIdxL, atI, ixN, runCmp, datOf, e1, e3, e5, hi, runIn, inT, flat, deq, text, c_told, c_told0, toldT, dNone, List.lookup, Sto.cell]
theorem c_text_long (hi : h[i]? = some s.cell) (hv : ∀ q ∈ s.held, TxtV q.2) :
    callF prog (d + 5) "text_done" [.ref i, .str [108, 111, 110, 103], .lst [.str k]] h = .ok (.val (.tup [tNumber, .int ((txtOf s k).getD []).length])) ⟨[], h⟩ := by
  rw [callF_is (fn := f_text_done) rfl rfl]
  obtain ⟨kd, e1, e2⟩ := kind_is (d := d + 3) (k := k) hi hv
  have e3 := value_is (d := d + 3) (k := k) hi hv
  simp [Sto.cell] at hi
  rcases e2 with rfl | rfl <;> cases e4 : txtOf s k <;>
    simp [text, e4, optT] at e3 e1 <;> simp [f_text_done, run2, recv2, runIdx, seqOf, lstOf, oIdxL, atI, ixN, runCmp, datOf, e1, e3, hi, runIn, inT, flat, deq, text, toldT, dNone, List.lookup, run1, oLen, tNumber]
theorem c_text_add (hi : h[i]? = some s.cell) (hz : s.stamps.length < sizeLine) (hz2 : s.held.length < sizeLine) (hv : ∀ q ∈ s.held, TxtV q.2) :
    callF prog (d + 5) "text_done" [.ref i, .str [97, 100, 100], .lst [.str k, .str t]] h = .ok (.val (addP s k ((txtOf s k).getD [48]) t).2) ⟨[], h.set i (addP s k ((txtOf s k).getD [48]) t).1.cell⟩ := by
  rw [callF_is (fn := f_text_done) rfl rfl]
  obtain ⟨kd, e1, e2⟩ := kind_is (d := d + 3) (k := k) hi hv
  have e3 := value_is (d := d + 3) (k := k) hi hv
  have e5 := c_added (d := d) (k := k) (t := t) (o := txtOf s k) hi hz hz2
  simp [Sto.cell] at hi e5
  rcases e2 with rfl | rfl <;> cases e4 : txtOf s k <;>
    simp [text, e4, optT] at e3 e1 e5 <;> simp [f_text_done, run2, recv2, runIdx, seqOf, lstOf, oIdxL, atI, ixN, runCmp, datOf, e1, e3, e5, hi, runIn, inT, flat, deq, text, List.lookup, Sto.cell]
theorem c_text_join (hi : h[i]? = some s.cell) (hz : s.stamps.length < sizeLine) (hz2 : s.held.length < sizeLine) (hv : ∀ q ∈ s.held, TxtV q.2) (ht : t.length ≤ 1000) :
    callF prog (d + 5) "text_done" [.ref i, .str [106, 111, 105, 110], .lst [.str k, .str t]] h = .ok (.val (joinP s k ((txtOf s k).getD []) t).2) ⟨[], h.set i (joinP s k ((txtOf s k).getD []) t).1.cell⟩ := by
  rw [callF_is (fn := f_text_done) rfl rfl]
  obtain ⟨kd, e1, e2⟩ := kind_is (d := d + 3) (k := k) hi hv
  have e3 := value_is (d := d + 3) (k := k) hi hv
  have hl : ((txtOf s k).getD []).length + t.length ≤ sizeLine := by
    rcases find_txt (k := k) hv with ⟨_, e⟩ | ⟨o, _, e, ho⟩ <;> rw [e] <;> simp [sizeLine] <;> omega
  have e5 := c_joined (d := d) (k := k) (t := t) (o := txtOf s k) hi hz hz2 hl
  simp [Sto.cell] at hi e5
  rcases e2 with rfl | rfl <;> cases e4 : txtOf s k <;>
    simp [text, e4, optT] at e3 e1 e5 <;> simp [f_text_done, run2, recv2, runIdx, seqOf, lstOf, oIdxL, atI, ixN, runCmp, datOf, e1, e3, e5, hi, runIn, inT, flat, deq, text, List.lookup, Sto.cell]
/-! ### keys -/
/-- which of these are there -/
def thereP (s : Sto) (ks : List T) : Nat := (ks.filter fun k => (kfind (.inr k) s.held).isSome).length
theorem filt_str (p : T → Bool) (g : D → Bool) (hg : ∀ t, g (.str t) = p t) : ∀ ks : List T, (ks.map D.str).filter g = (ks.filter p).map D.str
  | [] => rfl
  | k :: r => by
    rw [List.map_cons, List.filter_cons, List.filter_cons, hg, filt_str p g hg r]
    split <;> rfl
theorem c_has {ks : List T} (hi : h[i]? = some s.cell) (hk : ks.length ≤ 1000) :
    callF prog (d + 1) "key_done" [.ref i, .str [104, 97, 115], .lst (ks.map .str)] h = .ok (.val (.tup [tNumber, .int (thereP s ks)])) ⟨[], h⟩ := by
  rw [callF_is (fn := f_key_done) rfl rfl]
  have hc := comp_is (C := callF prog d) (cs := [.p2 (.cmp .isIn) (.var 3) (.fld kcls (.var 0) "held")]) (e := .var 3) (σ := [some (.val (.ref i)), some (.val (.str [104, 97, 115])), some (.val (.lst (ks.map .str))), none]) (h := h) (i := 3)
    (b := fun d => match d with
      | .str k => (kfind (.inr k) s.held).isSome
      | _ => false) (f := fun d => d) (ds := ks.map .str) (mu := false) (fun z => by cases z) rfl (fun d hd => by
      obtain ⟨c, _, rfl⟩ := List.mem_map.mp hd
      cases e : kfind (.inr c) s.held <;> simp [recv2, run2, runCmp, runIn, hi, Sto.cell, kcls, List.lookup, lstOf, inD, dctOf, e]) (fun d hd _ => by
      obtain ⟨c, _, rfl⟩ := List.mem_map.mp hd
      simp [exports])
  rw [filt_str (fun k => (kfind (.inr k) s.held).isSome) _ (fun _ => rfl)] at hc
  have g : okSize (((ks.filter fun k => (kfind (.inr k) s.held).isSome).map D.str).map fun d => d).length = true := by
    have := List.length_filter_le (fun k => (kfind (.inr k) s.held).isSome) ks
    simp [okSize, sizeLine]
    omega
  rw [newLst, if_pos g] at hc
  simp [kcls] at hc
  simp [f_key_done, run2, recv2, runCmp, datOf, hc, muOf, run1, oLen, seqOf, lstOf, tNumber, thereP, kcls]
end
end KW
/-! KwS7: deeds on keys. -/
namespace KW
theorem kput_len {α : Type} (k : Key) (v : α) : ∀ l : List (Key × α), (kput k v l).length ≤ l.length + 1
  | [] => by simp [kput]
  | q :: r => by
    unfold kput
    split
    · simp
    · have := kput_len k v r
      simp; omega
theorem kdel_len {α : Type} (k : Key) (l : List (Key × α)) : (kdel k l).length ≤ l.length := List.length_filter_le _ _
theorem kdel_sub {α : Type} {k : Key} {l : List (Key × α)} {q : Key × α} (h : q ∈ kdel k l) : q ∈ l := (List.mem_filter.mp h).1
theorem kput_sub {α : Type} {k : Key} {v : α} : ∀ {l : List (Key × α)} {q : Key × α}, q ∈ kput k v l → q ∈ l ∨ q = (k, v)
  | [], q, h => .inr (List.mem_singleton.mp h)
  | p :: r, q, h => by
    unfold kput at h
    split at h
    · rename_i e
      rcases List.mem_cons.mp h with h | h
      · subst h; exact .inr (by rw [e])
      · exact .inl (List.mem_cons_of_mem _ h)
    · rcases List.mem_cons.mp h with h | h
      · exact .inl (h ▸ List.mem_cons_self)
      · rcases kput_sub h with h | h
        · exact .inl (List.mem_cons_of_mem _ h)
        · exact .inr h
def dropL : Sto → List T → Sto × List T
  | s, [] => (s, [])
  | s, k :: r => ((dropL (dropS s k) r).1, if (kfind (.inr k) s.held).isSome then k :: (dropL (dropS s k) r).2 else (dropL (dropS s k) r).2)
theorem drop_held {s : Sto} {k : T} {q : Key × D} (h : q ∈ (dropS s k).held) : q ∈ s.held := by
  unfold dropS at h
  split at h
  · exact kdel_sub h
  · exact h
theorem drop_st (s : Sto) (k : T) : (dropS s k).stamps.length ≤ s.stamps.length + 1 := by
  unfold dropS
  split
  · exact kput_len _ _ _
  · exact Nat.le_succ _
theorem drop_he (s : Sto) (k : T) : (dropS s k).held.length ≤ s.held.length := by
  unfold dropS
  split
  · exact kdel_len _ _
  · exact Nat.le_refl _
theorem drop_en {s : Sto} {k : T} {q : Key × D} (h : q ∈ (dropS s k).ends) : q ∈ s.ends := by
  unfold dropS at h
  split at h
  · exact kdel_sub h
  · exact kdel_sub h
theorem drop_enl (s : Sto) (k : T) : (dropS s k).ends.length ≤ s.ends.length := by
  unfold dropS
  split
  · exact kdel_len _ _
  · exact kdel_len _ _
theorem dropL_len : ∀ (ks : List T) (s : Sto), (dropL s ks).2.length ≤ ks.length
  | [], _ => Nat.le_refl _
  | k :: r, s => by
    have := dropL_len r (dropS s k)
    unfold dropL
    simp only []
    split
    · simp; omega
    · simp; omega
section
variable {d : Nat} {h : List Cell} {i n : Nat} {s : Sto} {k t : T}
theorem drop_go {fc : S → R Bool} {fe : S → R D} {σ : List (Option SV)} (h1 : ∀ (k : T) (hh : List Cell) (s : Sto), hh[i]? = some s.cell → s.stamps.length < sizeLine → (∀ q ∈ s.held, OkV q.2) →
      fc ⟨σ.set 3 (some (.val (.str k))), hh⟩ = .ok (kfind (.inr k) s.held).isSome ⟨σ.set 3 (some (.val (.str k))), hh.set i (dropS s k).cell⟩)
    (h2 : ∀ (k : T) hh, fe ⟨σ.set 3 (some (.val (.str k))), hh⟩ = .ok (.str k) ⟨σ.set 3 (some (.val (.str k))), hh⟩) : ∀ (ks : List T) (h : List Cell) (s : Sto) (σ' : List (Option SV)) (acc : List D), h[i]? = some s.cell → s.stamps.length + ks.length < sizeLine → (∀ q ∈ s.held, OkV q.2) →
    (∀ x, σ'.set 3 x = σ.set 3 x) → ∃ σ'', (∀ x, σ''.set 3 x = σ.set 3 x) ∧ compLoop [3] fc fe (ks.map .str) ⟨σ', h⟩ acc = .ok (acc.reverse ++ (dropL s ks).2.map .str) ⟨σ'', h.set i (dropL s ks).1.cell⟩
  | [], h, s, σ', acc, hi, _, _, hs => ⟨σ', hs, by simp [compLoop, dropL, set_id hi]⟩
  | k :: r, h, s, σ', acc, hi, hz, hv, hs => by
    have e1 := h1 k h s hi (by omega) hv
    have l1 := drop_st s k
    have ih := fun acc => drop_go h1 h2 r (h.set i (dropS s k).cell) (dropS s k) (σ.set 3 (some (.val (.str k)))) acc (by simp [hi]) (by simp at hz; omega) (fun q hq => hv q (drop_held hq)) (fun x => by rw [List.set_set])
    cases z : (kfind (.inr k) s.held).isSome with
    | false =>
      obtain ⟨σ2, k1, k2⟩ := ih acc
      refine ⟨σ2, k1, ?_⟩
      rw [List.map_cons, compLoop]
      simp only [bindT, hs]
      rw [e1, bind_ok, z, if_neg Bool.false_ne_true, k2, List.set_set]
      simp [dropL, z]
    | true =>
      obtain ⟨σ2, k1, k2⟩ := ih (.str k :: acc)
      refine ⟨σ2, k1, ?_⟩
      rw [List.map_cons, compLoop]
      simp only [bindT, hs]
      rw [e1, bind_ok, z, if_pos rfl, h2 k, bind_ok, k2, List.set_set]
      simp [dropL, z]
theorem back_none {σ σ2 : List (Option SV)} {i : Nat} {h2 : List Cell} (h0 : σ[i]? = some none) (k1 : ∀ x, σ2.set i x = σ.set i x) : backT σ [i] ⟨σ2, h2⟩ = ⟨σ, h2⟩ := by
  unfold backT oldVal
  simp only [List.foldl, h0]
  rw [k1]
  congr 1
  exact List.ext_getElem? fun j => by
    by_cases z : i = j
    · subst z
      rw [h0]
      have : i < σ.length := (List.getElem?_eq_some_iff.mp h0).1
      rw [List.getElem?_set_self this]
    · rw [List.getElem?_set_ne z]
theorem c_drops {ks : List T} (hi : h[i]? = some s.cell) (hk : ks.length ≤ 1000) (hz : s.stamps.length + ks.length < sizeLine) (hv : ∀ q ∈ s.held, OkV q.2) :
    callF prog (d + 3) "key_done" [.ref i, .str [100, 114, 111, 112], .lst (ks.map .str)] h = .ok (.val (.tup [tNumber, .int (dropL s ks).2.length])) ⟨[], h.set i (dropL s ks).1.cell⟩ := by
  rw [callF_is (fn := f_key_done) rfl rfl]
  have hc : kComp (callF prog (d + 2)) [3] [.meth "Store" "drop" (.var 0) [.var 3]] (.var 3) (.ok (ks.map .str, false) ⟨[some (.val (.ref i)), some (.val (.str [100, 114, 111, 112])), some (.val (.lst (ks.map .str))), none], h⟩) =
      .ok (.own (.lst ((dropL s ks).2.map .str))) ⟨[some (.val (.ref i)), some (.val (.str [100, 114, 111, 112])), some (.val (.lst (ks.map .str))), none], h.set i (dropL s ks).1.cell⟩ := by
    rw [kComp_ok]
    obtain ⟨σ2, k1, k2⟩ := drop_go (i := i) (σ := [some (.val (.ref i)), some (.val (.str [100, 114, 111, 112])), some (.val (.lst (ks.map .str))), none]) (fc := runC (callF prog (d + 2)) [.meth "Store" "drop" (.var 0) [.var 3]]) (fe := runX (callF prog (d + 2)) (.var 3))
      (fun k hh s hi hz hv => by
        have e := c_drop (d := d) (k := k) hi hz hv
        simp [Sto.cell] at hi e
        cases z : kfind (.inr k) s.held <;> simp [z] at e <;> simp [hi, e, List.lookup, Sto.cell, runC])
      (fun k hh => by simp [exports, runX]) ks h s _ [] hi hz hv (fun _ => rfl)
    have g : okSize ((dropL s ks).2.map D.str).length = true := by
      have := dropL_len ks s
      simp [okSize, sizeLine]
      omega
    simp only [Bool.false_and, if_neg Bool.false_ne_true]
    rw [k2, kCalm_ok, kComp2_ok]
    simp only [newLst, List.reverse_nil, List.nil_append, g, if_true, opt]
    rw [back_none rfl k1]
  simp [f_key_done, run2, recv2, runCmp, datOf, hc, muOf, run1, oLen, seqOf, lstOf, tNumber]
theorem c_kind_word {r : List D} (hi : h[i]? = some s.cell) (hv : ∀ q ∈ s.held, OkV q.2) :
    callF prog (d + 2) "key_done" [.ref i, .str [107, 105, 110, 100], .lst (.str k :: r)] h = .ok (.val (.tup [.str [111, 107], kindD s k])) ⟨[], h⟩ := by
  rw [callF_is (fn := f_key_done) rfl rfl]
  have := c_kind (d := d) (k := k) hi hv
  have hi' := hi
  simp [Sto.cell] at hi'
  simp [f_key_done, run2, recv2, runCmp, datOf, runIdx, seqOf, lstOf, oIdxL, atI, ixN, this, hi', List.lookup, show (0 : Int) < (r.length : Int) + 1 from by omega]
/-! sorted keys -/
theorem insDb_len (x : D) : ∀ l : List D, (sortD.insDb x l).length = l.length + 1
  | [] => rfl
  | y :: r => by
    unfold sortD.insDb
    split
    · rw [List.length_cons, insDb_len x r, List.length_cons]
    · rfl
theorem sortD_len : ∀ l : List D, (sortD l).length = l.length
  | [] => rfl
  | x :: r => by
    show (sortD.insDb x (sortD r)).length = _
    rw [insDb_len, sortD_len r, List.length_cons]
theorem insDb_mem {x d : D} : ∀ {l : List D}, d ∈ sortD.insDb x l → d = x ∨ d ∈ l
  | [], h => by simpa [sortD.insDb] using h
  | y :: r, h => by
    unfold sortD.insDb at h
    split at h
    · rcases List.mem_cons.mp h with h | h
      · exact .inr (h ▸ List.mem_cons_self)
      · rcases insDb_mem h with h | h
        · exact .inl h
        · exact .inr (List.mem_cons_of_mem _ h)
    · rcases List.mem_cons.mp h with h | h
      · exact .inl h
      · exact .inr h
theorem sortD_mem {d : D} : ∀ {l : List D}, d ∈ sortD l → d ∈ l
  | [], h => h
  | x :: r, h => by
    rcases insDb_mem (show d ∈ sortD.insDb x (sortD r) from h) with h | h
    · exact h ▸ List.mem_cons_self
    · exact List.mem_cons_of_mem _ (sortD_mem h)
theorem sortable_str {l : List D} (h : ∀ d ∈ l, ∃ t, d = .str t) : sortable l = true := by
  cases l with
  | nil => rfl
  | cons x r =>
    obtain ⟨t, rfl⟩ := h x (by simp)
    show allSrt .s (.str t :: r) = true
    unfold allSrt
    rw [List.all_eq_true]
    intro d hd
    obtain ⟨u, rfl⟩ := h d hd
    rfl
def keysP (l : List (Key × D)) : List D := sortD (l.map fun q => keyD q.1)
theorem keysP_str {l : List (Key × D)} (h : ∀ q ∈ l, ∃ t : T, q.1 = .inr t) : ∀ d ∈ keysP l, ∃ t, d = .str t ∧ ∃ q ∈ l, q.1 = .inr t := by
  intro d hd
  obtain ⟨q, hq, rfl⟩ := List.mem_map.mp (sortD_mem hd)
  obtain ⟨t, e⟩ := h q hq
  exact ⟨t, by rw [e]; rfl, q, hq, e⟩
theorem sk_is {hh : List Cell} {p : Pl} {l : List (Key × D)} (h : ∀ q ∈ l, ∃ t : T, q.1 = .inr t) (hl : l.length ≤ sizeLine) : (oKeys hh (.pk p (.dct l))).bind oSort = some (.own (.lst (keysP l))) := by
  have e : oKeys hh (.pk p (.dct l)) = some (l.map fun q => keyD q.1) := by simp [oKeys, dctOf, Function.comp_def]
  rw [e]
  show oSort _ = _
  unfold oSort
  rw [if_pos (sortable_str fun d hd => by
    obtain ⟨q, hq, rfl⟩ := List.mem_map.mp hd
    obtain ⟨t, e⟩ := h q hq
    exact ⟨t, by rw [e]; rfl⟩)]
  unfold newLst
  rw [if_pos]
  · rfl
  · unfold okSize
    rw [sortD_len, List.length_map]
    simpa using hl
def rowD (xs : List D) : D := .tup [.str [114, 111, 119], .tup (xs.map fun x => .tup [.str text, x])]
theorem c_texts_row {xs : List D} (hl : xs.length ≤ sizeLine) : callF prog (d + 1) "texts_row" [.lst xs] h = .ok (.val (rowD xs)) ⟨[], h⟩ := by
  rw [callF_is (fn := f_texts_row) rfl rfl]
  have hc := comp_is (C := callF prog d) (cs := []) (e := .tup [.cst (.str [116, 101, 120, 116]), .var 1]) (σ := [some (.val (.lst xs)), none]) (h := h) (i := 1) (b := fun _ => true)
    (f := fun x => .tup [.str text, x]) (ds := xs) (mu := false) (fun z => by cases z) rfl (fun d hd => by simp) (fun d hd _ => by simp [exports, text])
  rw [filter_true] at hc
  have g : okSize (xs.map fun x => D.tup [.str text, x]).length = true := by simpa [okSize] using hl
  rw [newLst, if_pos g] at hc
  simp [f_texts_row, hc, seqOf, lstOf, muOf, run1, rowD]
theorem c_keys_word (hi : h[i]? = some s.cell) (hk : ∀ q ∈ s.held, ∃ t : T, q.1 = .inr t) (hl : s.held.length ≤ 200) (r : List D) :
    callF prog (d + 2) "key_done" [.ref i, .str [107, 101, 121, 115], .lst r] h = .ok (.val (rowD (keysP s.held))) ⟨[], h⟩ := by
  rw [callF_is (fn := f_key_done) rfl rfl]
  have e := c_texts_row (d := d) (h := h) (xs := keysP s.held) (by unfold keysP; rw [sortD_len, List.length_map]; simp [sizeLine]; omega)
  have g : ¬ (200 : Int) < (s.held.length : Int) := by omega
  have k1 := fun hh p => sk_is (hh := hh) (p := p) hk (by simp [sizeLine]; omega)
  simp [f_key_done, run2, recv2, runCmp, datOf, hi, Sto.cell, List.lookup, kcls]
  simp [recv2, run1, oLen, seqOf, lstOf, dctOf, cmpInt, cmpI, g, run2, runCmp, hi, Sto.cell, List.lookup, kcls, k1, e]
end
end KW
/-! KwS8: a key called otherwise; the picture. -/
namespace KW
def setEnd (s : Sto) (k : T) (e : Option D) : Sto := match e with
  | some e => { s with ends := kput (.inr k) e s.ends }
  | none => s
def dBadNone : D := .tup [.str [98, 97, 100], .str [110, 111, 110, 101]]
def renP (s : Sto) (o n : T) : Sto × D := match txtOf s o with
  | none => (s, dBadNone)
  | some t => (setEnd (setS (dropS (dropS s o) n) n text (.str t)) n (kfind (.inr o) s.ends), dDone)
section
variable {d : Nat} {h : List Cell} {i : Nat} {s : Sto} {k t o n : T}
theorem c_renamed (hi : h[i]? = some s.cell) (hz : s.stamps.length + 2 < sizeLine) (hz2 : s.held.length < sizeLine) (hv : ∀ q ∈ s.held, TxtV q.2) (hen : ∀ q ∈ s.ends, ∃ n, q.2 = .int n) (hel : s.ends.length < sizeLine) :
    callF prog (d + 4) "renamed" [.ref i, .str o, .str n] h = .ok (.val (renP s o n).2) ⟨[], h.set i (renP s o n).1.cell⟩ := by
  rw [callF_is (fn := f_renamed) rfl rfl]
  have hh := set_id hi
  have l1 := drop_st s o
  have l2 := drop_st (dropS s o) n
  have l3 := drop_he s o
  have l4 := drop_he (dropS s o) n
  have l5 := drop_enl s o
  have l6 := drop_enl (dropS s o) n
  have v1 : ∀ q ∈ (dropS s o).held, OkV q.2 := fun q hq => txt_ok (hv q (drop_held hq))
  have e1 := c_drop (d := d + 1) (k := o) hi (by omega) fun q hq => txt_ok (hv q hq)
  have e2 := c_drop (d := d + 1) (k := n) (h := h.set i (dropS s o).cell) (i := i) (s := dropS s o) (by simp [hi]) (by omega) v1
  rw [List.set_set] at e2
  have e3 := fun t => c_keepT (d := d) (k := n) (t := t) (h := h.set i (dropS (dropS s o) n).cell) (i := i) (s := dropS (dropS s o) n) (by simp [hi]) (by omega) (by omega)
  simp only [List.set_set] at e3
  have g1 : ∀ c, (h.set i c)[i]? = some c := fun c => by rw [get_set, hi]; rfl
  have g2 : ∀ c, (h.set i c)[i]? = some c := g1
  rcases find_txt (k := o) hv with ⟨k1, k2⟩ | ⟨u, k1, k2, _⟩
  · simp [Sto.cell] at hh
    simp [f_renamed, run2, recv2, runCmp, hi, Sto.cell, List.lookup, kcls, runIn, lstOf, inD, dctOf, k1, renP, k2, dBadNone, hh]
  · simp [Sto.cell, text] at e1 e2 e3 hi
    have g3 : (setS (dropS (dropS s o) n) n text (.str u)).ends.length < sizeLine := by
      show (dropS (dropS s o) n).ends.length < sizeLine
      omega
    cases k3 : kfind (.inr o) s.ends with
    | none =>
      simp [f_renamed, run2, recv2, runCmp, hi, List.lookup, kcls, runIn, lstOf, inD, dctOf, k1, renP, k2, runIdx, seqOf, oIdxD, entOf, bindT, run3, recv3, recv3b, oGet, oGetD, k3, e1, e2, e3, g1, run1, setEnd, dDone, Sto.cell, text]
    | some w =>
      obtain ⟨m, rfl⟩ := hen _ (kfind_mem k3)
      simp [setS, touchS, text] at g3
      simp [f_renamed, run2, recv2, runCmp, hi, List.lookup, kcls, runIn, lstOf, inD, dctOf, k1, renP, k2, runIdx, seqOf, oIdxD, entOf, bindT, run3, recv3, recv3b, oGet, oGetD, k3, e1, e2, e3, g1, run1, setEnd, dDone, Sto.cell, text, runISet, getPl, putPl, fput, g3, setS, touchS]
theorem c_rename (hi : h[i]? = some s.cell) (hz : s.stamps.length + 2 < sizeLine) (hz2 : s.held.length < sizeLine) (hv : ∀ q ∈ s.held, TxtV q.2) (hen : ∀ q ∈ s.ends, ∃ n, q.2 = .int n) (hel : s.ends.length < sizeLine) :
    callF prog (d + 5) "key_done" [.ref i, .str [114, 101, 110, 97, 109, 101], .lst [.str o, .str n]] h = .ok (.val (renP s o n).2) ⟨[], h.set i (renP s o n).1.cell⟩ := by
  rw [callF_is (fn := f_key_done) rfl rfl]
  simp [f_key_done, run2, recv2, runCmp, datOf, runIdx, seqOf, lstOf, oIdxL, atI, ixN, c_renamed hi hz hz2 hv hen hel]
/-! the picture -/
theorem kfind_some {k : Key} {v : D} : ∀ {l : List (Key × D)}, (k, v) ∈ l → ∃ u, kfind k l = some u
  | q :: r, h => by
    unfold kfind
    split
    · exact ⟨_, rfl⟩
    · rename_i z
      rcases List.mem_cons.mp h with h | h
      · exact absurd (by rw [← h]) z
      · exact kfind_some h
def endOf (s : Sto) (k : T) : D := match kfind (.inr k) s.ends with
  | some (.int e) => .int (e - s.now)
  | _ => .non
def rowP (s : Sto) (x : D) : D := match x with
  | .str k => .tup [.str k, .str text, .str ((txtOf s k).getD []), endOf s k]
  | x => x
def picP (s : Sto) : List D := (keysP s.held).map (rowP s)
theorem pic_go {fb : S → R Flow} (hb : ∀ (k : T) (acc : List D) (a b c : Option SV), (∃ t, txtOf s k = some t ∧ kfind (.inr k) s.held = some (.tup [.str text, .str t])) → acc.length < sizeLine →
      ∃ a' b' c', fb ⟨[some (.val (.ref i)), some (.own (.lst acc)), some (.val (.str k)), b, c, none], h⟩ = .ok .next ⟨[some (.val (.ref i)), some (.own (.lst (acc ++ [rowP s (.str k)]))), a', b', c', none], h⟩) :
    ∀ (ds acc : List D) (a b c : Option SV), (∀ x ∈ ds, ∃ k t, x = .str k ∧ txtOf s k = some t ∧ kfind (.inr k) s.held = some (.tup [.str text, .str t])) → acc.length + ds.length ≤ 1000 →
      ∃ a' b' c', forLoop [2] fb ds ⟨[some (.val (.ref i)), some (.own (.lst acc)), a, b, c, none], h⟩ = .ok .next ⟨[some (.val (.ref i)), some (.own (.lst (acc ++ ds.map (rowP s)))), a', b', c', none], h⟩
  | [], acc, a, b, c, _, _ => ⟨a, b, c, by simp [forLoop]⟩
  | x :: r, acc, a, b, c, hx, hl => by
    obtain ⟨k, t, rfl, e1, e2⟩ := hx x (by simp)
    obtain ⟨a', b', c', e⟩ := hb k acc a b c ⟨t, e1, e2⟩ (by simp [sizeLine]; omega)
    obtain ⟨a2, b2, c2, e3⟩ := pic_go hb r (acc ++ [rowP s (.str k)]) a' b' c' (fun y hy => hx y (by simp [hy])) (by simp at hl ⊢; omega)
    refine ⟨a2, b2, c2, ?_⟩
    rw [forLoop]
    simp only [bindT, List.set_cons_succ, List.set_cons_zero]
    rw [e, bind_ok]
    simp only []
    rw [e3]
    simp
theorem keys_txt {l : List (Key × D)} (hs : l = s.held) (hv : ∀ q ∈ s.held, TxtV q.2) (hk : ∀ q ∈ s.held, ∃ t : T, q.1 = .inr t) : ∀ x ∈ keysP l, ∃ k t, x = .str k ∧ txtOf s k = some t ∧ kfind (.inr k) s.held = some (.tup [.str text, .str t]) := by
  subst hs
  intro x hx
  obtain ⟨k, rfl, q, hq, e⟩ := keysP_str hk x hx
  obtain ⟨u, hu⟩ := kfind_some (k := .inr k) (v := q.2) (by rw [← e]; exact hq)
  rcases find_txt (s := s) (k := k) hv with ⟨h1, _⟩ | ⟨t, h1, h2, _⟩
  · rw [h1] at hu; cases hu
  · exact ⟨k, t, rfl, h2, h1⟩
theorem c_picture (hi : h[i]? = some s.cell) (hl : s.held.length ≤ 200) (hv : ∀ q ∈ s.held, TxtV q.2) (hk : ∀ q ∈ s.held, ∃ t : T, q.1 = .inr t) (hen : ∀ q ∈ s.ends, ∃ n, q.2 = .int n) :
    callF prog (d + 1) "Store.picture" [.ref i] h = .ok (.own (.lst (picP s))) ⟨[], h⟩ := by
  rw [callF_is (fn := f_Store_picture) rfl rfl]
  have k1 := fun hh p => sk_is (hh := hh) (p := p) hk (by simp [sizeLine]; omega)
  have hl2 : (keysP s.held).length = s.held.length := by unfold keysP; rw [sortD_len, List.length_map]
  obtain ⟨a, b, c, e⟩ := pic_go (s := s) (i := i) (h := h) (fb := runB (callF prog d) b_Store_picture_0) (fun k acc a b c ⟨t, z1, z2⟩ ha => by
    refine ⟨some (.val (.str k)), some (.val (.str text)), some (.val (.str t)), ?_⟩
    have hr : rowP s (.str k) = .tup [.str k, .str text, .str t, endOf s k] := by simp [rowP, z1]
    rw [hr]
    cases k3 : kfind (.inr k) s.ends with
    | none => simp [hi, Sto.cell, List.lookup, kcls, run2, recv2, runIdx, seqOf, lstOf, dctOf, oIdxD, z2, entOf, bindT, runCmp, runIn, inT, flat, deq, datOf, inD, k3, endOf, text, runMu, getPl, putPl, muL, ha, recvM, runB, b_Store_picture_0]; done
    | some w =>
      obtain ⟨m, rfl⟩ := hen _ (kfind_mem k3)
      simp [hi, Sto.cell, List.lookup, kcls, run2, recv2, runIdx, seqOf, lstOf, dctOf, oIdxD, z2, entOf, bindT, runCmp, runIn, inT, flat, deq, datOf, inD, k3, endOf, text, runMu, getPl, putPl, muL, ha, recvM, oSub, runB, b_Store_picture_0]; done) (keysP s.held) [] none none none (keys_txt rfl hv hk) (by simp; omega)
  simp only [List.nil_append] at e
  simp [f_Store_picture, newLst, okSize, hi, Sto.cell, kcls, List.lookup, run1, k1, seqOf, lstOf, muOf, isK, e, picP]
end
end KW
/-! KwS9: answers. -/
namespace KW
def cntP (w : T) : Option D := match tfind w kt_KEY_WORDS with
  | some p => some p
  | none => match tfind w kt_TEXT_WORDS with
    | some p => some p
    | none => match tfind w kt_ROW_WORDS with
      | some p => some p
      | none => match tfind w kt_SET_WORDS with
        | some p => some p
        | none => match tfind w kt_TABLE_WORDS with
          | some p => some p
          | none => tfind w kt_RANK_WORDS
section
variable {d : Nat} {h : List Cell} {i : Nat} {s : Sto} {k t o n w : T}
theorem c_count : callF prog (d + 1) "count_of" [.str w] h = .ok (.val ((cntP w).getD .non)) ⟨[], h⟩ := by
  rw [callF_is (fn := f_count_of) rfl rfl]
  unfold cntP
  cases e1 : tfind w kt_KEY_WORDS with
  | some p => simp [f_count_of, e1]
  | none =>
    cases e2 : tfind w kt_TEXT_WORDS with
    | some p => simp [f_count_of, e1, e2]
    | none =>
      cases e3 : tfind w kt_ROW_WORDS with
      | some p => simp [f_count_of, e1, e2, e3]
      | none =>
        cases e4 : tfind w kt_SET_WORDS with
        | some p => simp [f_count_of, e1, e2, e3, e4]
        | none =>
          cases e5 : tfind w kt_TABLE_WORDS with
          | some p => simp [f_count_of, e1, e2, e3, e4, e5]
          | none =>
            cases e6 : tfind w kt_RANK_WORDS with
            | some p => simp [f_count_of, e1, e2, e3, e4, e5, e6]
            | none => simp [f_count_of, e1, e2, e3, e4, e5, e6]
theorem c_wrong_ok {xs : List D} {a b : Int} (hc : cntP w = some (.tup [.int a, .int b])) (h1 : a ≤ xs.length) (h2 : (xs.length : Int) ≤ b) : callF prog (d + 2) "wrong" [.str w, .lst xs] h = .ok (.val .non) ⟨[], h⟩ := by
  rw [callF_is (fn := f_wrong) rfl rfl]
  have e := c_count (d := d) (h := h) (w := w)
  rw [hc] at e
  simp at e
  simp [f_wrong, e, run1, run2, recv2, runIdx, seqOf, oIdxL, atI, ixN, oLen, lstOf, runCmp, cmpInt, cmpI, h1, h2]
theorem cut1D (x : D) (xs : List D) : cut (x :: xs) (some 1) none = xs := by
  unfold cut sIx
  simp
  try rw [show min 1 (xs.length + 1) = 1 from by omega]
  try simp
theorem c_answer_key {xs : List D} {a b : Int} {x : RV} {h' : List Cell} (hc : cntP w = some (.tup [.int a, .int b])) (h1 : a ≤ xs.length) (h2 : (xs.length : Int) ≤ b) (h3 : (tfind w kt_KEY_WORDS).isSome = true) (hl : xs.length ≤ 1000)
    (hd : callF prog (d + 2) "key_done" [.ref i, .str w, .lst xs] h = .ok x ⟨[], h'⟩) (hx : isPk x = false) : callF prog (d + 3) "answer" [.ref i, .lst (.str w :: xs)] h = .ok x ⟨[], h'⟩ := by
  rw [callF_is (fn := f_answer) rfl rfl]
  have e := c_wrong_ok (d := d) (h := h) hc h1 h2
  have g : okSize xs.length = true := by simp [okSize, sizeLine]; omega
  have hr : retV x = some x := by
    cases x with
    | pk => cases hx
    | _ => rfl
  simp [f_answer, run2, recv2, runIdx, seqOf, lstOf, oIdxL, atI, ixN, part, runCut, cut1D, newLst, g, frzIt, getPl, putPl, e, run1, h3, hd, hr]
theorem c_answer_text {xs : List D} {a b : Int} {x : RV} {h' : List Cell} (hc : cntP w = some (.tup [.int a, .int b])) (h1 : a ≤ xs.length) (h2 : (xs.length : Int) ≤ b) (h3 : (tfind w kt_KEY_WORDS).isSome = false) (h4 : (tfind w kt_TEXT_WORDS).isSome = true) (hl : xs.length ≤ 1000)
    (hd : callF prog (d + 2) "text_done" [.ref i, .str w, .lst xs] h = .ok x ⟨[], h'⟩) (hx : isPk x = false) : callF prog (d + 3) "answer" [.ref i, .lst (.str w :: xs)] h = .ok x ⟨[], h'⟩ := by
  rw [callF_is (fn := f_answer) rfl rfl]
  have e := c_wrong_ok (d := d) (h := h) hc h1 h2
  have g : okSize xs.length = true := by simp [okSize, sizeLine]; omega
  have hr : retV x = some x := by
    cases x with
    | pk => cases hx
    | _ => rfl
  simp [f_answer, run2, recv2, runIdx, seqOf, lstOf, oIdxL, atI, ixN, part, runCut, cut1D, newLst, g, frzIt, getPl, putPl, e, run1, h3, h4, hd, hr]
end
end KW
/-! KwR1: deeds on rows. -/
namespace KW
def rowK : T := [114, 111, 119]
def keepR (s : Sto) (k : T) (xs : List D) : Sto := if xs = [] then dropS s k else setS s k rowK (.lst xs)
/-- a row stands there -/
def RowV (v : D) : Prop := ∃ ts : List T, v = .tup [.str rowK, .lst (ts.map .str)] ∧ ts ≠ [] ∧ ts.length ≤ 200
theorem row_ok {v : D} (h : RowV v) : OkV v := by
  obtain ⟨t, rfl, _⟩ := h
  rfl
/-- the row under a key -/
def rowOf (s : Sto) (k : T) : List D := match kfind (.inr k) s.held with
  | some (.tup [_, .lst xs]) => xs
  | _ => []
section
variable {d : Nat} {h : List Cell} {i n : Nat} {s : Sto} {k o t w : T} {xs ys : List D}
theorem find_row (hv : ∀ q ∈ s.held, RowV q.2) : (kfind (.inr k) s.held = none ∧ rowOf s k = []) ∨ ∃ ts : List T, kfind (.inr k) s.held = some (.tup [.str rowK, .lst (ts.map .str)]) ∧ rowOf s k = ts.map .str ∧ ts ≠ [] ∧ ts.length ≤ 200 := by
  cases e : kfind (.inr k) s.held with
  | none => exact .inl ⟨rfl, by unfold rowOf; rw [e]⟩
  | some v =>
    obtain ⟨t, rfl, h1, h2⟩ := hv _ (kfind_mem e)
    exact .inr ⟨t, rfl, by unfold rowOf; rw [e], h1, h2⟩
theorem row_len (hv : ∀ q ∈ s.held, RowV q.2) : (rowOf s k).length ≤ 200 := by
  rcases find_row (k := k) hv with ⟨_, e⟩ | ⟨ts, _, e, _, h⟩ <;> rw [e]
  · simp
  · simpa using h
theorem c_keepR (hi : h[i]? = some s.cell) (hz : s.stamps.length < sizeLine) (hz2 : s.held.length < sizeLine) (hv : ∀ q ∈ s.held, OkV q.2) :
    callF prog (d + 3) "Store.keep" [.ref i, .str k, .str [114, 111, 119], .lst xs] h = .ok (.val .non) ⟨[], h.set i (keepR s k xs).cell⟩ := by
  rw [callF_is (fn := f_Store_keep) rfl rfl]
  unfold keepR
  cases xs with
  | nil =>
    have := c_drop (d := d) (k := k) hi hz hv
    simp [Sto.cell] at this hi
    simp [f_Store_keep, hi, Sto.cell, run1, run2, oLen, seqOf, lstOf, runCmp, recv2, List.lookup, datOf, this]
  | cons x r =>
    have := c_changed (d := d + 1) (h := h.set i ({ s with held := kput (.inr k) (.tup [.str rowK, .lst (x :: r)]) s.held } : Sto).cell) (i := i) (s := { s with held := kput (.inr k) (.tup [.str rowK, .lst (x :: r)]) s.held }) (k := k) (by simp [hi]) hz
    simp [Sto.cell, rowK] at this
    have g : ¬ ((r.length : Int) + 1 = 0) := by omega
    simp [f_Store_keep, hi, Sto.cell, kcls, run1, run2, oLen, seqOf, lstOf, runCmp, recv2, List.lookup, datOf, g, runISet, getPl, putPl, fput, hz2, setS, rowK, this]
theorem value_row (hi : h[i]? = some s.cell) (hv : ∀ q ∈ s.held, RowV q.2) : callF prog (d + 1) "Store.value" [.ref i, .str k, .str [114, 111, 119], .lst []] h = .ok (.val (.lst (rowOf s k))) ⟨[], h⟩ := by
  rw [c_value hi fun q hq => row_ok (hv q hq)]
  rcases find_row (k := k) hv with ⟨e1, e2⟩ | ⟨ts, e1, e2, _⟩
  · simp [e1, e2]
  · simp [e1, e2, rowK]
def putP (s : Sto) (w k : T) (row ts : List D) : Sto × D := if ((if w = [102, 105, 114, 115, 116] then ts.reverse ++ row else row ++ ts)).length > 200 then (s, dLong)
  else (keepR s k (if w = [102, 105, 114, 115, 116] then ts.reverse ++ row else row ++ ts), .tup [tNumber, .int ((if w = [102, 105, 114, 115, 116] then ts.reverse ++ row else row ++ ts).length : Nat)])
theorem c_put_rows (hi : h[i]? = some s.cell) (hz : s.stamps.length < sizeLine) (hz2 : s.held.length < sizeLine) (hv : ∀ q ∈ s.held, OkV q.2) (hl : xs.length ≤ 1000) (hy : ys.length ≤ 1000) :
    callF prog (d + 4) "put_in_rows" [.ref i, .str w, .str k, .lst xs, .lst ys] h = .ok (.val (putP s w k xs ys).2) ⟨[], h.set i (putP s w k xs ys).1.cell⟩ := by
  rw [callF_is (fn := f_put_in_rows) rfl rfl]
  have k1 := fun zs => c_keepR (d := d) (k := k) (xs := zs) hi hz hz2 hv
  have hh := set_id hi
  have g1 : okSize ys.length = true := by simp [okSize, sizeLine]; omega
  have g2 : okSize (ys.length + xs.length) = true := by simp [okSize, sizeLine]; omega
  have g3 : okSize (xs.length + ys.length) = true := by simp [okSize, sizeLine]; omega
  unfold putP
  have hm : ∀ (σ : List (Option SV)) (es : List E), kMeth (callF prog (d + 3)) "Store" "keep" es (.ok (.val (.ref i)) ⟨σ, h⟩) = kMeth2 (callF prog (d + 3)) "Store.keep" i (evalEs (callF prog (d + 3)) es ⟨σ, h⟩) := fun σ es => by
    simp [hi, Sto.cell, List.lookup]
  by_cases e : w = [102, 105, 114, 115, 116]
  · by_cases z : 200 < ys.length + xs.length
    · have z2 : (200 : Int) < (ys.length : Int) + (xs.length : Int) := by omega
      simp [f_put_in_rows, run1, run2, recv2, runCmp, datOf, e, oRev, oAdd, lstOf, newLst, g1, g2, oLen, seqOf, cmpInt, cmpI, z, z2, hh, dLong]
    · have z2 : ¬ (200 : Int) < (ys.length : Int) + (xs.length : Int) := by omega
      simp [f_put_in_rows, run1, run2, recv2, runCmp, datOf, e, oRev, oAdd, lstOf, newLst, g1, g2, oLen, seqOf, cmpInt, cmpI, z, z2, hm, getPl, putPl, frzIt, k1, tNumber]
  · by_cases z : 200 < xs.length + ys.length
    · have z2 : (200 : Int) < (xs.length : Int) + (ys.length : Int) := by omega
      simp [f_put_in_rows, run1, run2, recv2, runCmp, datOf, e, oRev, oAdd, lstOf, newLst, g3, oLen, seqOf, cmpInt, cmpI, z, z2, hh, dLong]
    · have z2 : ¬ (200 : Int) < (xs.length : Int) + (ys.length : Int) := by omega
      simp [f_put_in_rows, run1, run2, recv2, runCmp, datOf, e, oRev, oAdd, lstOf, newLst, g3, oLen, seqOf, cmpInt, cmpI, z, z2, hm, getPl, putPl, frzIt, k1, tNumber]
theorem lst_pos {l : List D} (h : l ≠ []) : ¬ l.isEmpty = true := fun z => h (List.isEmpty_iff.mp z)
theorem atI_first {x : D} {r : List D} : atI (x :: r) 0 = some x := by
  unfold atI ixN
  rw [if_pos (by decide), if_pos (by simp)]
  rfl
theorem atI_last {l : List D} {x : D} : atI (l ++ [x]) (-1) = some x := by
  unfold atI ixN
  rw [if_neg (by decide), if_pos (by simp; omega)]
  have : (-1 + (((l ++ [x]).length : Nat) : Int)).toNat = l.length := by simp; omega
  show (l ++ [x])[_]? = _
  rw [this]
  simp
theorem cut_init {l : List D} {x : D} : cut (l ++ [x]) none (some (-1)) = l := by
  unfold cut sIx
  simp
  rw [show (-1 + ((l.length : Int) + 1)).toNat = l.length from by omega]
  simp
theorem cut_last {l : List D} {x : D} : cut (l ++ [x]) (some (-1)) none = [x] := by
  unfold cut sIx
  simp
  rw [show (-1 + ((l.length : Int) + 1)).toNat = l.length from by omega]
  simp
/-- what is taken: from the front -/
theorem c_take_first {x : D} (hi : h[i]? = some s.cell) (hz : s.stamps.length < sizeLine) (hz2 : s.held.length < sizeLine) (hv : ∀ q ∈ s.held, OkV q.2) (hl : xs.length ≤ 1000) :
    callF prog (d + 4) "taken" [.ref i, .str [116, 97, 107, 101, 102, 105, 114, 115, 116], .str k, .lst (x :: xs)] h = .ok (.val (.tup [.str text, x])) ⟨[], h.set i (keepR s k xs).cell⟩ := by
  rw [callF_is (fn := f_taken) rfl rfl]
  have k1 := c_keepR (d := d) (k := k) (xs := xs) hi hz hz2 hv
  have g1 : okSize xs.length = true := by simp [okSize, sizeLine]; omega
  have hm : ∀ (σ : List (Option SV)) (es : List E), kMeth (callF prog (d + 3)) "Store" "keep" es (.ok (.val (.ref i)) ⟨σ, h⟩) = kMeth2 (callF prog (d + 3)) "Store.keep" i (evalEs (callF prog (d + 3)) es ⟨σ, h⟩) := fun σ es => by
    simp [hi, Sto.cell, List.lookup]
  simp [f_taken, run1, run2, recv2, runCmp, datOf, oNeg, runIdx, seqOf, lstOf, oIdxL, atI_first, part, runCut, cut1D, newLst, g1, hm, k1, text]
theorem c_take_last {x : D} (hi : h[i]? = some s.cell) (hz : s.stamps.length < sizeLine) (hz2 : s.held.length < sizeLine) (hv : ∀ q ∈ s.held, OkV q.2) (hl : xs.length ≤ 1000) :
    callF prog (d + 4) "taken" [.ref i, .str [116, 97, 107, 101, 108, 97, 115, 116], .str k, .lst (xs ++ [x])] h = .ok (.val (.tup [.str text, x])) ⟨[], h.set i (keepR s k xs).cell⟩ := by
  rw [callF_is (fn := f_taken) rfl rfl]
  have k1 := c_keepR (d := d) (k := k) (xs := xs) hi hz hz2 hv
  have g1 : okSize xs.length = true := by simp [okSize, sizeLine]; omega
  have hm : ∀ (σ : List (Option SV)) (es : List E), kMeth (callF prog (d + 3)) "Store" "keep" es (.ok (.val (.ref i)) ⟨σ, h⟩) = kMeth2 (callF prog (d + 3)) "Store.keep" i (evalEs (callF prog (d + 3)) es ⟨σ, h⟩) := fun σ es => by
    simp [hi, Sto.cell, List.lookup]
  have he : (xs ++ [x]).isEmpty = false := by cases xs <;> rfl
  simp [f_taken, run1, run2, recv2, runCmp, datOf, oNeg, runIdx, seqOf, lstOf, oIdxL, atI_last, part, runCut, cut_init, newLst, g1, hm, k1, text, he]
theorem c_take_none {w : T} (hi : h[i]? = some s.cell) : callF prog (d + 4) "taken" [.ref i, .str w, .str k, .lst []] h = .ok (.val dNone) ⟨[], h⟩ := by
  rw [callF_is (fn := f_taken) rfl rfl]
  simp [f_taken, dNone]
end
end KW
/-! KwR2: rows carried, sliced. -/
namespace KW
section
variable {d : Nat} {h : List Cell} {i n : Nat} {s : Sto} {k o t w : T} {xs ys : List D}
theorem row_ok_all (hv : ∀ q ∈ s.held, RowV q.2) : ∀ q ∈ s.held, OkV q.2 := fun q hq => row_ok (hv q hq)
theorem row_drop (hv : ∀ q ∈ s.held, RowV q.2) : ∀ q ∈ (dropS s k).held, RowV q.2 := fun q hq => hv q (drop_held hq)
theorem row_set {ts : List T} (hv : ∀ q ∈ s.held, RowV q.2) (h1 : ts ≠ []) (h2 : ts.length ≤ 200) : ∀ q ∈ (setS s k rowK (.lst (ts.map .str))).held, RowV q.2 := fun q hq => by
  rcases kput_sub (show q ∈ kput (.inr k) (.tup [.str rowK, .lst (ts.map .str)]) s.held from hq) with h | rfl
  · exact hv q h
  · exact ⟨ts, rfl, h1, h2⟩
theorem row_keep {ts : List T} (hv : ∀ q ∈ s.held, RowV q.2) (h2 : ts.length ≤ 200) : ∀ q ∈ (keepR s k (ts.map .str)).held, RowV q.2 := by
  unfold keepR
  cases ts with
  | nil => exact row_drop hv
  | cons x r =>
    rw [if_neg (by simp)]
    exact row_set hv (by simp) h2
theorem keep_st (s : Sto) (k : T) (xs : List D) : (keepR s k xs).stamps.length ≤ s.stamps.length + 1 := by
  unfold keepR
  split
  · exact drop_st s k
  · exact kput_len _ _ _
theorem keep_he (s : Sto) (k : T) (xs : List D) : (keepR s k xs).held.length ≤ s.held.length + 1 := by
  unfold keepR
  split
  · exact Nat.le_succ_of_le (drop_he s k)
  · exact kput_len _ _ _
/-- what is carried -/
def carP (s : Sto) (k o : T) (xs : List D) (x : D) : Sto := keepR (keepR s k xs) o ([x] ++ rowOf (keepR s k xs) o)
theorem c_carry_same {x : D} (hi : h[i]? = some s.cell) (hz : s.stamps.length < sizeLine) (hz2 : s.held.length < sizeLine) (hv : ∀ q ∈ s.held, RowV q.2) (hl : xs.length ≤ 1000) :
    callF prog (d + 5) "carried" [.ref i, .str k, .lst (xs ++ [x]), .str k] h = .ok (.val (.tup [.str text, x])) ⟨[], h.set i (keepR s k ([x] ++ xs)).cell⟩ := by
  rw [callF_is (fn := f_carried) rfl rfl]
  have k1 := c_keepR (d := d + 1) (k := k) (xs := x :: xs) hi hz hz2 (row_ok_all hv)
  have k2 := value_row (d := d + 3) (k := k) hi hv
  have g1 : okSize xs.length = true := by simp [okSize, sizeLine]; omega
  have g2 : okSize (1 + xs.length) = true := by simp [okSize, sizeLine]; omega
  have g3 : okSize 1 = true := rfl
  have g0 : okSize 0 = true := rfl
  have hm : ∀ (σ : List (Option SV)) (es : List E), kMeth (callF prog (d + 4)) "Store" "keep" es (.ok (.val (.ref i)) ⟨σ, h⟩) = kMeth2 (callF prog (d + 4)) "Store.keep" i (evalEs (callF prog (d + 4)) es ⟨σ, h⟩) := fun σ es => by
    simp [hi, Sto.cell, List.lookup]
  have hm2 : ∀ (σ : List (Option SV)) (es : List E), kMeth (callF prog (d + 4)) "Store" "value" es (.ok (.val (.ref i)) ⟨σ, h⟩) = kMeth2 (callF prog (d + 4)) "Store.value" i (evalEs (callF prog (d + 4)) es ⟨σ, h⟩) := fun σ es => by
    simp [hi, Sto.cell, List.lookup]
  have he : (xs ++ [x]).isEmpty = false := by cases xs <;> rfl
  simp [f_carried, newLst, hm2, k2, run1, run2, recv2, runCmp, datOf, oNeg, he, part, runCut, lstOf, cut_last, cut_init, g1, g2, g3, oAdd, hm, k1, runIdx, seqOf, oIdxL, atI_last, text, g0]
theorem c_carry_none {o : T} (hi : h[i]? = some s.cell) (hv : ∀ q ∈ s.held, RowV q.2) : callF prog (d + 5) "carried" [.ref i, .str k, .lst [], .str o] h = .ok (.val dNone) ⟨[], h⟩ := by
  rw [callF_is (fn := f_carried) rfl rfl]
  have k2 := value_row (d := d + 3) (k := o) hi hv
  have hm2 : ∀ (σ : List (Option SV)) (es : List E), kMeth (callF prog (d + 4)) "Store" "value" es (.ok (.val (.ref i)) ⟨σ, h⟩) = kMeth2 (callF prog (d + 4)) "Store.value" i (evalEs (callF prog (d + 4)) es ⟨σ, h⟩) := fun σ es => by
    simp [hi, Sto.cell, List.lookup]
  have g3 : okSize 0 = true := rfl
  simp [f_carried, newLst, hm2, k2, run1, run2, recv2, runCmp, datOf, dNone, g3]
theorem c_carry_long {x : D} (hi : h[i]? = some s.cell) (hv : ∀ q ∈ s.held, RowV q.2) (hne : o ≠ k) (hl : (rowOf s o).length = 200) :
    callF prog (d + 5) "carried" [.ref i, .str k, .lst (xs ++ [x]), .str o] h = .ok (.val dLong) ⟨[], h⟩ := by
  rw [callF_is (fn := f_carried) rfl rfl]
  have k2 := value_row (d := d + 3) (k := o) hi hv
  have hm2 : ∀ (σ : List (Option SV)) (es : List E), kMeth (callF prog (d + 4)) "Store" "value" es (.ok (.val (.ref i)) ⟨σ, h⟩) = kMeth2 (callF prog (d + 4)) "Store.value" i (evalEs (callF prog (d + 4)) es ⟨σ, h⟩) := fun σ es => by
    simp [hi, Sto.cell, List.lookup]
  have he : (xs ++ [x]).isEmpty = false := by cases xs <;> rfl
  have g3 : okSize 0 = true := rfl
  simp [f_carried, newLst, hm2, k2, run1, run2, recv2, runCmp, datOf, he, hne, oLen, seqOf, lstOf, hl, dLong, g3]
theorem c_carry {x : D} (hi : h[i]? = some s.cell) (hz : s.stamps.length + 2 < sizeLine) (hz2 : s.held.length + 2 < sizeLine) (hv : ∀ q ∈ s.held, RowV q.2) (hv2 : ∀ q ∈ (keepR s k xs).held, RowV q.2) (hl : xs.length ≤ 1000) (hne : o ≠ k) (hlo : (rowOf s o).length ≠ 200) (hlo2 : (rowOf (keepR s k xs) o).length < 200) :
    callF prog (d + 5) "carried" [.ref i, .str k, .lst (xs ++ [x]), .str o] h = .ok (.val (.tup [.str text, x])) ⟨[], h.set i (carP s k o xs x).cell⟩ := by
  rw [callF_is (fn := f_carried) rfl rfl]
  have l1 := keep_st s k xs
  have l2 := keep_he s k xs
  have k1 := c_take_last (d := d) (k := k) (xs := xs) (x := x) hi (by omega) (by omega) (row_ok_all hv) hl
  have k2 := value_row (d := d + 3) (k := o) hi hv
  have hi2 : (h.set i (keepR s k xs).cell)[i]? = some (keepR s k xs).cell := by rw [get_set, hi]; rfl
  have k3 := value_row (d := d + 3) (k := o) hi2 hv2
  have k4 := c_put_rows (d := d) (w := [102, 105, 114, 115, 116]) (k := o) (xs := rowOf (keepR s k xs) o) (ys := [x]) hi2 (by omega) (by omega) (row_ok_all hv2) (by omega) (by simp)
  have e4 : putP (keepR s k xs) [102, 105, 114, 115, 116] o (rowOf (keepR s k xs) o) [x] = (carP s k o xs x, .tup [tNumber, .int (([x] ++ rowOf (keepR s k xs) o).length : Nat)]) := by
    unfold putP carP
    simp
    omega
  rw [e4, List.set_set] at k4
  have hm2 : ∀ (σ : List (Option SV)) (es : List E), kMeth (callF prog (d + 4)) "Store" "value" es (.ok (.val (.ref i)) ⟨σ, h⟩) = kMeth2 (callF prog (d + 4)) "Store.value" i (evalEs (callF prog (d + 4)) es ⟨σ, h⟩) := fun σ es => by
    simp [hi, Sto.cell, List.lookup]
  have hm3 : ∀ (σ : List (Option SV)) (es : List E), kMeth (callF prog (d + 4)) "Store" "value" es (.ok (.val (.ref i)) ⟨σ, h.set i (keepR s k xs).cell⟩) = kMeth2 (callF prog (d + 4)) "Store.value" i (evalEs (callF prog (d + 4)) es ⟨σ, h.set i (keepR s k xs).cell⟩) := fun σ es => by
    simp [hi, Sto.cell, List.lookup]
  have he : (xs ++ [x]).isEmpty = false := by cases xs <;> rfl
  have g3 : okSize 0 = true := rfl
  have g4 : okSize 1 = true := rfl
  have g5 : ¬ (((rowOf s o).length : Int) = 200) := by omega
  unfold text at k1 ⊢
  simp [f_carried, newLst, hm2, k2, run1, run2, recv2, runCmp, datOf, he, hne, oLen, seqOf, lstOf, g5, g3, k1, hm3, k3, runIdx, oIdxL, atI, ixN, g4, k4]
end
end KW
/-! KwR3: slices; deeds on rows by their words. -/
namespace KW
def loI (n : Nat) (f : Int) : Int := if f < 0 then (if f + n > 0 then f + n else 0) else f
def hiI (n : Nat) (l : Int) : Int := if l < 0 then l + n else l
def sliceP (xs : List D) (f l : Int) : List D := if loI xs.length f ≤ hiI xs.length l then (xs.drop (loI xs.length f).toNat).take (hiI xs.length l + 1 - loI xs.length f).toNat else []
theorem lo_pos (n : Nat) (f : Int) : 0 ≤ loI n f := by
  unfold loI
  split
  · split <;> omega
  · omega
theorem cut_is {α : Type} (xs : List α) {f l : Int} (h1 : 0 ≤ f) (h2 : f ≤ l) : cut xs (some f) (some (l + 1)) = (xs.drop f.toNat).take (l + 1 - f).toNat := by
  unfold cut sIx
  simp only []
  rw [if_neg (by omega), if_neg (by omega)]
  by_cases z : f.toNat ≤ xs.length
  · rw [Nat.min_eq_left z]
    by_cases y : (l + 1).toNat ≤ xs.length
    · rw [Nat.min_eq_left y]
      congr 1
      omega
    · rw [Nat.min_eq_right (by omega)]
      rw [List.take_of_length_le (by simp), List.take_of_length_le (by simp; omega)]
  · rw [show min f.toNat xs.length = xs.length from by omega, List.drop_length, List.take_nil]
    rw [List.drop_eq_nil_of_le (by omega), List.take_nil]
def inB (lo hi : Int) (d : D) : Bool := match d with
  | .int k => decide (lo ≤ k) && decide (k ≤ hi)
  | _ => false
theorem sl_go {f : D → D} {lo hi : Int} (hlh : lo ≤ hi) : ∀ (xs : List D) (a : Int), (∀ (j : Nat) (h : j < xs.length), f (.int (a + j)) = xs[j]) →
    ((range' a 1 xs.length).filter (inB lo hi)).map f = (xs.drop (lo - a).toNat).take (hi + 1 - (if lo ≤ a then a else lo)).toNat
  | [], a, _ => by simp [range']
  | x :: r, a, hf => by
    have ih := sl_go hlh r (a + 1) fun j hj => by
      have := hf (j + 1) (by simp; omega)
      simp only [List.getElem_cons_succ] at this
      rw [← this]
      congr 2
      push_cast
      omega
    have h0 : f (.int a) = x := by
      have := hf 0 (by simp)
      simpa using this
    rw [List.length_cons, range', List.filter_cons]
    by_cases z1 : lo ≤ a
    · by_cases z2 : a ≤ hi
      · have : inB lo hi (.int a) = true := by simp [inB, z1, z2]
        rw [if_pos this, List.map_cons, h0, ih, if_pos z1, if_pos (by omega)]
        rw [show (lo - a).toNat = 0 from by omega, show (lo - (a + 1)).toNat = 0 from by omega, List.drop_zero, List.drop_zero]
        rw [show (hi + 1 - a).toNat = (hi + 1 - (a + 1)).toNat + 1 from by omega, List.take_succ_cons]
      · have : inB lo hi (.int a) = false := by simp [inB, z1, z2]
        rw [if_neg (by rw [this]; exact Bool.false_ne_true), ih, if_pos z1, if_pos (by omega)]
        rw [show (hi + 1 - (a + 1)).toNat = 0 from by omega, show (hi + 1 - a).toNat = 0 from by omega, List.take_zero, List.take_zero]
    · have : inB lo hi (.int a) = false := by simp [inB, z1]
      rw [if_neg (by rw [this]; exact Bool.false_ne_true), ih, if_neg z1]
      rw [show (lo - a).toNat = (lo - (a + 1)).toNat + 1 from by omega, List.drop_succ_cons]
      congr 2
      split <;> omega
theorem sl_none {lo hi : Int} (h : ¬ lo ≤ hi) (ds : List D) : ds.filter (inB lo hi) = [] := by
  rw [List.filter_eq_nil_iff]
  intro d _
  cases d with
  | int k => simp [inB]; omega
  | _ => simp [inB]
section
variable {d : Nat} {h : List Cell} {i n : Nat} {s : Sto} {k o t w : T} {xs ys : List D} {f l : Int}
theorem slice_len : (sliceP xs f l).length ≤ xs.length := by
  unfold sliceP
  split
  · simp; omega
  · simp
theorem c_between (hl : xs.length ≤ 1000) : callF prog (d + 1) "between" [.lst xs, .int f, .int l] h = .ok (.own (.lst (sliceP xs f l))) ⟨[], h⟩ := by
  rw [callF_is (fn := f_between) rfl rfl]
  have g0 : okSize 0 = true := rfl
  unfold sliceP
  generalize hlo : loI xs.length f = lo
  generalize hhi : hiI xs.length l = hi
  have p := lo_pos xs.length f
  rw [hlo] at p
  have e1 : (if f < 0 then (if f + (xs.length : Int) > 0 then f + (xs.length : Int) else 0) else f) = lo := hlo
  have e2 : (if l < 0 then l + (xs.length : Int) else l) = hi := hhi
  have key : kFn (execs (callF prog d) (f_between.body.drop 3) ⟨[some (.val (.lst xs)), some (.val (.int lo)), some (.val (.int hi)), some (.val (.int xs.length))], h⟩) = .ok (.own (.lst (if lo ≤ hi then (xs.drop lo.toNat).take (hi + 1 - lo).toNat else []))) ⟨[], h⟩ := by
    by_cases z : lo ≤ hi
    · have g : okSize (min (hi + 1 - lo).toNat (xs.length - lo.toNat)) = true := by
        simp [okSize, sizeLine]
        omega
      have ez : ¬ hi < lo := by omega
      simp [f_between, run2, recv2, runCmp, cmpInt, cmpI, z, run3, recv3, recv3b, part, oAdd, runCut, lstOf, cut_is xs p z, newLst, g, run1, seqOf]
    · simp [f_between, run2, recv2, runCmp, cmpInt, cmpI, z, newLst, g0]
  simp [f_between] at key
  rw [← key]
  by_cases z1 : f < 0
  · rw [if_pos z1] at e1
    by_cases z3 : f + (xs.length : Int) > 0
    · rw [if_pos z3] at e1
      by_cases z2 : l < 0
      · rw [if_pos z2] at e2
        subst e1 e2
        simp [f_between, run1, run2, recv2, oLen, seqOf, lstOf, runCmp, cmpInt, cmpI, z1, z2, oAdd, oMax2, z3]
      · rw [if_neg z2] at e2
        subst e1 e2
        simp [f_between, run1, run2, recv2, oLen, seqOf, lstOf, runCmp, cmpInt, cmpI, z1, z2, oAdd, oMax2, z3]
    · rw [if_neg z3] at e1
      have z3' : ¬ 0 < f + (xs.length : Int) := z3
      by_cases z2 : l < 0
      · rw [if_pos z2] at e2
        subst e1 e2
        simp [f_between, run1, run2, recv2, oLen, seqOf, lstOf, runCmp, cmpInt, cmpI, z1, z2, oAdd, oMax2, z3']
      · rw [if_neg z2] at e2
        subst e1 e2
        simp [f_between, run1, run2, recv2, oLen, seqOf, lstOf, runCmp, cmpInt, cmpI, z1, z2, oAdd, oMax2, z3']
  · rw [if_neg z1] at e1
    by_cases z2 : l < 0
    · rw [if_pos z2] at e2
      subst e1 e2
      simp [f_between, run1, run2, recv2, oLen, seqOf, lstOf, runCmp, cmpInt, cmpI, z1, z2, oAdd]
    · rw [if_neg z2] at e2
      subst e1 e2
      simp [f_between, run1, run2, recv2, oLen, seqOf, lstOf, runCmp, cmpInt, cmpI, z1, z2, oAdd]
/-! by their words -/
theorem hmV (hi : h[i]? = some s.cell) (D : Nat) : ∀ (σ : List (Option SV)) (es : List E), kMeth (callF prog D) "Store" "value" es (.ok (.val (.ref i)) ⟨σ, h⟩) = kMeth2 (callF prog D) "Store.value" i (evalEs (callF prog D) es ⟨σ, h⟩) := fun σ es => by
  simp [hi, Sto.cell, List.lookup]
def slD (xs : List D) (f l : T) : D := match numIn f, numIn l with
  | some a, some b => rowD (sliceP xs a b)
  | _, _ => dNumber
theorem c_row_put (hw : w = [102, 105, 114, 115, 116] ∨ w = [108, 97, 115, 116]) (hi : h[i]? = some s.cell) (hz : s.stamps.length < sizeLine) (hz2 : s.held.length < sizeLine) (hv : ∀ q ∈ s.held, RowV q.2) (hy : ys.length ≤ 1000) :
    callF prog (d + 5) "row_done" [.ref i, .str w, .lst (.str k :: ys)] h = .ok (.val (putP s w k (rowOf s k) ys).2) ⟨[], h.set i (putP s w k (rowOf s k) ys).1.cell⟩ := by
  rw [callF_is (fn := f_row_done) rfl rfl]
  have k1 := value_row (d := d + 3) (k := k) hi hv
  have hl := row_len (k := k) hv
  have k2 := c_put_rows (d := d) (w := w) (k := k) (xs := rowOf s k) (ys := ys) hi hz hz2 (row_ok_all hv) (by omega) hy
  have hm := hmV hi (d + 4)
  have g0 : okSize 0 = true := rfl
  have g1 : okSize ys.length = true := by simp [okSize, sizeLine]; omega
  have p0 : (0 : Int) < (ys.length : Int) + 1 := by omega
  rcases hw with rfl | rfl <;>
    simp [f_row_done, run1, run2, recv2, runIdx, seqOf, lstOf, oIdxL, atI, ixN, p0, newLst, g0, hm, k1, runCmp, runIn, inT, flat, deq, datOf, part, runCut, cut1D, g1, k2]
theorem c_row_take_none (hw : w = [116, 97, 107, 101, 102, 105, 114, 115, 116] ∨ w = [116, 97, 107, 101, 108, 97, 115, 116]) (hi : h[i]? = some s.cell) (hv : ∀ q ∈ s.held, RowV q.2) (hr : rowOf s k = []) :
    callF prog (d + 5) "row_done" [.ref i, .str w, .lst [.str k]] h = .ok (.val dNone) ⟨[], h⟩ := by
  rw [callF_is (fn := f_row_done) rfl rfl]
  have k1 := value_row (d := d + 3) (k := k) hi hv
  rw [hr] at k1
  have k2 := c_take_none (d := d) (k := k) (w := w) hi
  have hm := hmV hi (d + 4)
  have g0 : okSize 0 = true := rfl
  rcases hw with rfl | rfl <;>
    simp [f_row_done, run1, run2, recv2, runIdx, seqOf, lstOf, oIdxL, atI, ixN, newLst, g0, hm, k1, runCmp, runIn, inT, flat, deq, datOf, k2]
theorem c_row_first {x : D} (hi : h[i]? = some s.cell) (hz : s.stamps.length < sizeLine) (hz2 : s.held.length < sizeLine) (hv : ∀ q ∈ s.held, RowV q.2) (hr : rowOf s k = x :: xs) :
    callF prog (d + 5) "row_done" [.ref i, .str [116, 97, 107, 101, 102, 105, 114, 115, 116], .lst [.str k]] h = .ok (.val (.tup [.str text, x])) ⟨[], h.set i (keepR s k xs).cell⟩ := by
  rw [callF_is (fn := f_row_done) rfl rfl]
  have k1 := value_row (d := d + 3) (k := k) hi hv
  have hl := row_len (k := k) hv
  rw [hr] at k1 hl
  have k2 := c_take_first (d := d) (k := k) (xs := xs) (x := x) hi hz hz2 (row_ok_all hv) (by simp at hl; omega)
  have hm := hmV hi (d + 4)
  have g0 : okSize 0 = true := rfl
  simp [f_row_done, run1, run2, recv2, runIdx, seqOf, lstOf, oIdxL, atI, ixN, newLst, g0, hm, k1, runCmp, runIn, inT, flat, deq, datOf, k2]
theorem c_row_last {x : D} (hi : h[i]? = some s.cell) (hz : s.stamps.length < sizeLine) (hz2 : s.held.length < sizeLine) (hv : ∀ q ∈ s.held, RowV q.2) (hr : rowOf s k = xs ++ [x]) :
    callF prog (d + 5) "row_done" [.ref i, .str [116, 97, 107, 101, 108, 97, 115, 116], .lst [.str k]] h = .ok (.val (.tup [.str text, x])) ⟨[], h.set i (keepR s k xs).cell⟩ := by
  rw [callF_is (fn := f_row_done) rfl rfl]
  have k1 := value_row (d := d + 3) (k := k) hi hv
  have hl := row_len (k := k) hv
  rw [hr] at k1 hl
  have k2 := c_take_last (d := d) (k := k) (xs := xs) (x := x) hi hz hz2 (row_ok_all hv) (by simp at hl; omega)
  have hm := hmV hi (d + 4)
  have g0 : okSize 0 = true := rfl
  simp [f_row_done, run1, run2, recv2, runIdx, seqOf, lstOf, oIdxL, atI, ixN, newLst, g0, hm, k1, runCmp, runIn, inT, flat, deq, datOf, k2]
theorem c_row_many (hi : h[i]? = some s.cell) (hv : ∀ q ∈ s.held, RowV q.2) :
    callF prog (d + 5) "row_done" [.ref i, .str [109, 97, 110, 121], .lst [.str k]] h = .ok (.val (.tup [tNumber, .int (rowOf s k).length])) ⟨[], h⟩ := by
  rw [callF_is (fn := f_row_done) rfl rfl]
  have k1 := value_row (d := d + 3) (k := k) hi hv
  have hm := hmV hi (d + 4)
  have g0 : okSize 0 = true := rfl
  simp [f_row_done, run1, run2, recv2, runIdx, seqOf, lstOf, oIdxL, atI, ixN, newLst, g0, hm, k1, runCmp, runIn, inT, flat, deq, datOf, oLen, tNumber]
theorem c_row_carry {x : RV} {h' : List Cell} (hi : h[i]? = some s.cell) (hv : ∀ q ∈ s.held, RowV q.2) (hc : callF prog (d + 5) "carried" [.ref i, .str k, .lst (rowOf s k), .str o] h = .ok x ⟨[], h'⟩) (hx : isPk x = false) :
    callF prog (d + 6) "row_done" [.ref i, .str [99, 97, 114, 114, 121], .lst [.str k, .str o]] h = .ok x ⟨[], h'⟩ := by
  rw [callF_is (fn := f_row_done) rfl rfl]
  have k1 := value_row (d := d + 4) (k := k) hi hv
  have hm := hmV hi (d + 5)
  have g0 : okSize 0 = true := rfl
  have hr : retV x = some x := by
    cases x with
    | pk => cases hx
    | _ => rfl
  simp [f_row_done, run1, run2, recv2, runIdx, seqOf, lstOf, oIdxL, atI, ixN, newLst, g0, hm, k1, runCmp, runIn, inT, flat, deq, datOf, hc, hr]
theorem c_row_slice {f l : T} (hi : h[i]? = some s.cell) (hv : ∀ q ∈ s.held, RowV q.2) :
    callF prog (d + 5) "row_done" [.ref i, .str [115, 108, 105, 99, 101], .lst [.str k, .str f, .str l]] h = .ok (.val (slD (rowOf s k) f l)) ⟨[], h⟩ := by
  rw [callF_is (fn := f_row_done) rfl rfl]
  have k1 := value_row (d := d + 3) (k := k) hi hv
  have hl := row_len (k := k) hv
  have hm := hmV hi (d + 4)
  have g0 : okSize 0 = true := rfl
  unfold slD
  cases e1 : numIn f with
  | none => simp [f_row_done, run1, run2, recv2, runIdx, seqOf, lstOf, oIdxL, atI, ixN, newLst, g0, hm, k1, runCmp, runIn, inT, flat, deq, datOf, c_number_in, e1, numD, dNumber]
  | some a =>
    cases e2 : numIn l with
    | none => simp [f_row_done, run1, run2, recv2, runIdx, seqOf, lstOf, oIdxL, atI, ixN, newLst, g0, hm, k1, runCmp, runIn, inT, flat, deq, datOf, c_number_in, e1, e2, numD, dNumber]
    | some b =>
      have k2 := c_between (d := d + 3) (h := h) (xs := rowOf s k) (f := a) (l := b) (by omega)
      have k3 := c_texts_row (d := d + 3) (h := h) (xs := sliceP (rowOf s k) a b) (by have := slice_len (xs := rowOf s k) (f := a) (l := b); simp [sizeLine]; omega)
      simp [f_row_done, run1, run2, recv2, runIdx, seqOf, lstOf, oIdxL, atI, ixN, newLst, g0, hm, k1, runCmp, runIn, inT, flat, deq, datOf, c_number_in, e1, e2, numD, k2, k3]
theorem c_answer_row {xs : List D} {a b : Int} {x : RV} {h' : List Cell} (hc : cntP w = some (.tup [.int a, .int b])) (h1 : a ≤ xs.length) (h2 : (xs.length : Int) ≤ b) (h3 : (tfind w kt_KEY_WORDS).isSome = false) (h4 : (tfind w kt_TEXT_WORDS).isSome = false) (h5 : (tfind w kt_ROW_WORDS).isSome = true) (hl : xs.length ≤ 1000)
    (hd : callF prog (d + 2) "row_done" [.ref i, .str w, .lst xs] h = .ok x ⟨[], h'⟩) (hx : isPk x = false) : callF prog (d + 3) "answer" [.ref i, .lst (.str w :: xs)] h = .ok x ⟨[], h'⟩ := by
  rw [callF_is (fn := f_answer) rfl rfl]
  have e := c_wrong_ok (d := d) (h := h) hc h1 h2
  have g : okSize xs.length = true := by simp [okSize, sizeLine]; omega
  have hr : retV x = some x := by
    cases x with
    | pk => cases hx
    | _ => rfl
  simp [f_answer, run2, recv2, runIdx, seqOf, lstOf, oIdxL, atI, ixN, part, runCut, cut1D, newLst, g, frzIt, getPl, putPl, e, run1, h3, h4, h5, hd, hr]
end
end KW
/-! KwL1: the law's own store. -/
namespace KW
def lawKvs (t : Sto) : List (Key × SV) := [(.inr [104, 101, 108, 100], .val (.ref 2)), (.inr [101, 110, 100, 115], .val (.ref 3)), (.inr [110, 111, 119], .val (.int t.now)), (.inr [115, 116, 97, 109, 112], .val (.int t.stamp)), (.inr [115, 116, 97, 109, 112, 115], .val (.ref 4))]
def dC (l : List (Key × D)) : Cell := .dct (l.map fun q => (q.1, SV.val q.2))
def lh (c0 c1 : Cell) (t : Sto) : List Cell := [c0, c1, dC t.held, dC t.ends, dC t.stamps, .dct (lawKvs t)]
section
variable {c0 c1 : Cell} {s : Sto} {l : List (Key × D)}
@[simp] theorem lh2 : (lh c0 c1 s)[2]? = some (.dct (s.held.map fun q => (q.1, SV.val q.2))) := rfl
@[simp] theorem lh3 : (lh c0 c1 s)[3]? = some (.dct (s.ends.map fun q => (q.1, SV.val q.2))) := rfl
@[simp] theorem lh4 : (lh c0 c1 s)[4]? = some (.dct (s.stamps.map fun q => (q.1, SV.val q.2))) := rfl
@[simp] theorem lh5 : (lh c0 c1 s)[5]? = some (.dct (lawKvs s)) := rfl
@[simp] theorem lk_held : kfind (.inr [104, 101, 108, 100]) (lawKvs s) = some (.val (.ref 2)) := rfl
@[simp] theorem lk_ends : kfind (.inr [101, 110, 100, 115]) (lawKvs s) = some (.val (.ref 3)) := rfl
@[simp] theorem lk_now : kfind (.inr [110, 111, 119]) (lawKvs s) = some (.val (.int s.now)) := rfl
@[simp] theorem lk_stamp : kfind (.inr [115, 116, 97, 109, 112]) (lawKvs s) = some (.val (.int s.stamp)) := rfl
@[simp] theorem lk_stamps : kfind (.inr [115, 116, 97, 109, 112, 115]) (lawKvs s) = some (.val (.ref 4)) := rfl
@[simp] theorem lk_len : (lawKvs s).length = 5 := rfl
@[simp] theorem lk_put (n : Int) : kput (.inr [115, 116, 97, 109, 112]) (.val (.int n)) (lawKvs s) = lawKvs { s with stamp := n } := rfl
@[simp] theorem lk_putN (n : Int) : kput (.inr [110, 111, 119]) (.val (.int n)) (lawKvs s) = lawKvs { s with now := n } := rfl
@[simp] theorem ls2 : (lh c0 c1 s).set 2 (.dct (l.map fun q => (q.1, SV.val q.2))) = lh c0 c1 { s with held := l } := rfl
@[simp] theorem ls3 : (lh c0 c1 s).set 3 (.dct (l.map fun q => (q.1, SV.val q.2))) = lh c0 c1 { s with ends := l } := rfl
@[simp] theorem ls4 : (lh c0 c1 s).set 4 (.dct (l.map fun q => (q.1, SV.val q.2))) = lh c0 c1 { s with stamps := l } := rfl
@[simp] theorem ls5 (n : Int) : (lh c0 c1 s).set 5 (.dct (lawKvs { s with stamp := n })) = lh c0 c1 { s with stamp := n } := rfl
end
section
variable {d : Nat} {c0 c1 : Cell} {s : Sto} {k t o n w : T}
theorem l_touch (hz : s.stamps.length < sizeLine) : callF prog (d + 1) "_law_touch" [.ref 5, .str k] (lh c0 c1 s) = .ok (.val .non) ⟨[], lh c0 c1 (touchS s k)⟩ := by
  rw [callF_is (fn := f__law_touch) rfl rfl]
  have e : (lh c0 c1 s).set 5 (.dct (lawKvs { s with stamp := s.stamp + 1 })) = lh c0 c1 { s with stamp := s.stamp + 1 } := rfl
  simp [f__law_touch, run2, recv2, runIdx, seqOf, lstOf, dctOf, oIdxD, entOf, oAdd, runISet, touchS, hz, e, show 5 < sizeLine from by decide]
theorem l_drop (hz : s.stamps.length < sizeLine) : callF prog (d + 2) "_law_drop" [.ref 5, .str k] (lh c0 c1 s) = .ok (.val (.int (if (kfind (.inr k) s.held).isSome then 1 else 0))) ⟨[], lh c0 c1 (dropS s k)⟩ := by
  rw [callF_is (fn := f__law_drop) rfl rfl]
  have := l_touch (d := d) (c0 := c0) (c1 := c1) (s := { s with ends := kdel (.inr k) s.ends, held := kdel (.inr k) s.held }) (k := k) hz
  cases e1 : kfind (.inr k) s.ends with
  | none =>
    rw [kdel_none e1] at this
    have e0 : lh c0 c1 { held := s.held, ends := s.ends, stamps := s.stamps, now := s.now, stamp := s.stamp } = lh c0 c1 s := rfl
    cases e2 : kfind (.inr k) s.held with
    | none => simp [f__law_drop, run2, recv2, recvM, runIdx, seqOf, lstOf, dctOf, oIdxD, entOf, runMu, muD, e1, e2, runCmp, runIn, inD, dropS, kdel_none e1]
    | some v => simp [f__law_drop, run2, recv2, recvM, runIdx, seqOf, lstOf, dctOf, oIdxD, entOf, runMu, muD, e1, e2, runCmp, runIn, inD, dropS, kdel_none e1, this]
  | some u =>
    cases e2 : kfind (.inr k) s.held with
    | none => simp [f__law_drop, run2, recv2, recvM, runIdx, seqOf, lstOf, dctOf, oIdxD, entOf, runMu, muD, e1, e2, runCmp, runIn, inD, dropS]
    | some v => simp [f__law_drop, run2, recv2, recvM, runIdx, seqOf, lstOf, dctOf, oIdxD, entOf, runMu, muD, e1, e2, runCmp, runIn, inD, dropS, this]
theorem l_keepT (hz : s.stamps.length < sizeLine) (hz2 : s.held.length < sizeLine) : callF prog (d + 2) "_law_keep" [.ref 5, .str k, .str text, .str t] (lh c0 c1 s) = .ok (.val .non) ⟨[], lh c0 c1 (setS s k text (.str t))⟩ := by
  rw [callF_is (fn := f__law_keep) rfl rfl]
  have := l_touch (d := d) (c0 := c0) (c1 := c1) (s := { s with held := kput (.inr k) (.tup [.str text, .str t]) s.held }) (k := k) hz
  unfold text at this ⊢
  simp [f__law_keep, run2, recv2, recvM, runIdx, seqOf, lstOf, dctOf, oIdxD, entOf, runCmp, datOf, runISet, hz2, this, setS]
theorem l_has (hv : ∀ q ∈ s.held, TxtV q.2) {z : D} : callF prog (d + 1) "_law_has" [.ref 5, .str k, .str text, z] (lh c0 c1 s) = .ok (.val (match txtOf s k with
      | some t => .str t
      | none => z)) ⟨[], lh c0 c1 s⟩ := by
  rw [callF_is (fn := f__law_has) rfl rfl]
  rcases find_txt (k := k) hv with ⟨e1, e2⟩ | ⟨u, e1, e2, _⟩
  · simp [f__law_has, run2, recv2, runIdx, seqOf, lstOf, dctOf, oIdxD, entOf, runCmp, runIn, inD, e1, e2]
  · simp [f__law_has, run2, recv2, runIdx, seqOf, lstOf, dctOf, oIdxD, entOf, runCmp, runIn, inD, e1, e2, oIdxL, atI, ixN, datOf]
theorem l_texts {xs : List D} {h : List Cell} (hl : xs.length ≤ sizeLine) : callF prog (d + 1) "_law_texts" [.lst xs] h = .ok (.val (rowD xs)) ⟨[], h⟩ := by
  rw [callF_is (fn := f__law_texts) rfl rfl]
  have hc := comp_is (C := callF prog d) (cs := []) (e := .tup [.cst (.str [116, 101, 120, 116]), .var 1]) (σ := [some (.val (.lst xs)), none]) (h := h) (i := 1) (b := fun _ => true)
    (f := fun x => .tup [.str text, x]) (ds := xs) (mu := false) (fun z => by cases z) rfl (fun d hd => by simp) (fun d hd _ => by simp [exports, text])
  rw [filter_true] at hc
  have g : okSize (xs.map fun x => D.tup [.str text, x]).length = true := by simpa [okSize] using hl
  rw [newLst, if_pos g] at hc
  simp [f__law_texts, hc, seqOf, lstOf, muOf, run1, rowD]
end
end KW
/-! KwL2: the law's numbers, its picture. -/
namespace KW
theorem datas_str (l : List Nat) : isDatas (l.map fun c => D.str [c]) = true := by
  induction l with
  | nil => rfl
  | cons c r ih => simp [isDatas, isData, ih]
theorem deps_str (l : List Nat) : deps (l.map fun c => D.str [c]) = 0 := by
  induction l with
  | nil => rfl
  | cons c r ih => simp [deps, dep, ih]
theorem eqD_strs (l : List Nat) : eqD (.lst (l.map fun c => D.str [c])) (.lst []) = some l.isEmpty := by
  unfold eqD
  rw [if_pos]
  · cases l <;> rfl
  · simp [shaped, isData, datas_str, dep, deps_str, isDatas, deps]
theorem filt_chr (p : Nat → Bool) (g : D → Bool) (hg : ∀ t, g (.str [t]) = p t) : ∀ ks : List Nat, (ks.map fun c => D.str [c]).filter g = (ks.filter p).map fun c => D.str [c]
  | [] => rfl
  | k :: r => by
    rw [List.map_cons, List.filter_cons, List.filter_cons, hg, filt_chr p g hg r]
    split <;> rfl
theorem filt_none {l : List Nat} : (l.filter fun c => !isF c).isEmpty = l.all isF := by
  induction l with
  | nil => rfl
  | cons c r ih =>
    rw [List.filter_cons, List.all_cons]
    cases isF c with
    | true => simpa using ih
    | false => rfl
theorem isF_or (c : Nat) : (c = 48 ∨ c = 49 ∨ c = 50 ∨ c = 51 ∨ c = 52 ∨ c = 53 ∨ c = 54 ∨ c = 55 ∨ c = 56 ∨ c = 57) ↔ isF c = true := by
  unfold isF
  simp only [Bool.and_eq_true, decide_eq_true_eq]
  omega
theorem take1_is (t : T) : (List.take 1 t = [45]) ↔ t.head? = some 45 := by
  cases t with
  | nil => simp
  | cons c r => simp
theorem l_number {d : Nat} {h : List Cell} {t : T} : callF prog (d + 1) "_law_number" [.str t] h = .ok (.val (numD (numIn t))) ⟨[], h⟩ := by
  rw [callF_is (fn := f__law_number) rfl rfl]
  have hc := comp_is (C := callF prog d) (cs := [.p2 (.cmp .notIn) (.var 2) (.cst (.str [48, 49, 50, 51, 52, 53, 54, 55, 56, 57]))]) (e := .var 2) (σ := [some (.val (.str t)), some (.val (.str (figs t))), none]) (h := h) (i := 2) (b := fun d => match d with
      | .str [c] => !isF c
      | _ => false) (f := fun d => d) (ds := (figs t).map fun c => .str [c]) (mu := false) (fun z => by cases z) rfl (fun d hd => by
      obtain ⟨c, _, rfl⟩ := List.mem_map.mp hd
      simp only [cs_cons, cs_nil, ev_p2, ev_var, ev_cst, List.getElem?_cons_zero, List.set_cons_succ, List.set_cons_zero, List.getElem?_cons_succ, SV.rv, kP2_ok, pk_val, Bool.false_and, recv2, Bool.not_true, Bool.or_self, Bool.false_eq_true, if_false, kP2b_ok, run2, runCmp, runIn, inS, Option.map_some, opt, kCs_ok, tr_bl, kCsB_some, isF_is]
      cases isF c <;> rfl) (fun d hd _ => by
      obtain ⟨c, _, rfl⟩ := List.mem_map.mp hd
      simp [exports])
  rw [filt_chr (fun c => !isF c) _ (fun _ => rfl)] at hc
  have hm : ((List.filter (fun c => !isF c) (figs t)).map fun c => D.str [c]).map (fun d => d) = (List.filter (fun c => !isF c) (figs t)).map fun c => D.str [c] := List.map_id' _
  rw [hm] at hc
  by_cases g : 1 ≤ (figs t).length ∧ (figs t).length ≤ 15
  · have g2 : okSize ((List.filter (fun c => !isF c) (figs t)).map fun c => D.str [c]).length = true := by
      have := List.length_filter_le (fun c => !isF c) (figs t)
      simp [okSize, sizeLine]
      omega
    have g5 : figs t ≠ [] := fun z => by rw [z] at g; simp at g
    have g8 : ¬ (15 < ((figs t).length : Int)) := by omega
    rw [newLst, if_pos g2] at hc
    have g9 := eqD_strs (List.filter (fun c => !isF c) (figs t))
    rw [filt_none] at g9
    by_cases g3 : (figs t).all isF = true
    · obtain ⟨n, n1, n2, n3⟩ := num_tail g3 g.1 g.2
      rw [n3]
      rw [g3] at g9
      by_cases z : t.head? = some 45
      · have fz : t.drop 1 = figs t := by unfold figs; rw [if_pos z]
        by_cases zz : itoa n = t
        · simp [f__law_number, run2, runCut, cut1, cut01, take1_is, part, recv2, run1, z, -List.drop_one, oLen, runCmp, cmpInt, cmpI, hc, g5, g8, g9, numD, frzIt, getPl, putPl, oInt, oStr, datOf, newLst, okSize, fz, n1, n2, zz]
        · simp [f__law_number, run2, runCut, cut1, cut01, take1_is, part, recv2, run1, z, -List.drop_one, oLen, runCmp, cmpInt, cmpI, hc, g5, g8, g9, numD, frzIt, getPl, putPl, oInt, oStr, datOf, newLst, okSize, fz, n1, n2, zz]
      · have fz : figs t = t := by unfold figs; rw [if_neg z]
        rw [fz] at hc g5 g8 g9
        by_cases zz : itoa n = t
        · simp [f__law_number, run2, runCut, cut1, cut01, take1_is, part, recv2, run1, z, -List.drop_one, oLen, runCmp, cmpInt, cmpI, hc, g5, g8, g9, numD, frzIt, getPl, putPl, oInt, oStr, datOf, newLst, okSize, n1, n2, zz]
        · simp [f__law_number, run2, runCut, cut1, cut01, take1_is, part, recv2, run1, z, -List.drop_one, oLen, runCmp, cmpInt, cmpI, hc, g5, g8, g9, numD, frzIt, getPl, putPl, oInt, oStr, datOf, newLst, okSize, n1, n2, zz]
    · rw [num_none fun z => g3 z.2.2]
      rw [Bool.eq_false_iff.mpr g3] at g9
      by_cases z : t.head? = some 45
      · have fz : t.drop 1 = figs t := by unfold figs; rw [if_pos z]
        simp [f__law_number, run2, runCut, cut1, cut01, take1_is, part, recv2, run1, z, -List.drop_one, oLen, runCmp, cmpInt, cmpI, hc, g5, g8, g9, numD, frzIt, getPl, putPl, oInt, oStr, datOf, newLst, okSize, fz]
      · have fz : figs t = t := by unfold figs; rw [if_neg z]
        rw [fz] at hc g5 g8 g9
        simp [f__law_number, run2, runCut, cut1, cut01, take1_is, part, recv2, run1, z, -List.drop_one, oLen, runCmp, cmpInt, cmpI, hc, g5, g8, g9, numD, frzIt, getPl, putPl, oInt, oStr, datOf, newLst, okSize, numD]
  · rw [num_none fun z => g ⟨z.1, z.2.1⟩]
    by_cases g5 : figs t = []
    · by_cases z : t.head? = some 45
      · have fz : t.drop 1 = figs t := by unfold figs; rw [if_pos z]
        simp [f__law_number, run2, runCut, cut1, cut01, take1_is, part, recv2, z, -List.drop_one, runCmp, datOf, fz, g5, numD]
      · have fz : figs t = t := by unfold figs; rw [if_neg z]
        rw [fz] at g5
        simp [f__law_number, run2, runCut, cut1, cut01, take1_is, part, recv2, z, -List.drop_one, runCmp, datOf, g5, numD]
    · have g6 : 15 < ((figs t).length : Int) := by
        have : 1 ≤ (figs t).length := by
          cases q : figs t with
          | nil => exact absurd q g5
          | cons _ _ => simp
        omega
      by_cases z : t.head? = some 45
      · have fz : t.drop 1 = figs t := by unfold figs; rw [if_pos z]
        simp [f__law_number, run2, runCut, cut1, cut01, take1_is, part, recv2, z, -List.drop_one, runCmp, datOf, fz, g5, numD, run1, oLen, cmpInt, cmpI, g6]
      · have fz : figs t = t := by unfold figs; rw [if_neg z]
        rw [fz] at g5 g6
        simp [f__law_number, run2, runCut, cut1, cut01, take1_is, part, recv2, z, -List.drop_one, runCmp, datOf, g5, numD, run1, oLen, cmpInt, cmpI, g6]
end KW
/-! KwL3: the law's picture, its deeds on texts. -/
namespace KW
section
variable {d : Nat} {c0 c1 : Cell} {s : Sto} {k t o n w : T}
theorem skc_is {hh : List Cell} {i : Nat} {l : List (Key × D)} (hi : hh[i]? = some (dC l)) (h : ∀ q ∈ l, ∃ t : T, q.1 = .inr t) (hl : l.length ≤ sizeLine) : (oKeys hh (.val (.ref i))).bind oSort = some (.own (.lst (keysP l))) := by
  have e : oKeys hh (.val (.ref i)) = some (l.map fun q => keyD q.1) := by simp [oKeys, dctOf, hi, dC, Function.comp_def]
  rw [e]
  show oSort _ = _
  unfold oSort
  rw [if_pos (sortable_str fun d hd => by
    obtain ⟨q, hq, rfl⟩ := List.mem_map.mp hd
    obtain ⟨t, e⟩ := h q hq
    exact ⟨t, by rw [e]; rfl⟩)]
  unfold newLst
  rw [if_pos]
  · rfl
  · unfold okSize
    rw [sortD_len, List.length_map]
    simpa using hl
theorem lpic_go {h : List Cell} {fb : S → R Flow} (hb : ∀ (k : T) (acc : List D) (a b c e f : Option SV), (∃ t, txtOf s k = some t ∧ kfind (.inr k) s.held = some (.tup [.str text, .str t])) → acc.length < sizeLine →
      ∃ a' b' c' e' f', fb ⟨[some (.val (.ref 5)), some (.own (.lst acc)), some (.val (.str k)), b, c, e, f, none], h⟩ = .ok .next ⟨[some (.val (.ref 5)), some (.own (.lst (acc ++ [rowP s (.str k)]))), a', b', c', e', f', none], h⟩) :
    ∀ (ds acc : List D) (a b c e f : Option SV), (∀ x ∈ ds, ∃ k t, x = .str k ∧ txtOf s k = some t ∧ kfind (.inr k) s.held = some (.tup [.str text, .str t])) → acc.length + ds.length ≤ 1000 →
      ∃ a' b' c' e' f', forLoop [2] fb ds ⟨[some (.val (.ref 5)), some (.own (.lst acc)), a, b, c, e, f, none], h⟩ = .ok .next ⟨[some (.val (.ref 5)), some (.own (.lst (acc ++ ds.map (rowP s)))), a', b', c', e', f', none], h⟩
  | [], acc, a, b, c, e, f, _, _ => ⟨a, b, c, e, f, by simp [forLoop]⟩
  | x :: r, acc, a, b, c, e, f, hx, hl => by
    obtain ⟨k, t, rfl, e1, e2⟩ := hx x (by simp)
    obtain ⟨a', b', c', e', f', q⟩ := hb k acc a b c e f ⟨t, e1, e2⟩ (by simp [sizeLine]; omega)
    obtain ⟨a2, b2, c2, e2, f2, q3⟩ := lpic_go hb r (acc ++ [rowP s (.str k)]) a' b' c' e' f' (fun y hy => hx y (by simp [hy])) (by simp at hl ⊢; omega)
    refine ⟨a2, b2, c2, e2, f2, ?_⟩
    rw [forLoop]
    simp only [bindT, List.set_cons_succ, List.set_cons_zero]
    rw [q, bind_ok]
    simp only []
    rw [q3]
    simp
theorem l_picture (hl : s.held.length ≤ 200) (hv : ∀ q ∈ s.held, TxtV q.2) (hk : ∀ q ∈ s.held, ∃ t : T, q.1 = .inr t) (hen : ∀ q ∈ s.ends, ∃ n, q.2 = .int n) :
    callF prog (d + 1) "_law_picture" [.ref 5] (lh c0 c1 s) = .ok (.own (.lst (picP s))) ⟨[], lh c0 c1 s⟩ := by
  rw [callF_is (fn := f__law_picture) rfl rfl]
  have k1 := skc_is (hh := lh c0 c1 s) (i := 2) (l := s.held) rfl hk (by simp [sizeLine]; omega)
  have hl2 : (keysP s.held).length = s.held.length := by unfold keysP; rw [sortD_len, List.length_map]
  obtain ⟨a, b, c, e, f, q⟩ := lpic_go (s := s) (h := lh c0 c1 s) (fb := runB (callF prog d) b__law_picture_0) (fun k acc a b c e f ⟨t, z1, z2⟩ ha => by
    have hr : rowP s (.str k) = .tup [.str k, .str text, .str t, endOf s k] := by simp [rowP, z1]
    rw [hr]
    cases k3 : kfind (.inr k) s.ends with
    | none =>
      refine ⟨some (.val (.str k)), some (.val (.str text)), some (.val (.str t)), some (.val (.str t)), some (.val .non), ?_⟩
      simp [run2, recv2, runIdx, seqOf, lstOf, dctOf, oIdxD, z2, entOf, bindT, runCmp, runIn, inT, flat, deq, datOf, inD, k3, endOf, text, runMu, getPl, putPl, muL, ha, recvM, runB, b__law_picture_0]; done
    | some w =>
      obtain ⟨m, rfl⟩ := hen _ (kfind_mem k3)
      refine ⟨some (.val (.str k)), some (.val (.str text)), some (.val (.str t)), some (.val (.str t)), some (.val (.int (m - s.now))), ?_⟩
      simp [run2, recv2, runIdx, seqOf, lstOf, dctOf, oIdxD, z2, entOf, bindT, runCmp, runIn, inT, flat, deq, datOf, inD, k3, endOf, text, runMu, getPl, putPl, muL, ha, recvM, oSub, runB, b__law_picture_0]; done) (keysP s.held) [] none none none none none (keys_txt rfl hv hk) (by simp; omega)
  simp only [List.nil_append] at q
  have e5 : kP1 .sortedKeys (.ok (.val (.ref 2)) ⟨[some (.val (.ref 5)), some (.own (.lst [])), none, none, none, none, none, none], lh c0 c1 s⟩) = .ok (.own (.lst (keysP s.held))) ⟨[some (.val (.ref 5)), some (.own (.lst [])), none, none, none, none, none, none], lh c0 c1 s⟩ := by
    rw [kP1_ok]
    show opt _ ((oKeys (lh c0 c1 s) (.val (.ref 2))).bind oSort) = _
    rw [k1]
    rfl
  simp [f__law_picture, newLst, okSize, run2, recv2, runIdx, seqOf, lstOf, dctOf, oIdxD, entOf, e5, muOf, isK, q, picP]
end
end KW
/-! KwL5r: the law's deeds on keys, whatever stands there. -/
namespace KW
def dropN : Sto → List T → List Int
  | _, [] => []
  | s, k :: r => (if (kfind (.inr k) s.held).isSome then 1 else 0) :: dropN (dropS s k) r
theorem dropN_sum : ∀ (ks : List T) (s : Sto), (dropN s ks).sum = ((dropL s ks).2.length : Int)
  | [], _ => rfl
  | k :: r, s => by
    have ih := dropN_sum r (dropS s k)
    unfold dropN dropL
    simp only [List.sum_cons, ih]
    split
    · simp only [List.length_cons]; omega
    · simp
theorem dropN_len : ∀ (ks : List T) (s : Sto), (dropN s ks).length = ks.length
  | [], _ => rfl
  | k :: r, s => by simp [dropN, dropN_len r]
theorem ints_map : ∀ l : List Int, intsOf (l.map D.int) = some l
  | [] => rfl
  | x :: r => by
    show (intsOf (r.map D.int)).map (x :: ·) = _
    rw [ints_map r]; rfl
section
variable {d : Nat} {c0 c1 : Cell} {s : Sto} {k t o n w : T}
theorem ldrop_go {fc : S → R Bool} {fe : S → R D} {σ : List (Option SV)} (h1 : ∀ s, fc s = .ok true s) (h2 : ∀ (k : T) (s : Sto), s.stamps.length < sizeLine →
      fe ⟨σ.set 8 (some (.val (.str k))), lh c0 c1 s⟩ = .ok (.int (if (kfind (.inr k) s.held).isSome then 1 else 0)) ⟨σ.set 8 (some (.val (.str k))), lh c0 c1 (dropS s k)⟩) : ∀ (ks : List T) (s : Sto) (σ' : List (Option SV)) (acc : List D), s.stamps.length + ks.length < sizeLine →
    (∀ x, σ'.set 8 x = σ.set 8 x) → ∃ σ'', (∀ x, σ''.set 8 x = σ.set 8 x) ∧ compLoop [8] fc fe (ks.map .str) ⟨σ', lh c0 c1 s⟩ acc = .ok (acc.reverse ++ (dropN s ks).map .int) ⟨σ'', lh c0 c1 (dropL s ks).1⟩
  | [], s, σ', acc, _, hs => ⟨σ', hs, by simp [compLoop, dropL, dropN]⟩
  | k :: r, s, σ', acc, hz, hs => by
    have l1 := drop_st s k
    obtain ⟨σ2, k1, k2⟩ := ldrop_go h1 h2 r (dropS s k) (σ.set 8 (some (.val (.str k)))) (.int (if (kfind (.inr k) s.held).isSome then 1 else 0) :: acc) (by simp at hz; omega) (fun x => by rw [List.set_set])
    refine ⟨σ2, k1, ?_⟩
    rw [List.map_cons, compLoop]
    simp only [bindT, hs]
    rw [h1, bind_ok, if_pos rfl, h2 k s (by simp at hz; omega), bind_ok, k2]
    simp [dropL, dropN]
theorem l_keys_text {xs : List D} (hl : xs.length ≤ 1000) (hw : w ≠ [104, 97, 115] ∧ w ≠ [100, 114, 111, 112] ∧ w ≠ [107, 105, 110, 100] ∧ w ≠ [107, 101, 121, 115] ∧ w ≠ [114, 101, 110, 97, 109, 101] ∧ w ≠ [101, 110, 100] ∧ w ≠ [108, 101, 102, 116] ∧ w ≠ [115, 116, 97, 121]) :
    callF prog (d + 1) "_law_keys" [.ref 5, .lst (.str w :: xs)] (lh c0 c1 s) = .ok (.val .non) ⟨[], lh c0 c1 s⟩ := by
  rw [callF_is (fn := f__law_keys) rfl rfl]
  obtain ⟨w1, w2, w3, w4, w5, w6, w7, w8⟩ := hw
  have g : okSize xs.length = true := by simp [okSize, sizeLine]; omega
  simp [f__law_keys, run2, recv2, runIdx, seqOf, lstOf, dctOf, oIdxD, oIdxL, atI, ixN, part, runCut, cut1D, newLst, g, runCmp, datOf, entOf, w1, w2, w3, w4, w5, w6, w7, w8]
theorem l_has_word {ks : List T} (hk : ks.length ≤ 1000) : callF prog (d + 1) "_law_keys" [.ref 5, .lst (.str [104, 97, 115] :: ks.map .str)] (lh c0 c1 s) = .ok (.val (.tup [tNumber, .int (thereP s ks)])) ⟨[], lh c0 c1 s⟩ := by
  rw [callF_is (fn := f__law_keys) rfl rfl]
  have hc := comp_is (C := callF prog d) (cs := [.p2 (.cmp .isIn) (.var 8) (.var 4)]) (e := .var 8) (σ := [some (.val (.ref 5)), some (.val (.lst (.str [104, 97, 115] :: ks.map .str))), some (.val (.str [104, 97, 115])), some (.val (.lst (ks.map .str))), some (.val (.ref 2)), none, none, none, none]) (h := lh c0 c1 s) (i := 8)
    (b := fun d => match d with
      | .str k => (kfind (.inr k) s.held).isSome
      | _ => false) (f := fun d => d) (ds := ks.map .str) (mu := false) (fun z => by cases z) rfl (fun d hd => by
      obtain ⟨c, _, rfl⟩ := List.mem_map.mp hd
      cases e : kfind (.inr c) s.held <;> simp [recv2, run2, runCmp, runIn, lstOf, inD, dctOf, e]) (fun d hd _ => by
      obtain ⟨c, _, rfl⟩ := List.mem_map.mp hd
      simp [exports])
  rw [filt_str (fun k => (kfind (.inr k) s.held).isSome) _ (fun _ => rfl)] at hc
  have g : okSize (((ks.filter fun k => (kfind (.inr k) s.held).isSome).map D.str).map fun d => d).length = true := by
    have := List.length_filter_le (fun k => (kfind (.inr k) s.held).isSome) ks
    simp [okSize, sizeLine]
    omega
  have g2 : okSize ks.length = true := by simp [okSize, sizeLine]; omega
  rw [newLst, if_pos g] at hc
  simp [f__law_keys, run2, recv2, runIdx, seqOf, lstOf, dctOf, oIdxD, oIdxL, atI, ixN, part, runCut, cut1D, newLst, g2, runCmp, datOf, entOf, hc, muOf, run1, oLen, tNumber, thereP, show (0 : Int) < (ks.length : Int) + 1 from by omega]
theorem l_drop_word {ks : List T} (hk : ks.length ≤ 1000) (hz : s.stamps.length + ks.length < sizeLine) : callF prog (d + 3) "_law_keys" [.ref 5, .lst (.str [100, 114, 111, 112] :: ks.map .str)] (lh c0 c1 s) = .ok (.val (.tup [tNumber, .int (dropL s ks).2.length])) ⟨[], lh c0 c1 (dropL s ks).1⟩ := by
  rw [callF_is (fn := f__law_keys) rfl rfl]
  have g2 : okSize ks.length = true := by simp [okSize, sizeLine]; omega
  have hc : kComp (callF prog (d + 2)) [8] [] (.call "_law_drop" [.var 0, .var 8]) (.ok (ks.map .str, false) ⟨[some (.val (.ref 5)), some (.val (.lst (.str [100, 114, 111, 112] :: ks.map .str))), some (.val (.str [100, 114, 111, 112])), some (.val (.lst (ks.map .str))), some (.val (.ref 2)), none, none, none, none], lh c0 c1 s⟩) =
      .ok (.own (.lst ((dropN s ks).map .int))) ⟨[some (.val (.ref 5)), some (.val (.lst (.str [100, 114, 111, 112] :: ks.map .str))), some (.val (.str [100, 114, 111, 112])), some (.val (.lst (ks.map .str))), some (.val (.ref 2)), none, none, none, none], lh c0 c1 (dropL s ks).1⟩ := by
    rw [kComp_ok]
    obtain ⟨σ2, k1, k2⟩ := ldrop_go (c0 := c0) (c1 := c1) (σ := [some (.val (.ref 5)), some (.val (.lst (.str [100, 114, 111, 112] :: ks.map .str))), some (.val (.str [100, 114, 111, 112])), some (.val (.lst (ks.map .str))), some (.val (.ref 2)), none, none, none, none]) (fc := runC (callF prog (d + 2)) []) (fe := runX (callF prog (d + 2)) (.call "_law_drop" [.var 0, .var 8]))
      (fun s => by simp [runC]) (fun k s hz => by simp [runX, exports, l_drop hz]) ks s _ [] hz (fun _ => rfl)
    have g : okSize ((dropN s ks).map D.int).length = true := by
      simp [okSize, sizeLine, dropN_len]
      omega
    simp only [Bool.false_and, if_neg Bool.false_ne_true]
    rw [k2, kCalm_ok, kComp2_ok]
    simp only [newLst, List.reverse_nil, List.nil_append, g, if_true, opt]
    rw [back_none rfl k1]
  simp [f__law_keys, run2, recv2, runIdx, seqOf, lstOf, dctOf, oIdxD, oIdxL, atI, ixN, part, runCut, cut1D, newLst, g2, runCmp, datOf, entOf, hc, muOf, run1, ints_map, dropN_sum, tNumber, show (0 : Int) < (ks.length : Int) + 1 from by omega]
theorem l_kind_word (hv : ∀ q ∈ s.held, OkV q.2) : callF prog (d + 1) "_law_keys" [.ref 5, .lst [.str [107, 105, 110, 100], .str k]] (lh c0 c1 s) = .ok (.val (.tup [.str [111, 107], kindD s k])) ⟨[], lh c0 c1 s⟩ := by
  rw [callF_is (fn := f__law_keys) rfl rfl]
  have g2 : okSize 1 = true := rfl
  unfold kindD
  cases e2 : kfind (.inr k) s.held with
  | none => simp [f__law_keys, run2, recv2, runIdx, seqOf, lstOf, dctOf, oIdxD, oIdxL, atI, ixN, part, runCut, cut1D, newLst, g2, runCmp, datOf, entOf, runIn, inD, e2]
  | some v =>
    obtain ⟨kd, u, rfl, _⟩ := okV_is (hv _ (kfind_mem e2))
    simp [f__law_keys, run2, recv2, runIdx, seqOf, lstOf, dctOf, oIdxD, oIdxL, atI, ixN, part, runCut, cut1D, newLst, g2, runCmp, datOf, entOf, runIn, inD, e2]
theorem l_keys_word (hk : ∀ q ∈ s.held, ∃ t : T, q.1 = .inr t) (hl : s.held.length ≤ 200) : callF prog (d + 2) "_law_keys" [.ref 5, .lst [.str [107, 101, 121, 115]]] (lh c0 c1 s) = .ok (.val (rowD (keysP s.held))) ⟨[], lh c0 c1 s⟩ := by
  rw [callF_is (fn := f__law_keys) rfl rfl]
  have g2 : okSize 0 = true := rfl
  have e := l_texts (d := d) (h := lh c0 c1 s) (xs := keysP s.held) (by unfold keysP; rw [sortD_len, List.length_map]; simp [sizeLine]; omega)
  have k1 := skc_is (hh := lh c0 c1 s) (i := 2) (l := s.held) rfl hk (by simp [sizeLine]; omega)
  simp [f__law_keys, run2, recv2, runIdx, seqOf, lstOf, dctOf, oIdxD, oIdxL, atI, ixN, part, runCut, cut1D, newLst, g2, runCmp, datOf, entOf, run1, k1, e]
end
end KW
/-! KwR4: rows: called otherwise, shown; the law's side. -/
namespace KW
theorem kfind_kput_ne {α : Type} {k o : Key} {v : α} (h : o ≠ k) : ∀ l : List (Key × α), kfind o (kput k v l) = kfind o l
  | [] => by simp [kput, kfind, h.symm]
  | q :: r => by
    unfold kput
    split
    · rename_i e
      have : ¬ q.1 = o := fun z => h (z ▸ e)
      simp [kfind, this]
    · simp only [kfind]
      split
      · rfl
      · exact kfind_kput_ne h r
theorem kfind_kdel_ne {α : Type} {k o : Key} (h : o ≠ k) : ∀ l : List (Key × α), kfind o (kdel k l) = kfind o l
  | [] => rfl
  | q :: r => by
    have ih := kfind_kdel_ne h r
    unfold kdel at ih ⊢
    rw [List.filter_cons]
    by_cases e : q.1 = k
    · have : ¬ q.1 = o := fun z => h (z ▸ e)
      simp [e, kfind, this]
      rw [if_neg (fun z => h z.symm)]
      simpa using ih
    · simp [e, kfind]
      split
      · rfl
      · simpa using ih
theorem kput_cons {α : Type} (k : Key) (v : α) (q : Key × α) (r : List (Key × α)) : kput k v (q :: r) = if q.1 = k then (q.1, v) :: r else q :: kput k v r := rfl
theorem kdel_cons {α : Type} (k : Key) (q : Key × α) (r : List (Key × α)) : kdel k (q :: r) = if q.1 = k then kdel k r else q :: kdel k r := by
  unfold kdel
  rw [List.filter_cons]
  by_cases e : q.1 = k <;> simp [e]
theorem kdel_kput {α : Type} {k o : Key} {v : α} (h : o ≠ k) : ∀ l : List (Key × α), kdel k (kput o v l) = kput o v (kdel k l)
  | [] => by simp [kput, kdel, h]
  | q :: r => by
    have ih := kdel_kput (v := v) h r
    rw [kput_cons, kdel_cons]
    by_cases e : q.1 = o
    · have : ¬ q.1 = k := fun z => h (e ▸ z)
      rw [if_pos e, if_neg this, kdel_cons, kput_cons, if_neg this, if_pos e]
    · rw [if_neg e, kdel_cons]
      by_cases e2 : q.1 = k
      · rw [if_pos e2, if_pos e2, ih]
      · rw [if_neg e2, if_neg e2, ih, kput_cons, if_neg e]
theorem kput_kput {α : Type} {k o : Key} {u v : α} (h : o ≠ k) : ∀ l : List (Key × α), (∃ w, kfind k l = some w) → kput k u (kput o v l) = kput o v (kput k u l)
  | [], ⟨w, e⟩ => by cases e
  | q :: r, e => by
    by_cases e1 : q.1 = o
    · have e2 : ¬ q.1 = k := fun z => h (e1 ▸ z)
      simp [kput, e1, h, e2]
    · by_cases e2 : q.1 = k
      · have e3 : ¬ k = o := fun z => h z.symm
        simp [kput, e2, e3, e1]
      · have er : ∃ w, kfind k r = some w := by simpa [kfind, e2] using e
        simp [kput, e1, e2]
        exact kput_kput h r er
def hR (l : List (Key × D)) (k : T) (xs : List D) : List (Key × D) := if xs = [] then kdel (.inr k) l else kput (.inr k) (.tup [.str rowK, .lst xs]) l
theorem drop_is (s : Sto) (k : T) : (dropS s k).held = kdel (.inr k) s.held := by
  unfold dropS
  split
  · rfl
  · rename_i e
    exact (kdel_none e).symm
theorem keepR_held (s : Sto) (k : T) (xs : List D) : (keepR s k xs).held = hR s.held k xs := by
  unfold keepR hR
  split
  · exact drop_is s k
  · rfl
def rowL (l : List (Key × D)) (k : T) : List D := match kfind (.inr k) l with
  | some (.tup [_, .lst xs]) => xs
  | _ => []
theorem rowOf_is (s : Sto) (k : T) : rowOf s k = rowL s.held k := rfl
theorem rowL_ne {l : List (Key × D)} {k o : T} {xs : List D} (h : o ≠ k) : rowL (hR l k xs) o = rowL l o := by
  have h2 : (Sum.inr o : Key) ≠ .inr k := fun z => h (Sum.inr.inj z)
  have key : kfind (.inr o) (hR l k xs) = kfind (.inr o) l := by
    unfold hR
    split
    · rw [kfind_kdel_ne h2]
    · rw [kfind_kput_ne h2]
  unfold rowL
  rw [key]
theorem hR_comm {l : List (Key × D)} {k o : T} {xs ys : List D} (h : o ≠ k) (hy : ys ≠ []) (hk : ∃ w, kfind (.inr k) l = some w) : hR (hR l k xs) o ys = hR (hR l o ys) k xs := by
  have h2 : (Sum.inr o : Key) ≠ .inr k := fun z => h (Sum.inr.inj z)
  unfold hR
  rw [if_neg hy, if_neg hy]
  split
  · exact (kdel_kput h2 l).symm
  · exact (kput_kput h2 l hk).symm
section
variable {d : Nat} {h : List Cell} {i : Nat} {s : Sto} {k t o n w : T} {xs ys : List D}
def renR (s : Sto) (o n : T) : Sto × D := match kfind (.inr o) s.held with
  | some (.tup [_, .lst xs]) => (keepR (dropS (dropS s o) n) n xs, dDone)
  | _ => (s, dBadNone)
theorem c_renamedR (hi : h[i]? = some s.cell) (hz : s.stamps.length + 3 < sizeLine) (hz2 : s.held.length < sizeLine) (hv : ∀ q ∈ s.held, RowV q.2) (hen : s.ends = []) :
    callF prog (d + 4) "renamed" [.ref i, .str o, .str n] h = .ok (.val (renR s o n).2) ⟨[], h.set i (renR s o n).1.cell⟩ := by
  rw [callF_is (fn := f_renamed) rfl rfl]
  have hh := set_id hi
  have l1 := drop_st s o
  have l2 := drop_st (dropS s o) n
  have l3 := drop_he s o
  have l4 := drop_he (dropS s o) n
  have v1 : ∀ q ∈ (dropS s o).held, OkV q.2 := fun q hq => row_ok (hv q (drop_held hq))
  have v2 : ∀ q ∈ (dropS (dropS s o) n).held, OkV q.2 := fun q hq => row_ok (hv q (drop_held (drop_held hq)))
  have e1 := c_drop (d := d + 1) (k := o) hi (by omega) (row_ok_all hv)
  have e2 := c_drop (d := d + 1) (k := n) (h := h.set i (dropS s o).cell) (i := i) (s := dropS s o) (by simp [hi]) (by omega) v1
  rw [List.set_set] at e2
  have e3 := fun xs => c_keepR (d := d) (k := n) (xs := xs) (h := h.set i (dropS (dropS s o) n).cell) (i := i) (s := dropS (dropS s o) n) (by simp [hi]) (by omega) (by omega) v2
  simp only [List.set_set] at e3
  have g1 : ∀ c, (h.set i c)[i]? = some c := fun c => by rw [get_set, hi]; rfl
  have ee : kfind (.inr o) s.ends = none := by rw [hen]; rfl
  unfold renR
  rcases find_row (k := o) hv with ⟨k1, k2⟩ | ⟨u, k1, k2, _⟩
  · simp [Sto.cell] at hh
    simp [f_renamed, run2, recv2, runCmp, hi, Sto.cell, List.lookup, kcls, runIn, lstOf, inD, dctOf, k1, dBadNone, hh]
  · simp [Sto.cell] at e1 e2 e3 hi
    unfold rowK at k1
    simp [f_renamed, run2, recv2, runCmp, hi, List.lookup, kcls, runIn, lstOf, inD, dctOf, k1, runIdx, seqOf, oIdxD, entOf, bindT, run3, recv3, recv3b, oGet, oGetD, ee, e1, e2, e3, g1, run1, dDone, Sto.cell]
theorem c_renameR (hi : h[i]? = some s.cell) (hz : s.stamps.length + 3 < sizeLine) (hz2 : s.held.length < sizeLine) (hv : ∀ q ∈ s.held, RowV q.2) (hen : s.ends = []) :
    callF prog (d + 5) "key_done" [.ref i, .str [114, 101, 110, 97, 109, 101], .lst [.str o, .str n]] h = .ok (.val (renR s o n).2) ⟨[], h.set i (renR s o n).1.cell⟩ := by
  rw [callF_is (fn := f_key_done) rfl rfl]
  simp [f_key_done, run2, recv2, runCmp, datOf, runIdx, seqOf, lstOf, oIdxL, atI, ixN, c_renamedR hi hz hz2 hv hen]
/-! the picture -/
def rowPR (l : List (Key × D)) (x : D) : D := match x with
  | .str k => .tup [.str k, .str rowK, .tup (rowL l k), .non]
  | x => x
def picR (l : List (Key × D)) : List D := (keysP l).map (rowPR l)
theorem pic_goR {fb : S → R Flow} (hb : ∀ (k : T) (acc : List D) (a b c : Option SV), (∃ ts : List T, rowOf s k = ts.map .str ∧ kfind (.inr k) s.held = some (.tup [.str rowK, .lst (ts.map .str)])) → acc.length < sizeLine →
      ∃ a' b' c', fb ⟨[some (.val (.ref i)), some (.own (.lst acc)), some (.val (.str k)), b, c, none], h⟩ = .ok .next ⟨[some (.val (.ref i)), some (.own (.lst (acc ++ [rowPR s.held (.str k)]))), a', b', c', none], h⟩) :
    ∀ (ds acc : List D) (a b c : Option SV), (∀ x ∈ ds, ∃ k, x = .str k ∧ ∃ ts : List T, rowOf s k = ts.map .str ∧ kfind (.inr k) s.held = some (.tup [.str rowK, .lst (ts.map .str)])) → acc.length + ds.length ≤ 1000 →
      ∃ a' b' c', forLoop [2] fb ds ⟨[some (.val (.ref i)), some (.own (.lst acc)), a, b, c, none], h⟩ = .ok .next ⟨[some (.val (.ref i)), some (.own (.lst (acc ++ ds.map (rowPR s.held)))), a', b', c', none], h⟩
  | [], acc, a, b, c, _, _ => ⟨a, b, c, by simp [forLoop]⟩
  | x :: r, acc, a, b, c, hx, hl => by
    obtain ⟨k, rfl, e1⟩ := hx x (by simp)
    obtain ⟨a', b', c', e⟩ := hb k acc a b c e1 (by simp [sizeLine]; omega)
    obtain ⟨a2, b2, c2, e3⟩ := pic_goR hb r (acc ++ [rowPR s.held (.str k)]) a' b' c' (fun y hy => hx y (by simp [hy])) (by simp at hl ⊢; omega)
    refine ⟨a2, b2, c2, ?_⟩
    rw [forLoop]
    simp only [bindT, List.set_cons_succ, List.set_cons_zero]
    rw [e, bind_ok]
    simp only []
    rw [e3]
    simp
theorem keys_row (hv : ∀ q ∈ s.held, RowV q.2) (hk : ∀ q ∈ s.held, ∃ t : T, q.1 = .inr t) : ∀ x ∈ keysP s.held, ∃ k, x = .str k ∧ ∃ ts : List T, rowOf s k = ts.map .str ∧ kfind (.inr k) s.held = some (.tup [.str rowK, .lst (ts.map .str)]) := by
  intro x hx
  obtain ⟨k, rfl, q, hq, e⟩ := keysP_str hk x hx
  obtain ⟨u, hu⟩ := kfind_some (k := .inr k) (v := q.2) (by rw [← e]; exact hq)
  rcases find_row (s := s) (k := k) hv with ⟨h1, _⟩ | ⟨t, h1, h2, _⟩
  · rw [h1] at hu; cases hu
  · exact ⟨k, rfl, t, h2, h1⟩
theorem c_pictureR (hi : h[i]? = some s.cell) (hl : s.held.length ≤ 200) (hv : ∀ q ∈ s.held, RowV q.2) (hk : ∀ q ∈ s.held, ∃ t : T, q.1 = .inr t) (hen : s.ends = []) :
    callF prog (d + 1) "Store.picture" [.ref i] h = .ok (.own (.lst (picR s.held))) ⟨[], h⟩ := by
  rw [callF_is (fn := f_Store_picture) rfl rfl]
  have k1 := fun hh p => sk_is (hh := hh) (p := p) hk (by simp [sizeLine]; omega)
  have hl2 : (keysP s.held).length = s.held.length := by unfold keysP; rw [sortD_len, List.length_map]
  obtain ⟨a, b, c, e⟩ := pic_goR (s := s) (i := i) (h := h) (fb := runB (callF prog d) b_Store_picture_0) (fun k acc a b c ⟨ts, z1, z2⟩ ha => by
    refine ⟨some (.val (.str k)), some (.val (.str rowK)), some (.val (.tup (ts.map .str))), ?_⟩
    have hr : rowPR s.held (.str k) = .tup [.str k, .str rowK, .tup (ts.map .str), .non] := by
      rw [rowOf_is] at z1
      simp [rowPR, z1]
    rw [hr]
    have k3 : kfind (.inr k) s.ends = none := by rw [hen]; rfl
    unfold rowK at z2 ⊢
    simp [hi, Sto.cell, List.lookup, kcls, run1, run2, recv2, runIdx, seqOf, lstOf, dctOf, oIdxD, z2, entOf, bindT, runCmp, runIn, inT, flat, deq, datOf, inD, k3, runMu, getPl, putPl, muL, ha, recvM, runB, b_Store_picture_0]) (keysP s.held) [] none none none (keys_row hv hk) (by simp; omega)
  simp only [List.nil_append] at e
  simp [f_Store_picture, newLst, okSize, hi, Sto.cell, kcls, List.lookup, run1, k1, seqOf, lstOf, muOf, isK, e, picR]
end
end KW
/-! KwR5: the law's side of rows. -/
namespace KW
def keepW (s : Sto) (k : T) (xs : List D) : Sto := if xs = [] then touchS { s with held := kdel (.inr k) s.held, ends := kdel (.inr k) s.ends } k else setS s k rowK (.lst xs)
theorem keepW_held (s : Sto) (k : T) (xs : List D) : (keepW s k xs).held = hR s.held k xs := by
  unfold keepW hR
  split <;> rfl
theorem keepW_st (s : Sto) (k : T) (xs : List D) : (keepW s k xs).stamps.length ≤ s.stamps.length + 1 := by
  unfold keepW
  split <;> exact kput_len _ _ _
theorem hR_len (l : List (Key × D)) (k : T) (xs : List D) : (hR l k xs).length ≤ l.length + 1 := by
  unfold hR
  split
  · exact Nat.le_succ_of_le (kdel_len _ _)
  · exact kput_len _ _ _
theorem popD_dC {l : List (Key × D)} {k : Key} {z : D} : muD (l.map fun q => (q.1, SV.val q.2)) .popD [keyD k, z] = some (.val ((kfind k l).getD z), (kdel k l).map fun q => (q.1, SV.val q.2)) := by
  cases k with
  | inl i =>
    cases e : kfind (.inl i) l <;> simp [muD, e, kdel_none]
  | inr t =>
    cases e : kfind (.inr t) l <;> simp [muD, e, kdel_none]
section
variable {d : Nat} {c0 c1 : Cell} {s : Sto} {k t o n w : T} {xs ys : List D}
theorem popD_is {l : List (Key × D)} {z : D} : muD (l.map fun q => (q.1, SV.val q.2)) .popD [.str k, z] = some (.val ((kfind (.inr k) l).getD z), (kdel (.inr k) l).map fun q => (q.1, SV.val q.2)) := popD_dC (k := .inr k)
theorem l_keepW (hz : s.stamps.length < sizeLine) (hz2 : s.held.length < sizeLine) : callF prog (d + 2) "_law_keep" [.ref 5, .str k, .str [114, 111, 119], .lst xs] (lh c0 c1 s) = .ok (.val .non) ⟨[], lh c0 c1 (keepW s k xs)⟩ := by
  rw [callF_is (fn := f__law_keep) rfl rfl]
  unfold keepW
  cases xs with
  | nil =>
    have := l_touch (d := d) (c0 := c0) (c1 := c1) (s := { s with held := kdel (.inr k) s.held, ends := kdel (.inr k) s.ends }) (k := k) hz
    simp [f__law_keep, run1, run2, recv2, recvM, runIdx, seqOf, lstOf, dctOf, oIdxD, entOf, runCmp, datOf, oLen, runMu, popD_is, this]
  | cons x r =>
    have := l_touch (d := d) (c0 := c0) (c1 := c1) (s := { s with held := kput (.inr k) (.tup [.str rowK, .lst (x :: r)]) s.held }) (k := k) hz
    unfold rowK at this
    have g : ¬ ((r.length : Int) + 1 = 0) := by omega
    simp [f__law_keep, run1, run2, recv2, recvM, runIdx, seqOf, lstOf, dctOf, oIdxD, entOf, runCmp, datOf, oLen, g, runISet, hz2, this, setS, rowK]
theorem l_hasR (hv : ∀ q ∈ s.held, RowV q.2) : callF prog (d + 1) "_law_has" [.ref 5, .str k, .str [114, 111, 119], .lst []] (lh c0 c1 s) = .ok (.val (.lst (rowOf s k))) ⟨[], lh c0 c1 s⟩ := by
  rw [callF_is (fn := f__law_has) rfl rfl]
  rcases find_row (k := k) hv with ⟨e1, e2⟩ | ⟨u, e1, e2, _⟩
  · simp [f__law_has, run2, recv2, runIdx, seqOf, lstOf, dctOf, oIdxD, entOf, runCmp, runIn, inD, e1, e2]
  · unfold rowK at e1
    simp [f__law_has, run2, recv2, runIdx, seqOf, lstOf, dctOf, oIdxD, entOf, runCmp, runIn, inD, e1, e2, oIdxL, atI, ixN, datOf]
theorem lpic_goR {h : List Cell} {fb : S → R Flow} (hb : ∀ (k : T) (acc : List D) (a b c e f : Option SV), (∃ ts : List T, rowOf s k = ts.map .str ∧ kfind (.inr k) s.held = some (.tup [.str rowK, .lst (ts.map .str)])) → acc.length < sizeLine →
      ∃ a' b' c' e' f', fb ⟨[some (.val (.ref 5)), some (.own (.lst acc)), some (.val (.str k)), b, c, e, f, none], h⟩ = .ok .next ⟨[some (.val (.ref 5)), some (.own (.lst (acc ++ [rowPR s.held (.str k)]))), a', b', c', e', f', none], h⟩) :
    ∀ (ds acc : List D) (a b c e f : Option SV), (∀ x ∈ ds, ∃ k, x = .str k ∧ ∃ ts : List T, rowOf s k = ts.map .str ∧ kfind (.inr k) s.held = some (.tup [.str rowK, .lst (ts.map .str)])) → acc.length + ds.length ≤ 1000 →
      ∃ a' b' c' e' f', forLoop [2] fb ds ⟨[some (.val (.ref 5)), some (.own (.lst acc)), a, b, c, e, f, none], h⟩ = .ok .next ⟨[some (.val (.ref 5)), some (.own (.lst (acc ++ ds.map (rowPR s.held)))), a', b', c', e', f', none], h⟩
  | [], acc, a, b, c, e, f, _, _ => ⟨a, b, c, e, f, by simp [forLoop]⟩
  | x :: r, acc, a, b, c, e, f, hx, hl => by
    obtain ⟨k, rfl, e1⟩ := hx x (by simp)
    obtain ⟨a', b', c', e', f', q⟩ := hb k acc a b c e f e1 (by simp [sizeLine]; omega)
    obtain ⟨a2, b2, c2, e2, f2, q3⟩ := lpic_goR hb r (acc ++ [rowPR s.held (.str k)]) a' b' c' e' f' (fun y hy => hx y (by simp [hy])) (by simp at hl ⊢; omega)
    refine ⟨a2, b2, c2, e2, f2, ?_⟩
    rw [forLoop]
    simp only [bindT, List.set_cons_succ, List.set_cons_zero]
    rw [q, bind_ok]
    simp only []
    rw [q3]
    simp
theorem l_pictureR (hl : s.held.length ≤ 200) (hv : ∀ q ∈ s.held, RowV q.2) (hk : ∀ q ∈ s.held, ∃ t : T, q.1 = .inr t) (hen : s.ends = []) :
    callF prog (d + 1) "_law_picture" [.ref 5] (lh c0 c1 s) = .ok (.own (.lst (picR s.held))) ⟨[], lh c0 c1 s⟩ := by
  rw [callF_is (fn := f__law_picture) rfl rfl]
  have k1 := skc_is (hh := lh c0 c1 s) (i := 2) (l := s.held) rfl hk (by simp [sizeLine]; omega)
  have hl2 : (keysP s.held).length = s.held.length := by unfold keysP; rw [sortD_len, List.length_map]
  obtain ⟨a, b, c, e, f, q⟩ := lpic_goR (s := s) (h := lh c0 c1 s) (fb := runB (callF prog d) b__law_picture_0) (fun k acc a b c e f ⟨ts, z1, z2⟩ ha => by
    have hr : rowPR s.held (.str k) = .tup [.str k, .str rowK, .tup (ts.map .str), .non] := by
      rw [rowOf_is] at z1
      simp [rowPR, z1]
    rw [hr]
    have k3 : kfind (.inr k) s.ends = none := by rw [hen]; rfl
    unfold rowK at z2 ⊢
    refine ⟨some (.val (.str k)), some (.val (.str [114, 111, 119])), some (.val (.lst (ts.map .str))), some (.val (.tup (ts.map .str))), some (.val .non), ?_⟩
    simp [run1, run2, recv2, runIdx, seqOf, lstOf, dctOf, oIdxD, z2, entOf, bindT, runCmp, runIn, inT, flat, deq, datOf, inD, k3, runMu, getPl, putPl, muL, ha, recvM, runB, b__law_picture_0]) (keysP s.held) [] none none none none none (keys_row hv hk) (by simp; omega)
  simp only [List.nil_append] at q
  have e5 : kP1 .sortedKeys (.ok (.val (.ref 2)) ⟨[some (.val (.ref 5)), some (.own (.lst [])), none, none, none, none, none, none], lh c0 c1 s⟩) = .ok (.own (.lst (keysP s.held))) ⟨[some (.val (.ref 5)), some (.own (.lst [])), none, none, none, none, none, none], lh c0 c1 s⟩ := by
    rw [kP1_ok]
    show opt _ ((oKeys (lh c0 c1 s) (.val (.ref 2))).bind oSort) = _
    rw [k1]
    rfl
  simp [f__law_picture, newLst, okSize, run2, recv2, runIdx, seqOf, lstOf, dctOf, oIdxD, entOf, e5, muOf, isK, q, picR]
def renW (s : Sto) (o n : T) : Sto × D := match kfind (.inr o) s.held with
  | some (.tup [_, .lst xs]) => (keepW (dropS (dropS s o) n) n xs, dDone)
  | _ => (s, dBadNone)
theorem l_renameR (hz : s.stamps.length + 3 < sizeLine) (hz2 : s.held.length < sizeLine) (hv : ∀ q ∈ s.held, RowV q.2) (hen : s.ends = []) :
    callF prog (d + 3) "_law_keys" [.ref 5, .lst [.str [114, 101, 110, 97, 109, 101], .str o, .str n]] (lh c0 c1 s) = .ok (.val (renW s o n).2) ⟨[], lh c0 c1 (renW s o n).1⟩ := by
  rw [callF_is (fn := f__law_keys) rfl rfl]
  have g2 : okSize 2 = true := rfl
  have l1 := drop_st s o
  have l2 := drop_st (dropS s o) n
  have l3 := drop_he s o
  have l4 := drop_he (dropS s o) n
  have e1 := l_drop (d := d) (c0 := c0) (c1 := c1) (s := s) (k := o) (by omega)
  have e2 := l_drop (d := d) (c0 := c0) (c1 := c1) (s := dropS s o) (k := n) (by omega)
  have e3 := fun xs => l_keepW (d := d) (c0 := c0) (c1 := c1) (s := dropS (dropS s o) n) (k := n) (xs := xs) (by omega) (by omega)
  have ee : kfind (.inr o) s.ends = none := by rw [hen]; rfl
  unfold renW
  rcases find_row (k := o) hv with ⟨k1, k2⟩ | ⟨u, k1, k2, _⟩
  · simp [f__law_keys, run2, recv2, runIdx, seqOf, lstOf, dctOf, oIdxD, oIdxL, atI, ixN, part, runCut, cut1D, newLst, g2, runCmp, datOf, entOf, runIn, inD, k1, dBadNone]
  · unfold rowK at k1
    simp [f__law_keys, run2, recv2, runIdx, seqOf, lstOf, dctOf, oIdxD, oIdxL, atI, ixN, part, runCut, cut1D, newLst, g2, runCmp, datOf, entOf, runIn, inD, k1, run3, recv3, recv3b, oGet, oGetD, ee, e1, e2, e3, run1, dDone]
end
end KW
/-! KwR6: the law's deeds on rows. -/
namespace KW
theorem range_mem : ∀ (n : Nat) (a : Int) (d : D), d ∈ range' a 1 n → ∃ k : Int, d = .int k ∧ a ≤ k ∧ k < a + n
  | 0, _, _, h => by cases h
  | n + 1, a, d, h => by
    rw [range'] at h
    rcases List.mem_cons.mp h with rfl | h
    · exact ⟨a, rfl, by omega, by omega⟩
    · obtain ⟨k, e, h1, h2⟩ := range_mem n (a + 1) d h
      exact ⟨k, e, by omega, by push_cast; omega⟩
theorem datas_txt (l : List T) : isDatas (l.map D.str) = true ∧ deps (l.map D.str) = 0 := by
  induction l with
  | nil => exact ⟨rfl, rfl⟩
  | cons c r ih => exact ⟨by simp [isDatas, isData, ih.1], by simp [deps, dep, ih.2]⟩
theorem eqD_row (l : List T) : eqD (.lst (l.map .str)) (.lst []) = some l.isEmpty := by
  obtain ⟨h1, h2⟩ := datas_txt l
  unfold eqD
  rw [if_pos]
  · cases l <;> rfl
  · simp [shaped, isData, h1, dep, h2, isDatas, deps]
section
variable {d : Nat} {c0 c1 : Cell} {s : Sto} {k t o n w : T} {xs ys : List D} {h : List Cell} {f l : Int}
theorem l_slice (hl : xs.length ≤ 1000) : callF prog (d + 1) "_law_slice" [.lst xs, .int f, .int l] h = .ok (.own (.lst (sliceP xs f l))) ⟨[], h⟩ := by
  rw [callF_is (fn := f__law_slice) rfl rfl]
  have key : ∀ lo hi : Int, 0 ≤ lo → kComp (callF prog d) [3] [.chain .le .le (.var 1) (.var 3) (.var 2)] (.p2 .idx (.var 0) (.var 3)) (.ok (range' 0 1 xs.length, false) ⟨[some (.val (.lst xs)), some (.val (.int lo)), some (.val (.int hi)), none], h⟩) =
      .ok (.own (.lst (if lo ≤ hi then (xs.drop lo.toNat).take (hi + 1 - lo).toNat else []))) ⟨[some (.val (.lst xs)), some (.val (.int lo)), some (.val (.int hi)), none], h⟩ := by
    intro lo hi p
    have hc := comp_is (C := callF prog d) (cs := [.chain .le .le (.var 1) (.var 3) (.var 2)]) (e := .p2 .idx (.var 0) (.var 3)) (σ := [some (.val (.lst xs)), some (.val (.int lo)), some (.val (.int hi)), none]) (h := h) (i := 3)
      (b := inB lo hi) (f := fun d => match d with
        | .int k => (atI xs k).getD .non
        | _ => .non) (ds := range' 0 1 xs.length) (mu := false) (fun z => by cases z) rfl (fun d hd => by
        obtain ⟨k, rfl, k1, k2⟩ := range_mem _ _ _ hd
        by_cases z1 : lo ≤ k
        · by_cases z2 : k ≤ hi
          · simp [runCmp, cmpInt, cmpI, inB, z1, z2]
          · simp [runCmp, cmpInt, cmpI, inB, z1, z2]
        · simp [runCmp, cmpInt, cmpI, inB, z1]) (fun d hd _ => by
        obtain ⟨k, rfl, k1, k2⟩ := range_mem _ _ _ hd
        have e : ∃ y, atI xs k = some y := by
          unfold atI ixN
          rw [if_pos k1, if_pos (by omega)]
          exact ⟨xs[k.toNat]'(by omega), by show xs[_]? = _; rw [List.getElem?_eq_getElem]⟩
        obtain ⟨y, e⟩ := e
        simp [run2, recv2, runIdx, seqOf, lstOf, oIdxL, e, exports])
    rw [hc]
    have es : ((range' 0 1 xs.length).filter (inB lo hi)).map (fun d : D => match d with
        | .int k => (atI xs k).getD D.non
        | _ => D.non) = if lo ≤ hi then (xs.drop lo.toNat).take (hi + 1 - lo).toNat else [] := by
      by_cases z : lo ≤ hi
      · rw [if_pos z, sl_go z xs 0 (fun j hj => by
          show (atI xs (0 + (j : Int))).getD D.non = _
          unfold atI ixN
          rw [if_pos (by omega), if_pos (by omega)]
          show (xs[_]?).getD D.non = _
          rw [show (0 + (j : Int)).toNat = j from by omega, List.getElem?_eq_getElem hj]
          rfl)]
        rw [show (lo - 0).toNat = lo.toNat from by omega]
        congr 1
        split <;> omega
      · rw [if_neg z, sl_none z]; rfl
    rw [es, newLst, if_pos]
    · rfl
    · split
      · simp [okSize, sizeLine]; omega
      · rfl
  unfold sliceP
  have p := lo_pos xs.length f
  have hlo : loI xs.length f = if f < 0 then (if 0 < f + (xs.length : Int) then f + (xs.length : Int) else 0) else f := rfl
  have hhi : hiI xs.length l = if l < 0 then l + (xs.length : Int) else l := rfl
  have g1 : (xs.length : Int) < 4611686018427387904 := by omega
  have g2 : -4611686018427387904 ≤ (xs.length : Int) := by omega
  have hn : ((xs.length : Nat) : Int).toNat = xs.length := by omega
  have key := key _ (hiI xs.length l) p
  by_cases z1 : f < 0
  · by_cases z3 : 0 < f + (xs.length : Int)
    · have z4 : 0 < (xs.length : Int) + f := by omega
      rw [if_pos z1, if_pos z3] at hlo
      by_cases z2 : l < 0
      · rw [if_pos z2] at hhi
        rw [hlo, hhi] at key ⊢
        simp [f__law_slice, run1, run2, recv2, oLen, seqOf, lstOf, runCmp, cmpInt, cmpI, z1, z2, oAdd, oMax2, z4, z3, g1, g2, Int.add_comm (xs.length : Int), key]
      · rw [if_neg z2] at hhi
        rw [hlo, hhi] at key ⊢
        simp [f__law_slice, run1, run2, recv2, oLen, seqOf, lstOf, runCmp, cmpInt, cmpI, z1, z2, oAdd, oMax2, z4, z3, g1, g2, Int.add_comm (xs.length : Int), key]
    · have z4 : ¬ 0 < (xs.length : Int) + f := by omega
      rw [if_pos z1, if_neg z3] at hlo
      by_cases z2 : l < 0
      · rw [if_pos z2] at hhi
        rw [hlo, hhi] at key ⊢
        simp [f__law_slice, run1, run2, recv2, oLen, seqOf, lstOf, runCmp, cmpInt, cmpI, z1, z2, oAdd, oMax2, z4, z3, g1, g2, Int.add_comm (xs.length : Int) l, key]
      · rw [if_neg z2] at hhi
        rw [hlo, hhi] at key ⊢
        simp [f__law_slice, run1, run2, recv2, oLen, seqOf, lstOf, runCmp, cmpInt, cmpI, z1, z2, oAdd, oMax2, z4, z3, g1, g2, key]
  · rw [if_neg z1] at hlo
    by_cases z2 : l < 0
    · rw [if_pos z2] at hhi
      rw [hlo, hhi] at key ⊢
      simp [f__law_slice, run1, run2, recv2, oLen, seqOf, lstOf, runCmp, cmpInt, cmpI, z1, z2, oAdd, g1, g2, Int.add_comm (xs.length : Int), key]
    · rw [if_neg z2] at hhi
      rw [hlo, hhi] at key ⊢
      simp [f__law_slice, run1, run2, recv2, oLen, seqOf, lstOf, runCmp, cmpInt, cmpI, z1, z2, oAdd, g1, g2, key]
end
end KW
/-! KwR7: the law's deeds on rows, by words. -/
namespace KW
def putW (s : Sto) (w k : T) (row ts : List D) : Sto × D := if ((if w = [102, 105, 114, 115, 116] then ts.reverse ++ row else row ++ ts)).length > 200 then (s, dLong)
  else (keepW s k (if w = [102, 105, 114, 115, 116] then ts.reverse ++ row else row ++ ts), .tup [tNumber, .int ((if w = [102, 105, 114, 115, 116] then ts.reverse ++ row else row ++ ts).length : Nat)])
section
variable {d : Nat} {c0 c1 : Cell} {s : Sto} {k t o n w : T} {xs ys : List D}
theorem ld_put (hw : w = [102, 105, 114, 115, 116] ∨ w = [108, 97, 115, 116]) (hz : s.stamps.length < sizeLine) (hz2 : s.held.length < sizeLine) (hv : ∀ q ∈ s.held, RowV q.2) (hy : ys.length ≤ 1000) :
    callF prog (d + 3) "_law_row_deed" [.ref 5, .lst (.str w :: .str k :: ys)] (lh c0 c1 s) = .ok (.val (putW s w k (rowOf s k) ys).2) ⟨[], lh c0 c1 (putW s w k (rowOf s k) ys).1⟩ := by
  rw [callF_is (fn := f__law_row_deed) rfl rfl]
  have e1 := l_hasR (d := d + 1) (c0 := c0) (c1 := c1) (k := k) hv
  have hl := row_len (k := k) hv
  generalize hr : rowOf s k = row at *
  have e3 := fun xs => l_keepW (d := d) (c0 := c0) (c1 := c1) (k := k) (xs := xs) hz hz2
  have g0 : okSize 0 = true := rfl
  have g1 : okSize ys.length = true := by simp [okSize, sizeLine]; omega
  have g2 : okSize (ys.length + 1) = true := by simp [okSize, sizeLine]; omega
  have g3 : okSize (ys.length + row.length) = true := by simp [okSize, sizeLine]; omega
  have g4 : okSize (row.length + ys.length) = true := by simp [okSize, sizeLine]; omega
  have p0 : (0 : Int) < (ys.length : Int) + 1 := by omega
  have p1 : (0 : Int) < (ys.length : Int) + 1 + 1 := by omega
  unfold putW
  rcases hw with rfl | rfl
  · by_cases z : 200 < ys.length + row.length
    · have z2 : (200 : Int) < (ys.length : Int) + (row.length : Int) := by omega
      simp [f__law_row_deed, run1, run2, recv2, runIdx, seqOf, lstOf, oIdxL, atI, ixN, p0, p1, part, runCut, cut1D, newLst, g0, g1, g2, g3, runCmp, runIn, inT, flat, deq, datOf, e1, oRev, oAdd, oLen, cmpInt, cmpI, z, z2, dLong]
    · have z2 : ¬ (200 : Int) < (ys.length : Int) + (row.length : Int) := by omega
      simp [f__law_row_deed, run1, run2, recv2, runIdx, seqOf, lstOf, oIdxL, atI, ixN, p0, p1, part, runCut, cut1D, newLst, g0, g1, g2, g3, runCmp, runIn, inT, flat, deq, datOf, e1, oRev, oAdd, oLen, cmpInt, cmpI, z, z2, frzIt, getPl, putPl, e3, tNumber]
  · by_cases z : 200 < row.length + ys.length
    · have z2 : (200 : Int) < (row.length : Int) + (ys.length : Int) := by omega
      simp [f__law_row_deed, run1, run2, recv2, runIdx, seqOf, lstOf, oIdxL, atI, ixN, p0, p1, part, runCut, cut1D, newLst, g0, g1, g2, g4, runCmp, runIn, inT, flat, deq, datOf, e1, oRev, oAdd, oLen, cmpInt, cmpI, z, z2, dLong]
    · have z2 : ¬ (200 : Int) < (row.length : Int) + (ys.length : Int) := by omega
      simp [f__law_row_deed, run1, run2, recv2, runIdx, seqOf, lstOf, oIdxL, atI, ixN, p0, p1, part, runCut, cut1D, newLst, g0, g1, g2, g4, runCmp, runIn, inT, flat, deq, datOf, e1, oRev, oAdd, oLen, cmpInt, cmpI, z, z2, frzIt, getPl, putPl, e3, tNumber]
theorem ld_many (hv : ∀ q ∈ s.held, RowV q.2) : callF prog (d + 3) "_law_row_deed" [.ref 5, .lst [.str [109, 97, 110, 121], .str k]] (lh c0 c1 s) = .ok (.val (.tup [tNumber, .int (rowOf s k).length])) ⟨[], lh c0 c1 s⟩ := by
  rw [callF_is (fn := f__law_row_deed) rfl rfl]
  have e1 := l_hasR (d := d + 1) (c0 := c0) (c1 := c1) (k := k) hv
  have g0 : okSize 0 = true := rfl
  have g1 : okSize 1 = true := rfl
  simp [f__law_row_deed, run1, run2, recv2, runIdx, seqOf, lstOf, oIdxL, atI, ixN, part, runCut, cut1D, newLst, g0, g1, runCmp, runIn, inT, flat, deq, datOf, e1, oLen, tNumber]
theorem ld_slice {f l : T} (hv : ∀ q ∈ s.held, RowV q.2) : callF prog (d + 3) "_law_row_deed" [.ref 5, .lst [.str [115, 108, 105, 99, 101], .str k, .str f, .str l]] (lh c0 c1 s) = .ok (.val (slD (rowOf s k) f l)) ⟨[], lh c0 c1 s⟩ := by
  rw [callF_is (fn := f__law_row_deed) rfl rfl]
  have e1 := l_hasR (d := d + 1) (c0 := c0) (c1 := c1) (k := k) hv
  have hl := row_len (k := k) hv
  have g0 : okSize 0 = true := rfl
  have g1 : okSize 3 = true := rfl
  unfold slD
  cases n1 : numIn f with
  | none =>
    cases n2 : numIn l <;> simp [f__law_row_deed, run1, run2, recv2, runIdx, seqOf, lstOf, oIdxL, atI, ixN, part, runCut, cut1D, newLst, g0, g1, runCmp, runIn, inT, flat, deq, datOf, e1, l_number, n1, n2, numD, dNumber]
  | some a =>
    cases n2 : numIn l with
    | none => simp [f__law_row_deed, run1, run2, recv2, runIdx, seqOf, lstOf, oIdxL, atI, ixN, part, runCut, cut1D, newLst, g0, g1, runCmp, runIn, inT, flat, deq, datOf, e1, l_number, n1, n2, numD, dNumber]
    | some b =>
      have k2 := l_slice (d := d + 1) (h := lh c0 c1 s) (xs := rowOf s k) (f := a) (l := b) (by omega)
      have k3 := l_texts (d := d + 1) (h := lh c0 c1 s) (xs := sliceP (rowOf s k) a b) (by have := slice_len (xs := rowOf s k) (f := a) (l := b); simp [sizeLine]; omega)
      simp [f__law_row_deed, run1, run2, recv2, runIdx, seqOf, lstOf, oIdxL, atI, ixN, part, runCut, cut1D, newLst, g0, g1, runCmp, runIn, inT, flat, deq, datOf, e1, l_number, n1, n2, numD, k2, k3]
theorem ld_take_none (hw : w = [116, 97, 107, 101, 102, 105, 114, 115, 116] ∨ w = [116, 97, 107, 101, 108, 97, 115, 116]) (hv : ∀ q ∈ s.held, RowV q.2) (hr : rowOf s k = []) :
    callF prog (d + 3) "_law_row_deed" [.ref 5, .lst [.str w, .str k]] (lh c0 c1 s) = .ok (.val dNone) ⟨[], lh c0 c1 s⟩ := by
  rw [callF_is (fn := f__law_row_deed) rfl rfl]
  have e1 := l_hasR (d := d + 1) (c0 := c0) (c1 := c1) (k := k) hv
  rw [hr] at e1
  have g0 : okSize 0 = true := rfl
  have g1 : okSize 1 = true := rfl
  have q : eqD (.lst []) (.lst []) = some true := rfl
  rcases hw with rfl | rfl <;>
    simp [f__law_row_deed, run1, run2, recv2, runIdx, seqOf, lstOf, oIdxL, atI, ixN, part, runCut, cut1D, newLst, g0, g1, runCmp, runIn, inT, flat, deq, datOf, e1, q, dNone]
theorem ld_first {x : T} {us : List T} (hz : s.stamps.length < sizeLine) (hz2 : s.held.length < sizeLine) (hv : ∀ q ∈ s.held, RowV q.2) (hr : rowOf s k = (x :: us).map .str) (hl : us.length ≤ 1000) :
    callF prog (d + 3) "_law_row_deed" [.ref 5, .lst [.str [116, 97, 107, 101, 102, 105, 114, 115, 116], .str k]] (lh c0 c1 s) = .ok (.val (.tup [.str text, .str x])) ⟨[], lh c0 c1 (keepW s k (us.map .str))⟩ := by
  rw [callF_is (fn := f__law_row_deed) rfl rfl]
  have e1 := l_hasR (d := d + 1) (c0 := c0) (c1 := c1) (k := k) hv
  rw [hr] at e1
  have e3 := l_keepW (d := d) (c0 := c0) (c1 := c1) (k := k) (xs := us.map .str) hz hz2
  have g0 : okSize 0 = true := rfl
  have g1 : okSize 1 = true := rfl
  have g2 : okSize us.length = true := by simp [okSize, sizeLine]; omega
  have q := eqD_row (x :: us)
  simp at q e1
  simp [f__law_row_deed, run1, run2, recv2, runIdx, seqOf, lstOf, oIdxL, atI, ixN, part, runCut, cut1D, newLst, g0, g1, g2, runCmp, runIn, inT, flat, deq, datOf, e1, q, e3, text, show (0 : Int) < (us.length : Int) + 1 from by omega]
theorem last_map (us : List T) (x : T) : (us ++ [x]).map D.str = us.map .str ++ [.str x] := by simp
theorem ld_last {x : T} {us : List T} (hz : s.stamps.length < sizeLine) (hz2 : s.held.length < sizeLine) (hv : ∀ q ∈ s.held, RowV q.2) (hr : rowOf s k = us.map .str ++ [.str x]) (hl : us.length ≤ 1000) :
    callF prog (d + 3) "_law_row_deed" [.ref 5, .lst [.str [116, 97, 107, 101, 108, 97, 115, 116], .str k]] (lh c0 c1 s) = .ok (.val (.tup [.str text, .str x])) ⟨[], lh c0 c1 (keepW s k (us.map .str))⟩ := by
  rw [callF_is (fn := f__law_row_deed) rfl rfl]
  have e1 := l_hasR (d := d + 1) (c0 := c0) (c1 := c1) (k := k) hv
  rw [hr] at e1
  have e3 := l_keepW (d := d) (c0 := c0) (c1 := c1) (k := k) (xs := us.map .str) hz hz2
  have g0 : okSize 0 = true := rfl
  have g1 : okSize 1 = true := rfl
  have g2 : okSize us.length = true := by simp [okSize, sizeLine]; omega
  have q := eqD_row (us ++ [x])
  rw [last_map] at q
  have he : (us ++ [x]).isEmpty = false := by cases us <;> rfl
  rw [he] at q
  have i1 := atI_last (l := us.map D.str) (x := .str x)
  have i2 := cut_init (l := us.map D.str) (x := .str x)
  have i3 : atI [D.str [116, 97, 107, 101, 108, 97, 115, 116], .str k] 0 = some (.str [116, 97, 107, 101, 108, 97, 115, 116]) := rfl
  have i4 : atI [D.str k] 0 = some (.str k) := rfl
  generalize hrow : us.map D.str ++ [.str x] = row at *
  simp [f__law_row_deed, run1, run2, recv2, runIdx, seqOf, lstOf, oIdxL, i3, i4, part, runCut, cut1D, newLst, g0, g1, g2, runCmp, runIn, inT, flat, deq, datOf, e1, q, e3, text, oNeg, i1, i2]
theorem ld_carry_none (hv : ∀ q ∈ s.held, RowV q.2) (hr : rowOf s k = []) :
    callF prog (d + 3) "_law_row_deed" [.ref 5, .lst [.str [99, 97, 114, 114, 121], .str k, .str o]] (lh c0 c1 s) = .ok (.val dNone) ⟨[], lh c0 c1 s⟩ := by
  rw [callF_is (fn := f__law_row_deed) rfl rfl]
  have e1 := l_hasR (d := d + 1) (c0 := c0) (c1 := c1) (k := k) hv
  have e2 := l_hasR (d := d + 1) (c0 := c0) (c1 := c1) (k := o) hv
  rw [hr] at e1
  have g0 : okSize 0 = true := rfl
  have g1 : okSize 2 = true := rfl
  have q : eqD (.lst []) (.lst []) = some true := rfl
  simp [f__law_row_deed, run1, run2, recv2, runIdx, seqOf, lstOf, oIdxL, atI, ixN, part, runCut, cut1D, newLst, g0, g1, runCmp, runIn, inT, flat, deq, datOf, e1, e2, q, dNone]
theorem ld_carry_same {x : T} {us : List T} (hz : s.stamps.length < sizeLine) (hz2 : s.held.length < sizeLine) (hv : ∀ q ∈ s.held, RowV q.2) (hr : rowOf s k = us.map .str ++ [.str x]) (hl : us.length ≤ 1000) :
    callF prog (d + 3) "_law_row_deed" [.ref 5, .lst [.str [99, 97, 114, 114, 121], .str k, .str k]] (lh c0 c1 s) = .ok (.val (.tup [.str text, .str x])) ⟨[], lh c0 c1 (keepW s k ([.str x] ++ us.map .str))⟩ := by
  rw [callF_is (fn := f__law_row_deed) rfl rfl]
  have e1 := l_hasR (d := d + 1) (c0 := c0) (c1 := c1) (k := k) hv
  rw [hr] at e1
  have e3 := l_keepW (d := d) (c0 := c0) (c1 := c1) (k := k) (xs := .str x :: us.map .str) hz hz2
  have g0 : okSize 0 = true := rfl
  have g1 : okSize 1 = true := rfl
  have g5 : okSize 2 = true := rfl
  have g2 : okSize us.length = true := by simp [okSize, sizeLine]; omega
  have g3 : okSize (us.length + 1) = true := by simp [okSize, sizeLine]; omega
  have g4 : okSize (1 + us.length) = true := by simp [okSize, sizeLine]; omega
  have q := eqD_row (us ++ [x])
  rw [last_map] at q
  have he : (us ++ [x]).isEmpty = false := by cases us <;> rfl
  rw [he] at q
  have i1 := atI_last (l := us.map D.str) (x := .str x)
  have i2 := cut_init (l := us.map D.str) (x := .str x)
  have i5 := cut_last (l := us.map D.str) (x := .str x)
  have i3 : atI [D.str [99, 97, 114, 114, 121], .str k, .str k] 0 = some (.str [99, 97, 114, 114, 121]) := rfl
  have i4 : atI [D.str k, .str k] 0 = some (.str k) := rfl
  have i6 : atI [D.str k, .str k] 1 = some (.str k) := rfl
  generalize hrow : us.map D.str ++ [.str x] = row at *
  simp [f__law_row_deed, run1, run2, recv2, runIdx, seqOf, lstOf, oIdxL, i3, i4, i6, part, runCut, cut1D, newLst, g0, g1, g2, g3, g4, g5, runCmp, runIn, inT, flat, deq, datOf, e1, q, e3, text, oNeg, i1, i2, i5, oAdd]
theorem ld_carry_long {x : T} {us : List T} (hv : ∀ q ∈ s.held, RowV q.2) (hr : rowOf s k = us.map .str ++ [.str x]) (hne : o ≠ k) (hlo : (rowOf s o).length = 200) :
    callF prog (d + 3) "_law_row_deed" [.ref 5, .lst [.str [99, 97, 114, 114, 121], .str k, .str o]] (lh c0 c1 s) = .ok (.val dLong) ⟨[], lh c0 c1 s⟩ := by
  rw [callF_is (fn := f__law_row_deed) rfl rfl]
  have e1 := l_hasR (d := d + 1) (c0 := c0) (c1 := c1) (k := k) hv
  have e2 := l_hasR (d := d + 1) (c0 := c0) (c1 := c1) (k := o) hv
  rw [hr] at e1
  have g0 : okSize 0 = true := rfl
  have g5 : okSize 2 = true := rfl
  have q := eqD_row (us ++ [x])
  rw [last_map] at q
  have he : (us ++ [x]).isEmpty = false := by cases us <;> rfl
  rw [he] at q
  have i3 : atI [D.str [99, 97, 114, 114, 121], .str k, .str o] 0 = some (.str [99, 97, 114, 114, 121]) := rfl
  have i4 : atI [D.str k, .str o] 0 = some (.str k) := rfl
  have i6 : atI [D.str k, .str o] 1 = some (.str o) := rfl
  generalize hrow : us.map D.str ++ [.str x] = row at *
  simp [f__law_row_deed, run1, run2, recv2, runIdx, seqOf, lstOf, oIdxL, i3, i4, i6, part, runCut, cut1D, newLst, g0, g5, runCmp, runIn, inT, flat, deq, datOf, e1, e2, q, hne, oLen, hlo, dLong]
theorem ld_carry {x : T} {us : List T} (hz : s.stamps.length + 2 < sizeLine) (hz2 : s.held.length + 2 < sizeLine) (hv : ∀ q ∈ s.held, RowV q.2) (hr : rowOf s k = us.map .str ++ [.str x]) (hl : us.length ≤ 1000) (hne : o ≠ k) (hlo : (rowOf s o).length < 200) :
    callF prog (d + 3) "_law_row_deed" [.ref 5, .lst [.str [99, 97, 114, 114, 121], .str k, .str o]] (lh c0 c1 s) = .ok (.val (.tup [.str text, .str x])) ⟨[], lh c0 c1 (keepW (keepW s o ([.str x] ++ rowOf s o)) k (us.map .str))⟩ := by
  rw [callF_is (fn := f__law_row_deed) rfl rfl]
  have e1 := l_hasR (d := d + 1) (c0 := c0) (c1 := c1) (k := k) hv
  have e2 := l_hasR (d := d + 1) (c0 := c0) (c1 := c1) (k := o) hv
  rw [hr] at e1
  have l1 := keepW_st s o (.str x :: rowOf s o)
  have l2 : (keepW s o (.str x :: rowOf s o)).held.length ≤ s.held.length + 1 := by
    rw [keepW_held]
    exact hR_len _ _ _
  have e3 := l_keepW (d := d) (c0 := c0) (c1 := c1) (k := o) (xs := .str x :: rowOf s o) (s := s) (by omega) (by omega)
  have e4 := l_keepW (d := d) (c0 := c0) (c1 := c1) (k := k) (xs := us.map .str) (s := keepW s o (.str x :: rowOf s o)) (by omega) (by omega)
  have g0 : okSize 0 = true := rfl
  have g1 : okSize 1 = true := rfl
  have g5 : okSize 2 = true := rfl
  have g2 : okSize us.length = true := by simp [okSize, sizeLine]; omega
  have g3 : okSize ((rowOf s o).length + 1) = true := by simp [okSize, sizeLine]; omega
  have g4 : okSize (1 + (rowOf s o).length) = true := by simp [okSize, sizeLine]; omega
  have g6 : ¬ (((rowOf s o).length : Int) = 200) := by omega
  have q := eqD_row (us ++ [x])
  rw [last_map] at q
  have he : (us ++ [x]).isEmpty = false := by cases us <;> rfl
  rw [he] at q
  have i1 := atI_last (l := us.map D.str) (x := .str x)
  have i2 := cut_init (l := us.map D.str) (x := .str x)
  have i5 := cut_last (l := us.map D.str) (x := .str x)
  have i3 : atI [D.str [99, 97, 114, 114, 121], .str k, .str o] 0 = some (.str [99, 97, 114, 114, 121]) := rfl
  have i4 : atI [D.str k, .str o] 0 = some (.str k) := rfl
  have i6 : atI [D.str k, .str o] 1 = some (.str o) := rfl
  generalize hrow : us.map D.str ++ [.str x] = row at *
  simp [f__law_row_deed, run1, run2, recv2, runIdx, seqOf, lstOf, oIdxL, i3, i4, i6, part, runCut, cut1D, newLst, g0, g1, g2, g3, g4, g5, runCmp, runIn, inT, flat, deq, datOf, e1, e2, q, hne, oLen, g6, e3, e4, text, oNeg, i1, i2, i5, oAdd]
end
end KW
/-! KwW1: what is drawn. -/
namespace KW
section
variable {d : Nat} {c0 c1 : Cell} {s : Sto} {h : List Cell} {ns : List Int} {town : List D}
@[simp] theorem lh0 : (lh c0 c1 s)[0]? = some c0 := rfl
@[simp] theorem lh1 : (lh c0 c1 s)[1]? = some c1 := rfl
@[simp] theorem ls0 (c : Cell) : (lh c0 c1 s).set 0 c = lh c c1 s := rfl
@[simp] theorem ls1 (c : Cell) : (lh c0 c1 s).set 1 c = lh c0 c s := rfl
theorem l_cell {k : Int} (hk : 0 ≤ k) : ∃ x : Int, callF prog (d + 1) "_law_cell" [.lst (ns.map .int), .int k] h = .ok (.val (.int x)) ⟨[], h⟩ := by
  cases ns with
  | nil =>
    refine ⟨0, ?_⟩
    rw [callF_is (fn := f__law_cell) rfl rfl]
    simp [f__law_cell]
  | cons a r =>
    have hp : (0 : Int) < (((a :: r).length : Nat) : Int) := by
      rw [List.length_cons]
      omega
    have e1 := Int.emod_nonneg k (Int.ne_of_gt hp)
    have e2 := Int.emod_lt_of_pos k hp
    have hlt : (k % (((a :: r).length : Nat) : Int)).toNat < (a :: r).length := by omega
    refine ⟨(a :: r)[(k % (((a :: r).length : Nat) : Int)).toNat]'hlt, ?_⟩
    rw [callF_is (fn := f__law_cell) rfl rfl]
    have e3 : atI ((a :: r).map D.int) (k % (((a :: r).length : Nat) : Int)) = some (.int ((a :: r)[(k % (((a :: r).length : Nat) : Int)).toNat]'hlt)) := by
      unfold atI ixN
      rw [List.length_map, if_pos e1, if_pos e2]
      show ((a :: r).map D.int)[_]? = _
      rw [List.getElem?_map, List.getElem?_eq_getElem hlt]
      rfl
    generalize hz : (a :: r)[(k % (((a :: r).length : Nat) : Int)).toNat]'hlt = z at *
    generalize hl : (a :: r).map D.int = l at *
    have hle : l.isEmpty = false := by rw [← hl]; rfl
    have hll : l.length = (a :: r).length := by rw [← hl, List.length_map]
    rw [← hll] at e3 hp
    have hp2 : 0 < l.length := by omega
    simp [f__law_cell, hle, run1, run2, recv2, oLen, seqOf, lstOf, oMod, hp2, runIdx, oIdxL, e3]
theorem l_mix {k : Int} (hk : 0 ≤ k) : ∃ x : Int, 0 ≤ x ∧ callF prog (d + 2) "_law_mix" [.lst (ns.map .int), .int k] h = .ok (.val (.int x)) ⟨[], h⟩ := by
  obtain ⟨x, e⟩ := l_cell (d := d) (h := h) (ns := ns) hk
  rw [callF_is (fn := f__law_mix) rfl rfl]
  have b1 := Int.emod_nonneg ((x + 104729 * (k + 1))) (show (4294967291 : Int) ≠ 0 by decide)
  have b2 := Int.emod_lt_of_pos ((x + 104729 * (k + 1))) (show (0 : Int) < 4294967291 by decide)
  have g1 : -18446744073709551616 < (x + 104729 * (k + 1)) % 4294967291 := by omega
  have g2 : (x + 104729 * (k + 1)) % 4294967291 < 18446744073709551616 := by omega
  generalize hy : (x + 104729 * (k + 1)) % 4294967291 = y at *
  have b3 := Int.emod_nonneg (y * 48271) (show (4294967279 : Int) ≠ 0 by decide)
  have b4 := Int.emod_lt_of_pos (y * 48271) (show (0 : Int) < 4294967279 by decide)
  generalize hz : y * 48271 % 4294967279 = z at *
  have g3 : -18446744073709551616 < z / 64 := by omega
  have g4 : z / 64 < 18446744073709551616 := by omega
  refine ⟨(z / 64 * 69621 + z) % 4294967231, Int.emod_nonneg _ (by decide), ?_⟩
  simp [f__law_mix, e, run2, recv2, oAdd, oMul, oMod, oDiv, hy, g1, g2, hz, g3, g4]
theorem l_draw {m : Int} (hm : 0 < m) (hz : town.length < 10000) : ∃ r : Int, 0 ≤ r ∧ r < m ∧ callF prog (d + 3) "_law_draw" [.lst (ns.map .int), .ref 0, .int m] (lh (.lst town) c1 s) = .ok (.val (.int r)) ⟨[], lh (.lst (town ++ [.int 0])) c1 s⟩ := by
  obtain ⟨x, hx, e⟩ := l_mix (d := d) (h := lh (.lst (town ++ [.int 0])) c1 s) (ns := ns) (k := ((town.length : Int) + 1)) (by omega)
  refine ⟨x / 8 % m, Int.emod_nonneg _ (by omega), Int.emod_lt_of_pos _ hm, ?_⟩
  rw [callF_is (fn := f__law_draw) rfl rfl]
  have g : town.length < sizeLine := by simp [sizeLine]; omega
  simp [f__law_draw, recvM, lstOf, runMu, muL, g, run1, run2, recv2, oLen, seqOf, e, oDiv, oMod, hm]
theorem l_pick {ys : List D} (hy : ys ≠ []) (hz : town.length < 10000) : ∃ y ∈ ys, callF prog (d + 4) "_law_pick" [.lst (ns.map .int), .ref 0, .lst ys] (lh (.lst town) c1 s) = .ok (.val y) ⟨[], lh (.lst (town ++ [.int 0])) c1 s⟩ := by
  have hp : 0 < ys.length := List.length_pos_iff.mpr hy
  obtain ⟨r, h1, h2, e⟩ := l_draw (d := d) (c1 := c1) (s := s) (ns := ns) (m := (ys.length : Int)) (by omega) hz
  have hlt : r.toNat < ys.length := by omega
  refine ⟨ys[r.toNat], List.getElem_mem hlt, ?_⟩
  rw [callF_is (fn := f__law_pick) rfl rfl]
  have e3 : atI ys r = some ys[r.toNat] := by
    unfold atI ixN
    rw [if_pos h1, if_pos h2]
    show ys[_]? = _
    rw [List.getElem?_eq_getElem hlt]
  simp [f__law_pick, run1, oLen, seqOf, lstOf, e, run2, recv2, runIdx, oIdxL, e3]
end
end KW
/-! KwR8: the words that are drawn. -/
namespace KW
inductive W12 : List D → Prop where
  | first (k : T) (ts : List T) : 1 ≤ ts.length → ts.length ≤ 198 → W12 (.str [102, 105, 114, 115, 116] :: .str k :: ts.map .str)
  | last (k : T) (ts : List T) : 1 ≤ ts.length → ts.length ≤ 198 → W12 (.str [108, 97, 115, 116] :: .str k :: ts.map .str)
  | tf (k : T) : W12 [.str [116, 97, 107, 101, 102, 105, 114, 115, 116], .str k]
  | tl (k : T) : W12 [.str [116, 97, 107, 101, 108, 97, 115, 116], .str k]
  | many (k : T) : W12 [.str [109, 97, 110, 121], .str k]
  | slice (k f l : T) : W12 [.str [115, 108, 105, 99, 101], .str k, .str f, .str l]
  | carry (k o : T) : W12 [.str [99, 97, 114, 114, 121], .str k, .str o]
  | drop (k : T) : W12 [.str [100, 114, 111, 112], .str k]
  | kind (k : T) : W12 [.str [107, 105, 110, 100], .str k]
  | ren (k o : T) : W12 [.str [114, 101, 110, 97, 109, 101], .str k, .str o]
def strB (ys : List D) : Bool := ys.all fun d => match d with
  | .str _ => true
  | _ => false
theorem str_is {ys : List D} {y : D} (h : strB ys = true) (hy : y ∈ ys) : ∃ t : T, y = .str t := by
  have := List.all_eq_true.mp h y hy
  cases y with
  | str t => exact ⟨t, rfl⟩
  | _ => cases this
theorem rep_is (m : Int) (t : T) : rep m [D.str t] = (List.replicate m.toNat t).map .str := by
  unfold rep
  induction m.toNat with
  | zero => rfl
  | succ n ih => rw [List.replicate_succ, List.replicate_succ, List.flatten_cons, ih]; rfl
section
variable {d : Nat} {c1 : Cell} {s : Sto} {ns : List Int} {town : List D}
theorem pick_s {ys : List D} (hb : strB ys = true) (hy : ys ≠ []) (hz : town.length < 10000) : ∃ t : T, callF prog (d + 4) "_law_pick" [.lst (ns.map .int), .ref 0, .lst ys] (lh (.lst town) c1 s) = .ok (.val (.str t)) ⟨[], lh (.lst (town ++ [.int 0])) c1 s⟩ := by
  obtain ⟨y, h1, h2⟩ := l_pick (d := d) (c1 := c1) (s := s) (ns := ns) hy hz
  obtain ⟨t, rfl⟩ := str_is hb h1
  exact ⟨t, h2⟩
theorem picks_go {fc : S → R Bool} {fe : S → R D} {σ : List (Option SV)} (h1 : ∀ s, fc s = .ok true s) (h2 : ∀ (x : D) (town : List D), town.length < 10000 → ∃ t : T, fe ⟨σ.set 7 (some (.val x)), lh (.lst town) c1 s⟩ = .ok (.str t) ⟨σ.set 7 (some (.val x)), lh (.lst (town ++ [.int 0])) c1 s⟩) :
    ∀ (ds : List D) (σ' : List (Option SV)) (town : List D) (acc : List D), town.length + ds.length < 10000 → (∀ x, σ'.set 7 x = σ.set 7 x) →
    ∃ (σ'' : List (Option SV)) (ts : List T) (town' : List D), (∀ x, σ''.set 7 x = σ.set 7 x) ∧ ts.length = ds.length ∧ town'.length = town.length + ds.length ∧ compLoop [7] fc fe ds ⟨σ', lh (.lst town) c1 s⟩ acc = .ok (acc.reverse ++ ts.map .str) ⟨σ'', lh (.lst town') c1 s⟩
  | [], σ', town, acc, _, hs => ⟨σ', [], town, hs, rfl, rfl, by simp [compLoop]⟩
  | x :: r, σ', town, acc, hz, hs => by
    rw [List.length_cons] at hz
    obtain ⟨t, e⟩ := h2 x town (by omega)
    obtain ⟨σ2, ts, town2, k1, k2, k3, k4⟩ := picks_go h1 h2 r (σ.set 7 (some (.val x))) (town ++ [.int 0]) (.str t :: acc) (by simp; omega) (fun y => by rw [List.set_set])
    refine ⟨σ2, t :: ts, town2, k1, by simp [k2], by rw [k3]; simp; omega, ?_⟩
    rw [compLoop]
    simp only [bindT, hs]
    rw [h1, bind_ok, if_pos rfl, e, bind_ok, k4]
    simp
theorem l_picks {ds : List D} {ys : List E} {zs : List D} {x2 x3 x4 x5 x6 : Option SV} (hz : town.length + ds.length < 10000) (hb : strB zs = true) (hy : zs ≠ []) (hl : okSize zs.length = true) (hds : okSize ds.length = true)
    (he : ∀ (σ : List (Option SV)) (h : List Cell), evalEs (callF prog (d + 4)) ys ⟨σ, h⟩ = .ok zs ⟨σ, h⟩) : ∃ (ts : List T) (town' : List D), ts.length = ds.length ∧ town'.length = town.length + ds.length ∧
    kComp (callF prog (d + 4)) [7] [] (.call "_law_pick" [.var 0, .var 1, .lst ys]) (.ok (ds, false) ⟨[some (.val (.lst (ns.map .int))), some (.val (.ref 0)), x2, x3, x4, x5, x6, none], lh (.lst town) c1 s⟩) =
      .ok (.own (.lst (ts.map .str))) ⟨[some (.val (.lst (ns.map .int))), some (.val (.ref 0)), x2, x3, x4, x5, x6, none], lh (.lst town') c1 s⟩ := by
  rw [kComp_ok]
  obtain ⟨σ2, ts, town', k1, k2, k3, k4⟩ := picks_go (c1 := c1) (s := s) (σ := [some (.val (.lst (ns.map .int))), some (.val (.ref 0)), x2, x3, x4, x5, x6, none]) (fc := runC (callF prog (d + 4)) []) (fe := runX (callF prog (d + 4)) (.call "_law_pick" [.var 0, .var 1, .lst ys]))
    (fun s => by simp [runC]) (fun x town hz => by
      obtain ⟨t, e⟩ := pick_s (d := d) (c1 := c1) (s := s) (ns := ns) hb hy hz
      refine ⟨t, ?_⟩
      generalize ns.map D.int = scr at *
      simp [runX, exports, he, newLst, hl, e]) ds _ town [] hz (fun _ => rfl)
  refine ⟨ts, town', k2, k3, ?_⟩
  simp only [Bool.false_and, if_neg Bool.false_ne_true]
  rw [k4, kCalm_ok, kComp2_ok]
  have g : okSize (ts.map D.str).length = true := by rw [List.length_map, k2]; exact hds
  simp only [newLst, List.reverse_nil, List.nil_append, g, if_true, opt]
  rw [back_none rfl k1]
end
end KW
/-! KwR9: a row of words. -/
namespace KW
def nums3 : List D := [.int 66, .int 100, .int 198]
section
variable {d : Nat} {c1 : Cell} {s : Sto} {ns : List Int} {town : List D}
theorem pick_n (hz : town.length < 10000) : ∃ m : Int, 1 ≤ m ∧ m ≤ 198 ∧ callF prog (d + 4) "_law_pick" [.lst (ns.map .int), .ref 0, .lst [.int 66, .int 100, .int 198]] (lh (.lst town) c1 s) = .ok (.val (.int m)) ⟨[], lh (.lst (town ++ [.int 0])) c1 s⟩ := by
  obtain ⟨y, h1, h2⟩ := l_pick (d := d) (c1 := c1) (s := s) (ns := ns) (ys := [.int 66, .int 100, .int 198]) (by simp) hz
  simp at h1
  rcases h1 with rfl | rfl | rfl
  · exact ⟨66, by decide, by decide, h2⟩
  · exact ⟨100, by decide, by decide, h2⟩
  · exact ⟨198, by decide, by decide, h2⟩
/-- behind the texts are drawn -/
theorem words_tail (k o : T) (ts : List T) (ht : 1 ≤ ts.length) (ht2 : ts.length ≤ 198) (hz : town.length < 9000) {x5 x6 : Option SV} :
    ∃ w town', W12 w ∧ town'.length ≤ town.length + 3 ∧ kFn (execs (callF prog (d + 4)) (f__law_words.body.drop 4) ⟨[some (.val (.lst (ns.map .int))), some (.val (.ref 0)), some (.val (.str k)), some (.val (.str o)), some (.own (.lst (ts.map .str))), none, none, none], lh (.lst town) c1 s⟩) = .ok (.val (.lst w)) ⟨[], lh (.lst town') c1 s⟩ := by
  have Q := l_picks (d := d) (c1 := c1) (s := s) (ns := ns) (town := town) (ds := range' 0 1 2) (ys := [.cst (.str [48]), .cst (.str [49]), .cst (.str [50]), .cst (.str [45, 49]), .cst (.str [45, 50]), .cst (.str [45, 57]), .cst (.str [57]), .cst (.str [120]), .cst (.str [50, 48, 48])])
    (zs := [.str [48], .str [49], .str [50], .str [45, 49], .str [45, 50], .str [45, 57], .str [57], .str [120], .str [50, 48, 48]]) (x2 := some (.val (.str k))) (x3 := some (.val (.str o))) (x4 := some (.own (.lst (ts.map .str)))) (x5 := none) (x6 := none)
    (by simp [range']; omega) rfl (by simp) rfl rfl (fun σ h => by simp)
  obtain ⟨ps, town1, p1, p2, e1⟩ := Q
  have pl : ps.length = 2 := p1
  obtain ⟨f, l, rfl⟩ : ∃ f l, ps = [f, l] := by
    match ps, pl with
    | [f, l], _ => exact ⟨f, l, rfl⟩
  have last := l_pick (d := d) (c1 := c1) (s := s) (ns := ns) (town := town1)
    (ys := [.lst (.str [102, 105, 114, 115, 116] :: .str k :: ts.map .str), .lst (.str [108, 97, 115, 116] :: .str k :: ts.map .str), .lst [.str [116, 97, 107, 101, 102, 105, 114, 115, 116], .str k], .lst [.str [116, 97, 107, 101, 108, 97, 115, 116], .str k], .lst [.str [109, 97, 110, 121], .str k],
      .lst [.str [115, 108, 105, 99, 101], .str k, .str f, .str l], .lst [.str [115, 108, 105, 99, 101], .str k, .str f, .str l], .lst [.str [99, 97, 114, 114, 121], .str k, .str o], .lst [.str [99, 97, 114, 114, 121], .str k, .str o],
      .lst [.str [100, 114, 111, 112], .str k], .lst [.str [107, 105, 110, 100], .str k], .lst [.str [114, 101, 110, 97, 109, 101], .str k, .str o]]) (by simp) (by have : town1.length = town.length + 2 := p2; omega)
  obtain ⟨y, hy, e6⟩ := last
  have hw : ∃ w, y = .lst w ∧ W12 w := by
    simp only [List.mem_cons, List.not_mem_nil, or_false] at hy
    rcases hy with rfl | rfl | rfl | rfl | rfl | rfl | rfl | rfl | rfl | rfl | rfl | rfl
    · exact ⟨_, rfl, .first k ts ht ht2⟩
    · exact ⟨_, rfl, .last k ts ht ht2⟩
    · exact ⟨_, rfl, .tf k⟩
    · exact ⟨_, rfl, .tl k⟩
    · exact ⟨_, rfl, .many k⟩
    · exact ⟨_, rfl, .slice k f l⟩
    · exact ⟨_, rfl, .slice k f l⟩
    · exact ⟨_, rfl, .carry k o⟩
    · exact ⟨_, rfl, .carry k o⟩
    · exact ⟨_, rfl, .drop k⟩
    · exact ⟨_, rfl, .kind k⟩
    · exact ⟨_, rfl, .ren k o⟩
  obtain ⟨w, rfl, hw⟩ := hw
  refine ⟨w, town1 ++ [.int 0], hw, by have : town1.length = town.length + 2 := p2; simp; omega, ?_⟩
  have sz : ∀ n : Nat, n ≤ 1000 → okSize n = true := fun n h => by simp [okSize, sizeLine]; omega
  have s1 : okSize (ts.length + 1 + 1) = true := sz _ (by omega)
  have s2 : okSize (2 + ts.length) = true := sz _ (by omega)
  generalize ns.map D.int = scr at *
  generalize hr : ts.map D.str = row at *
  have hrl : row.length = ts.length := by rw [← hr, List.length_map]
  have s3 : okSize (2 + row.length) = true := by rw [hrl]; exact s2
  simp only [List.map_cons, List.map_nil] at e1
  have ran : (range' 0 1 2, false) = (range' 0 1 (Int.toNat 2), false) := rfl
  have hr2 : range' 0 1 (Int.toNat 2) = range' 0 1 2 := rfl
  simp [f__law_words, hr2, e1]
  simp [newLst, sz, run2, oAdd, lstOf, s3, recv2, e6]
  done
theorem l_words (hz : town.length < 8000) : ∃ w town', W12 w ∧ town'.length ≤ town.length + 20 ∧ callF prog (d + 5) "_law_words" [.lst (ns.map .int), .ref 0] (lh (.lst town) c1 s) = .ok (.val (.lst w)) ⟨[], lh (.lst town') c1 s⟩ := by
  obtain ⟨k, e1⟩ := pick_s (d := d) (c1 := c1) (s := s) (ns := ns) (town := town) (ys := [.str [97], .str [98], .str [99]]) rfl (by simp) (by omega)
  obtain ⟨o, e2⟩ := pick_s (d := d) (c1 := c1) (s := s) (ns := ns) (town := town ++ [.int 0]) (ys := [.str [97], .str [98], .str [99]]) rfl (by simp) (by simp; omega)
  obtain ⟨r, r1, r2, e3⟩ := l_draw (d := d + 1) (c1 := c1) (s := s) (ns := ns) (town := town ++ [.int 0] ++ [.int 0]) (m := 3) (by decide) (by simp; omega)
  have rl : (range' 0 1 (1 + r).toNat).length = (1 + r).toNat := by
    have : ∀ (n : Nat) (a c : Int), (range' a c n).length = n := fun n => by
      induction n with
      | zero => exact fun _ _ => rfl
      | succ n ih => exact fun a c => by rw [range', List.length_cons, ih]
    exact this _ _ _
  obtain ⟨ts, town1, t1, t2, e4⟩ := l_picks (d := d) (c1 := c1) (s := s) (ns := ns) (town := town ++ [.int 0] ++ [.int 0] ++ [.int 0]) (ds := range' 0 1 (1 + r).toNat) (ys := [.cst (.str [120]), .cst (.str [121]), .cst (.str [122]), .cst (.str []), .cst (.str [49])])
    (zs := [.str [120], .str [121], .str [122], .str [], .str [49]]) (x2 := some (.val (.str k))) (x3 := some (.val (.str o))) (x4 := none) (x5 := none) (x6 := none)
    (by rw [rl]; simp; omega) rfl (by simp) rfl (by rw [rl]; simp [okSize, sizeLine]; omega) (fun σ h => by simp)
  have l1 : town1.length ≤ town.length + 6 := by rw [t2, rl]; simp; omega
  obtain ⟨q, q1, q2, e5⟩ := l_draw (d := d + 1) (c1 := c1) (s := s) (ns := ns) (town := town1) (m := 10) (by decide) (by omega)
  have b1 : 1 ≤ ts.length := by rw [t1, rl]; omega
  have b2 : ts.length ≤ 198 := by rw [t1, rl]; omega
  have g1 : -4611686018427387904 ≤ 1 + r := by omega
  have g2 : 1 + r < 4611686018427387904 := by omega
  have sz : ∀ n : Nat, n ≤ 1000 → okSize n = true := fun n h => by simp [okSize, sizeLine]; omega
  by_cases z : q = 0
  · obtain ⟨m, m1, m2, e6⟩ := pick_n (d := d) (c1 := c1) (s := s) (ns := ns) (town := town1 ++ [.int 0]) (by simp; omega)
    obtain ⟨w, town', W, lt, e7⟩ := words_tail (d := d) (c1 := c1) (s := s) (ns := ns) (town := town1 ++ [.int 0] ++ [.int 0]) k o (List.replicate m.toNat [119]) (by simp; omega) (by simp; omega) (by simp; omega) (x5 := none) (x6 := none)
    refine ⟨w, town', W, by simp at lt; omega, ?_⟩
    rw [callF_is (fn := f__law_words) rfl rfl]
    have rp := rep_is m [119]
    have s4 : okSize (List.replicate m.toNat [119]).length = true := by simp; exact sz _ (by omega)
    simp at s4
    generalize hrr : (List.replicate m.toNat [119]).map D.str = row at *
    have hrl : row.length = m.toNat := by rw [← hrr]; simp
    generalize ns.map D.int = scr at *
    simp [f__law_words, List.append_assoc] at e1 e2 e3 e4 e5 e6 e7
    simp [f__law_words, newLst, sz, e1, e2, e3, run2, recv2, oAdd, g1, g2, e4, e5, z, runCmp, datOf]
    simp [e6, oMul, newLst, show (0 : Int) ≤ m from by omega, show m ≤ 1000 from by omega, rp, hrl, s4, run2]
    exact e7
  · obtain ⟨w, town', W, lt, e7⟩ := words_tail (d := d) (c1 := c1) (s := s) (ns := ns) (town := town1 ++ [.int 0]) k o ts b1 b2 (by simp; omega) (x5 := none) (x6 := none)
    refine ⟨w, town', W, by simp at lt; omega, ?_⟩
    rw [callF_is (fn := f__law_words) rfl rfl]
    generalize hrr : ts.map D.str = row at *
    generalize ns.map D.int = scr at *
    simp [f__law_words, List.append_assoc] at e1 e2 e3 e4 e5 e7
    simp [f__law_words, newLst, sz, e1, e2, e3, run2, recv2, oAdd, g1, g2, e4, e5, z, runCmp, datOf]
    exact e7
end
end KW
/-! KwR10: one deed, told alike by both; the law of rows. -/
namespace KW
/-- what an answer is: a tuple of data -/
structure OkA (a : D) : Prop where
  ne : ∃ x xs, a = .tup (x :: xs)
  da : shaped a = true
theorem okA_of {x : D} {xs : List D} (h : shaped (.tup (x :: xs)) = true) : OkA (.tup (x :: xs)) := ⟨⟨x, xs, rfl⟩, h⟩
theorem shaped_row {xs : List D} (h : ∀ d ∈ xs, ∃ t, d = .str t) : isDatas (xs.map fun x => D.tup [.str text, x]) = true ∧ deps (xs.map fun x => D.tup [.str text, x]) ≤ 1 := by
  induction xs with
  | nil => exact ⟨rfl, Nat.zero_le _⟩
  | cons x r ih =>
    obtain ⟨t, rfl⟩ := h x (by simp)
    obtain ⟨h1, h2⟩ := ih fun d hd => h d (by simp [hd])
    constructor
    · simp [isDatas, isData, h1]
    · simp [deps, dep]
      omega
theorem okA_row {xs : List D} (h : ∀ d ∈ xs, ∃ t, d = .str t) : OkA (rowD xs) := by
  obtain ⟨h1, h2⟩ := shaped_row h
  refine okA_of ?_
  simp [shaped, isData, isDatas, h1, dep, deps]
  omega
mutual
theorem deq_refl : ∀ d : D, isData d = true → deq d d = true
  | .non, _ => rfl
  | .bl b, _ => by simp [deq]
  | .int i, _ => by simp [deq]
  | .str t, _ => by simp [deq]
  | .tup xs, h => by
    unfold deq
    exact deqs_refl xs (by simpa [isData] using h)
  | .lst xs, h => by
    unfold deq
    exact deqs_refl xs (by simpa [isData] using h)
  | .dct _, h => by simp [isData] at h
  | .ref _, h => by simp [isData] at h
  | .exc _ _, h => by simp [isData] at h
theorem deqs_refl : ∀ xs : List D, isDatas xs = true → deqs xs xs = true
  | [], _ => rfl
  | x :: r, h => by
    simp only [isDatas, Bool.and_eq_true] at h
    unfold deqs
    rw [deq_refl x h.1, deqs_refl r h.2]; rfl
end
theorem eqD_self {d : D} (h : shaped d = true) : eqD d d = some true := by
  unfold eqD
  rw [if_pos (by rw [h]; rfl)]
  have h1 : isData d = true := by
    unfold shaped at h
    exact (Bool.and_eq_true_iff.mp h).1
  rw [deq_refl d h1]

structure I12 (s t : Sto) (n : Nat) : Prop where
  he : s.held.length ≤ n
  st : s.stamps.length ≤ n
  tt : t.stamps.length ≤ n
  vs : ∀ q ∈ s.held, RowV q.2
  ks : ∀ q ∈ s.held, ∃ t : T, q.1 = .inr t
  en : s.ends = []
  te : t.ends = []
  eq : t.held = s.held
theorem I12.mono {s t : Sto} {n m : Nat} (I : I12 s t n) (h : n ≤ m) : I12 s t m := ⟨Nat.le_trans I.he h, Nat.le_trans I.st h, Nat.le_trans I.tt h, I.vs, I.ks, I.en, I.te, I.eq⟩
theorem ends_drop {s : Sto} (k : T) (h : s.ends = []) : (dropS s k).ends = [] := by
  have := drop_enl s k
  rw [h] at this
  exact List.length_eq_zero_iff.mp (Nat.le_zero.mp this)
theorem I12.drop {s t : Sto} {n : Nat} (I : I12 s t n) (k : T) : I12 (dropS s k) (dropS t k) (n + 1) := by
  refine ⟨Nat.le_succ_of_le (Nat.le_trans (drop_he s k) I.he), Nat.le_trans (drop_st s k) (Nat.succ_le_succ I.st), Nat.le_trans (drop_st t k) (Nat.succ_le_succ I.tt), fun q hq => I.vs q (drop_held hq), fun q hq => I.ks q (drop_held hq), ends_drop k I.en, ends_drop k I.te, ?_⟩
  rw [drop_is, drop_is, I.eq]
theorem I12.keep {s t : Sto} {n : Nat} (I : I12 s t n) (k : T) {ts : List T} (hl : ts.length ≤ 200) : I12 (keepR s k (ts.map .str)) (keepW t k (ts.map .str)) (n + 1) := by
  refine ⟨Nat.le_trans (keep_he s k _) (Nat.succ_le_succ I.he), Nat.le_trans (keep_st s k _) (Nat.succ_le_succ I.st), Nat.le_trans (keepW_st t k _) (Nat.succ_le_succ I.tt), row_keep I.vs hl, fun q hq => ?_, ?_, ?_, ?_⟩
  · rw [keepR_held] at hq
    unfold hR at hq
    split at hq
    · exact I.ks q (kdel_sub hq)
    · rcases kput_sub hq with h | rfl
      · exact I.ks q h
      · exact ⟨k, rfl⟩
  · unfold keepR
    split
    · exact ends_drop k I.en
    · exact I.en
  · unfold keepW
    split
    · show kdel _ t.ends = []
      rw [I.te]; rfl
    · exact I.te
  · rw [keepR_held, keepW_held, I.eq]
theorem row_ts {s t : Sto} {n : Nat} (I : I12 s t n) (k : T) : ∃ ts : List T, rowOf s k = ts.map .str ∧ rowOf t k = ts.map .str ∧ ts.length ≤ 200 := by
  have e : rowOf t k = rowOf s k := by rw [rowOf_is, rowOf_is, I.eq]
  rcases find_row (k := k) I.vs with ⟨_, h⟩ | ⟨ts, _, h, _, hl⟩
  · exact ⟨[], h, e.trans h, Nat.zero_le _⟩
  · exact ⟨ts, h, e.trans h, hl⟩
def Due (d : Nat) (w : List D) (s s' : Sto) (a : D) : Prop := ∀ c0 c1 : Cell,
  (callF prog (d + 7) "_law_keys" [.ref 5, .lst w] (lh c0 c1 s) = .ok (.val a) ⟨[], lh c0 c1 s'⟩) ∨
  (callF prog (d + 7) "_law_keys" [.ref 5, .lst w] (lh c0 c1 s) = .ok (.val .non) ⟨[], lh c0 c1 s⟩ ∧ callF prog (d + 7) "_law_row_deed" [.ref 5, .lst w] (lh c0 c1 s) = .ok (.val a) ⟨[], lh c0 c1 s'⟩)
def Ans (d : Nat) (w : List D) (s s' : Sto) (a : D) : Prop := ∀ (h : List Cell) (i : Nat), h[i]? = some s.cell → callF prog (d + 7) "answer" [.ref i, .lst w] h = .ok (.val a) ⟨[], h.set i s'.cell⟩
theorem sl_str {ts : List T} {f l : Int} : ∀ d ∈ sliceP (ts.map .str) f l, ∃ t, d = .str t := by
  intro d hd
  unfold sliceP at hd
  split at hd
  · obtain ⟨t, _, rfl⟩ := List.mem_map.mp (List.mem_of_mem_drop (List.mem_of_mem_take hd))
    exact ⟨t, rfl⟩
  · cases hd
theorem step (d : Nat) {w : List D} (W : W12 w) {s t : Sto} {n : Nat} (I : I12 s t n) (hn : n ≤ 190) : ∃ s' t' a, I12 s' t' (n + 3) ∧ OkA a ∧ Due d w t t' a ∧ Ans d w s s' a := by
  have z1 : s.stamps.length < sizeLine := by have := I.st; simp [sizeLine]; omega
  have y1 : t.stamps.length < sizeLine := by have := I.tt; simp [sizeLine]; omega
  have z2 : s.held.length < sizeLine := by have := I.he; simp [sizeLine]; omega
  have y2 : t.held.length < sizeLine := by rw [I.eq]; exact z2
  have z3 : s.stamps.length + 3 < sizeLine := by have := I.st; simp [sizeLine]; omega
  have y3 : t.stamps.length + 3 < sizeLine := by have := I.tt; simp [sizeLine]; omega
  have z4 : s.held.length + 2 < sizeLine := by have := I.he; simp [sizeLine]; omega
  have y4 : t.held.length + 2 < sizeLine := by rw [I.eq]; exact z4
  have vt : ∀ q ∈ t.held, RowV q.2 := by rw [I.eq]; exact I.vs
  have kt : ∀ (w : T) (xs : List D), xs.length ≤ 1000 → (w ≠ [104, 97, 115] ∧ w ≠ [100, 114, 111, 112] ∧ w ≠ [107, 105, 110, 100] ∧ w ≠ [107, 101, 121, 115] ∧ w ≠ [114, 101, 110, 97, 109, 101] ∧ w ≠ [101, 110, 100] ∧ w ≠ [108, 101, 102, 116] ∧ w ≠ [115, 116, 97, 121]) → ∀ c0 c1 : Cell,
    callF prog (d + 7) "_law_keys" [.ref 5, .lst (.str w :: xs)] (lh c0 c1 t) = .ok (.val .non) ⟨[], lh c0 c1 t⟩ := fun w xs h1 h2 c0 c1 => l_keys_text (d := d + 6) h1 h2
  have PUT : ∀ (w k : T) (ts : List T), (w = [102, 105, 114, 115, 116] ∨ w = [108, 97, 115, 116]) → 1 ≤ ts.length → ts.length ≤ 198 → ∃ s' t' a, I12 s' t' (n + 3) ∧ OkA a ∧ Due d (.str w :: .str k :: ts.map .str) t t' a ∧ Ans d (.str w :: .str k :: ts.map .str) s s' a := by
    intro w k ts hw h1 h2
    obtain ⟨us, u1, u2, u3⟩ := row_ts I k
    obtain ⟨zs, e⟩ : ∃ zs : List T, (if w = [102, 105, 114, 115, 116] then (ts.map D.str).reverse ++ us.map .str else us.map .str ++ ts.map .str) = zs.map .str := ⟨if w = [102, 105, 114, 115, 116] then ts.reverse ++ us else us ++ ts, by split <;> simp⟩
    have eP : putP s w k (us.map .str) (ts.map .str) = if zs.length > 200 then (s, dLong) else (keepR s k (zs.map .str), .tup [tNumber, .int (zs.length : Nat)]) := by
      unfold putP
      rw [e, List.length_map]
    have eW : putW t w k (us.map .str) (ts.map .str) = if zs.length > 200 then (t, dLong) else (keepW t k (zs.map .str), .tup [tNumber, .int (zs.length : Nat)]) := by
      unfold putW
      rw [e, List.length_map]
    have L := fun c0 c1 => ld_put (d := d + 4) (c0 := c0) (c1 := c1) (k := k) (ys := ts.map .str) hw y1 y2 vt (by simp; omega)
    have A := fun (h : List Cell) (i : Nat) hi => c_row_put (d := d + 1) (h := h) (i := i) (k := k) (ys := ts.map .str) hw hi z1 z2 I.vs (by simp; omega)
    rw [u1, eP] at A
    rw [u2, eW] at L
    have AN : ∀ (a : D) (s' : Sto), (∀ (h : List Cell) (i : Nat), h[i]? = some s.cell → callF prog (d + 6) "row_done" [.ref i, .str w, .lst (.str k :: ts.map .str)] h = .ok (.val a) ⟨[], h.set i s'.cell⟩) → Ans d (.str w :: .str k :: ts.map .str) s s' a := fun a s' q h i hi => by
      rcases hw with rfl | rfl
      · exact c_answer_row (d := d + 4) (a := 2) (b := 199) rfl (by simp; omega) (by simp; omega) rfl rfl rfl (by simp; omega) (q h i hi) rfl
      · exact c_answer_row (d := d + 4) (a := 2) (b := 199) rfl (by simp; omega) (by simp; omega) rfl rfl rfl (by simp; omega) (q h i hi) rfl
    have KT := kt w (.str k :: ts.map .str) (by simp; omega) (by rcases hw with rfl | rfl <;> decide)
    by_cases hl : zs.length > 200
    · rw [if_pos hl] at A L
      exact ⟨s, t, dLong, I.mono (by omega), okA_of rfl, fun c0 c1 => .inr ⟨KT c0 c1, L c0 c1⟩, AN _ _ A⟩
    · rw [if_neg hl] at A L
      exact ⟨_, _, _, (I.keep k (by omega)).mono (by omega), okA_of rfl, fun c0 c1 => .inr ⟨KT c0 c1, L c0 c1⟩, AN _ _ A⟩
  cases W with
  | first k ts h1 h2 => exact PUT _ k ts (.inl rfl) h1 h2
  | last k ts h1 h2 => exact PUT _ k ts (.inr rfl) h1 h2
  | tf k =>
    obtain ⟨us, u1, u2, u3⟩ := row_ts I k
    cases us with
    | nil =>
      refine ⟨s, t, dNone, I.mono (by omega), okA_of rfl, fun c0 c1 => .inr ⟨kt _ _ (by simp) (by decide) c0 c1, ld_take_none (d := d + 4) (.inl rfl) vt u2⟩, fun h i hi => ?_⟩
      rw [set_id hi]
      exact c_answer_row (d := d + 4) (a := 1) (b := 1) rfl (by simp) (by simp) rfl rfl rfl (by simp) (c_row_take_none (d := d + 1) (.inl rfl) hi I.vs u1) rfl
    | cons x us =>
      refine ⟨keepR s k (us.map .str), keepW t k (us.map .str), .tup [.str text, .str x], (I.keep k (by simp at u3; omega)).mono (by omega), okA_of rfl, fun c0 c1 => .inr ⟨kt _ _ (by simp) (by decide) c0 c1, ld_first (d := d + 4) y1 y2 vt u2 (by simp at u3; omega)⟩, fun h i hi => ?_⟩
      exact c_answer_row (d := d + 4) (a := 1) (b := 1) rfl (by simp) (by simp) rfl rfl rfl (by simp) (c_row_first (d := d + 1) hi z1 z2 I.vs u1) rfl
  | tl k =>
    obtain ⟨us, u1, u2, u3⟩ := row_ts I k
    rcases List.eq_nil_or_concat us with rfl | ⟨vs, x, rfl⟩
    · refine ⟨s, t, dNone, I.mono (by omega), okA_of rfl, fun c0 c1 => .inr ⟨kt _ _ (by simp) (by decide) c0 c1, ld_take_none (d := d + 4) (.inr rfl) vt u2⟩, fun h i hi => ?_⟩
      rw [set_id hi]
      exact c_answer_row (d := d + 4) (a := 1) (b := 1) rfl (by simp) (by simp) rfl rfl rfl (by simp) (c_row_take_none (d := d + 1) (.inr rfl) hi I.vs u1) rfl
    · rw [List.concat_eq_append, last_map] at u1 u2
      rw [List.concat_eq_append] at u3
      refine ⟨keepR s k (vs.map .str), keepW t k (vs.map .str), .tup [.str text, .str x], (I.keep k (by simp at u3; omega)).mono (by omega), okA_of rfl, fun c0 c1 => .inr ⟨kt _ _ (by simp) (by decide) c0 c1, ld_last (d := d + 4) y1 y2 vt u2 (by simp at u3; omega)⟩, fun h i hi => ?_⟩
      exact c_answer_row (d := d + 4) (a := 1) (b := 1) rfl (by simp) (by simp) rfl rfl rfl (by simp) (c_row_last (d := d + 1) hi z1 z2 I.vs u1) rfl
  | many k =>
    have e : rowOf t k = rowOf s k := by rw [rowOf_is, rowOf_is, I.eq]
    refine ⟨s, t, _, I.mono (by omega), okA_of rfl, fun c0 c1 => .inr ⟨kt _ _ (by simp) (by decide) c0 c1, ld_many (d := d + 4) vt⟩, fun h i hi => ?_⟩
    rw [set_id hi, e]
    exact c_answer_row (d := d + 4) (a := 1) (b := 1) rfl (by simp) (by simp) rfl rfl rfl (by simp) (c_row_many (d := d + 1) hi I.vs) rfl
  | slice k f l =>
    obtain ⟨us, u1, u2, u3⟩ := row_ts I k
    refine ⟨s, t, slD (us.map .str) f l, I.mono (by omega), ?_, fun c0 c1 => .inr ⟨kt _ _ (by simp) (by decide) c0 c1, by have := ld_slice (d := d + 4) (c0 := c0) (c1 := c1) (k := k) (f := f) (l := l) vt; rw [u2] at this; exact this⟩, fun h i hi => ?_⟩
    · unfold slD
      split
      · exact okA_row sl_str
      · exact okA_of rfl
    · rw [set_id hi]
      have := c_row_slice (d := d + 1) (k := k) (f := f) (l := l) hi I.vs
      rw [u1] at this
      exact c_answer_row (d := d + 4) (a := 3) (b := 3) rfl (by simp) (by simp) rfl rfl rfl (by simp) this rfl
  | carry k o =>
    obtain ⟨us, u1, u2, u3⟩ := row_ts I k
    rcases List.eq_nil_or_concat us with rfl | ⟨vs, x, rfl⟩
    · refine ⟨s, t, dNone, I.mono (by omega), okA_of rfl, fun c0 c1 => .inr ⟨kt _ _ (by simp) (by decide) c0 c1, ld_carry_none (d := d + 4) vt u2⟩, fun h i hi => ?_⟩
      rw [set_id hi]
      have : callF prog (d + 5) "carried" [.ref i, .str k, .lst (rowOf s k), .str o] h = .ok (.val dNone) ⟨[], h⟩ := by
        rw [u1]
        exact c_carry_none (d := d) (k := k) (o := o) hi I.vs
      exact c_answer_row (d := d + 4) (a := 2) (b := 2) rfl (by simp) (by simp) rfl rfl rfl (by simp) (c_row_carry (d := d) hi I.vs this rfl) rfl
    · rw [List.concat_eq_append, last_map] at u1 u2
      rw [List.concat_eq_append] at u3
      by_cases hne : o = k
      · subst hne
        refine ⟨keepR s o ([.str x] ++ vs.map .str), keepW t o ([.str x] ++ vs.map .str), .tup [.str text, .str x], ?_, okA_of rfl, fun c0 c1 => .inr ⟨kt _ _ (by simp) (by decide) c0 c1, ld_carry_same (d := d + 4) y1 y2 vt u2 (by simp at u3; omega)⟩, fun h i hi => ?_⟩
        · have := I.keep o (ts := x :: vs) (by simp at u3 ⊢; omega)
          exact this.mono (by omega)
        · have := c_carry_same (d := d) (k := o) (xs := vs.map .str) (x := .str x) hi z1 z2 I.vs (by simp at u3 ⊢; omega)
          rw [← u1] at this
          exact c_answer_row (d := d + 4) (a := 2) (b := 2) rfl (by simp) (by simp) rfl rfl rfl (by simp) (c_row_carry (d := d) hi I.vs this rfl) rfl
      · obtain ⟨os, o1, o2, o3⟩ := row_ts I o
        by_cases hl : os.length = 200
        · refine ⟨s, t, dLong, I.mono (by omega), okA_of rfl, fun c0 c1 => .inr ⟨kt _ _ (by simp) (by decide) c0 c1, ld_carry_long (d := d + 4) vt u2 hne (by rw [o2, List.length_map]; exact hl)⟩, fun h i hi => ?_⟩
          rw [set_id hi]
          have := c_carry_long (d := d) (k := k) (o := o) (xs := vs.map .str) (x := .str x) hi I.vs hne (by rw [o1, List.length_map]; exact hl)
          rw [← u1] at this
          exact c_answer_row (d := d + 4) (a := 2) (b := 2) rfl (by simp) (by simp) rfl rfl rfl (by simp) (c_row_carry (d := d) hi I.vs this rfl) rfl
        · have vl : vs.length ≤ 200 := by simp at u3; omega
          have K := I.keep k (ts := vs) vl
          have ro : rowOf (keepR s k (vs.map .str)) o = os.map .str := by
            rw [rowOf_is, keepR_held, rowL_ne hne, ← rowOf_is, o1]
          have K2 := K.keep o (ts := x :: os) (by simp; omega)
          refine ⟨carP s k o (vs.map .str) (.str x), keepW (keepW t o ([.str x] ++ rowOf t o)) k (vs.map .str), .tup [.str text, .str x], ?_, okA_of rfl, fun c0 c1 => .inr ⟨kt _ _ (by simp) (by decide) c0 c1, ld_carry (d := d + 4) (by omega) y4 vt u2 (by simp at u3; omega) hne (by rw [o2, List.length_map]; omega)⟩, fun h i hi => ?_⟩
          · have e1 : carP s k o (vs.map .str) (.str x) = keepR (keepR s k (vs.map .str)) o ((x :: os).map .str) := by
              unfold carP
              rw [ro]; rfl
            have e2 : ([.str x] ++ rowOf t o : List D) = (x :: os).map .str := by rw [o2]; rfl
            rw [e1, e2]
            refine ⟨Nat.le_trans K2.he (by omega), Nat.le_trans K2.st (by omega), ?_, K2.vs, K2.ks, K2.en, ?_, ?_⟩
            · have a1 := keepW_st (keepW t o ((x :: os).map .str)) k (vs.map .str)
              have a2 := keepW_st t o ((x :: os).map .str)
              have := I.tt
              omega
            · have t1 : (keepW t o ((x :: os).map .str)).ends = [] := (I.keep o (ts := x :: os) (by simp; omega)).te
              unfold keepW
              split
              · show kdel _ (keepW t o ((x :: os).map .str)).ends = []
                rw [t1]; rfl
              · exact t1
            · rw [keepW_held, keepW_held, keepR_held, keepR_held, I.eq]
              refine (hR_comm hne (by simp) ?_).symm
              rcases find_row (k := k) I.vs with ⟨e, e'⟩ | ⟨_, e, _⟩
              · rw [e'] at u1
                simp at u1
              · exact ⟨_, e⟩
          · have := c_carry (d := d) (k := k) (o := o) (xs := vs.map .str) (x := .str x) hi (by omega) z4 I.vs K.vs (by simp; omega) hne (by rw [o1, List.length_map]; exact hl) (by rw [ro, List.length_map]; omega)
            rw [← u1] at this
            exact c_answer_row (d := d + 4) (a := 2) (b := 2) rfl (by simp) (by simp) rfl rfl rfl (by simp) (c_row_carry (d := d) hi I.vs this rfl) rfl
  | drop k =>
    have e : (dropL s [k]).2.length = (dropL t [k]).2.length := by
      unfold dropL
      rw [I.eq]
      split <;> rfl
    refine ⟨(dropL s [k]).1, (dropL t [k]).1, .tup [tNumber, .int (dropL t [k]).2.length], (I.drop k).mono (by omega), okA_of rfl, fun c0 c1 => .inl (l_drop_word (d := d + 4) (ks := [k]) (by simp) (by simp; omega)), fun h i hi => ?_⟩
    rw [← e]
    exact c_answer_key (d := d + 4) (a := 1) (b := 199) rfl (by simp) (by simp) rfl (by simp) (c_drops (d := d + 3) (ks := [k]) hi (by simp) (by simp; omega) (row_ok_all I.vs)) rfl
  | kind k =>
    have e : kindD t k = kindD s k := by unfold kindD; rw [I.eq]
    refine ⟨s, t, _, I.mono (by omega), ?_, fun c0 c1 => .inl (l_kind_word (d := d + 6) (row_ok_all vt)), fun h i hi => ?_⟩
    · rw [e]
      unfold kindD
      rcases find_row (k := k) I.vs with ⟨e, _⟩ | ⟨t, e, _, _⟩ <;> rw [e] <;> exact okA_of rfl
    · rw [set_id hi, e]
      exact c_answer_key (d := d + 4) (a := 1) (b := 1) rfl (by simp) (by simp) rfl (by simp) (c_kind_word (d := d + 4) hi (row_ok_all I.vs)) rfl
  | ren o k =>
    have L := fun (c0 c1 : Cell) => l_renameR (d := d + 4) (c0 := c0) (c1 := c1) (o := o) (n := k) y3 y2 vt I.te
    have A := fun (h : List Cell) (i : Nat) hi => c_renameR (d := d + 1) (h := h) (i := i) (o := o) (n := k) hi z3 z2 I.vs I.en
    rcases find_row (k := o) I.vs with ⟨e1, _⟩ | ⟨ts, e1, _, _, tl⟩
    · have e2 : kfind (.inr o) t.held = none := by rw [I.eq]; exact e1
      refine ⟨s, t, dBadNone, I.mono (by omega), okA_of rfl, fun c0 c1 => .inl ?_, fun h i hi => ?_⟩
      · have := L c0 c1
        unfold renW at this
        rw [e2] at this
        exact this
      · have := A h i hi
        unfold renR at this
        rw [e1] at this
        exact c_answer_key (d := d + 4) (a := 2) (b := 2) rfl (by simp) (by simp) rfl (by simp) this rfl
    · have e2 : kfind (.inr o) t.held = some (.tup [.str rowK, .lst (ts.map .str)]) := by rw [I.eq]; exact e1
      refine ⟨_, _, dDone, ((I.drop o).drop k).keep k tl, okA_of rfl, fun c0 c1 => .inl ?_, fun h i hi => ?_⟩
      · have := L c0 c1
        unfold renW at this
        rw [e2] at this
        exact this
      · have := A h i hi
        unfold renR at this
        rw [e1] at this
        exact c_answer_key (d := d + 4) (a := 2) (b := 2) rfl (by simp) (by simp) rfl (by simp) this rfl
end KW
/-! KwR11: the law of rows. -/
namespace KW
theorem w_shaped {w : List D} (W : W12 w) : shaped (.lst w) = true ∧ w.length ≤ 300 := by
  cases W with
  | first k ts h1 h2 =>
    obtain ⟨a, b⟩ := datas_txt ts
    exact ⟨by simp [shaped, isData, isDatas, a, dep, deps, b], by simp; omega⟩
  | last k ts h1 h2 =>
    obtain ⟨a, b⟩ := datas_txt ts
    exact ⟨by simp [shaped, isData, isDatas, a, dep, deps, b], by simp; omega⟩
  | _ => exact ⟨rfl, by simp⟩
theorem pic_shaped {s : Sto} (hv : ∀ q ∈ s.held, RowV q.2) (hk : ∀ q ∈ s.held, ∃ t : T, q.1 = .inr t) : shaped (.lst (picR s.held)) = true := by
  have : ∀ l : List D, (∀ d ∈ l, ∃ t, d = .str t) → isDatas (l.map (rowPR s.held)) = true ∧ deps (l.map (rowPR s.held)) ≤ 2 := by
    intro l
    induction l with
    | nil => exact fun _ => ⟨rfl, Nat.zero_le _⟩
    | cons x r ih =>
      intro h
      obtain ⟨t, rfl⟩ := h x (by simp)
      obtain ⟨h1, h2⟩ := ih fun d hd => h d (by simp [hd])
      have e : ∃ us : List T, rowL s.held t = us.map .str := by
        rcases find_row (s := s) (k := t) hv with ⟨_, e⟩ | ⟨us, _, e, _⟩
        · exact ⟨[], e⟩
        · exact ⟨us, e⟩
      obtain ⟨us, e⟩ := e
      obtain ⟨h3, h4⟩ := datas_txt us
      constructor
      · simp [isDatas, isData, h1, rowPR, e, h3]
      · simp [deps, dep, rowPR, e, h4]
        omega
  obtain ⟨h1, h2⟩ := this (keysP s.held) fun x hx => by
    obtain ⟨t, e, _⟩ := keysP_str hk x hx
    exact ⟨t, e⟩
  unfold picR
  simp [shaped, isData, h1, dep]
  omega
section
variable {d : Nat} {ns : List Int}
theorem meth_pic {C : CallF} {σ : List (Option SV)} {h : List Cell} {i : Nat} {s : Sto} (hi : h[i]? = some s.cell) : kMeth C "Store" "picture" [] (.ok (.val (.ref i)) ⟨σ, h⟩) = kMeth2 C "Store.picture" i (.ok [] ⟨σ, h⟩) := by
  simp [hi, Sto.cell, List.lookup]
theorem turn {s t : Sto} {n : Nat} {town : List D} {k x5 x6 x7 : Option SV} (I : I12 s t n) (hn : n ≤ 190) (hz : town.length < 8000) :
    ∃ s' t' town' a b c, I12 s' t' (n + 3) ∧ town'.length ≤ town.length + 20 ∧
      runB (callF prog (d + 7)) b_law_0 ⟨[some (.val (.lst (ns.map .int))), some (.val (.ref 0)), some (.val (.ref 1)), some (.val (.ref 5)), k, x5, x6, x7], lh (.lst town) s.cell t⟩ =
        .ok .next ⟨[some (.val (.lst (ns.map .int))), some (.val (.ref 0)), some (.val (.ref 1)), some (.val (.ref 5)), k, a, b, c], lh (.lst town') s'.cell t'⟩ := by
  obtain ⟨w, town', W, ht, e1⟩ := l_words (d := d + 2) (c1 := s.cell) (s := t) (ns := ns) hz
  obtain ⟨s', t', a, I', A, due, ans⟩ := step d W I hn
  refine ⟨s', t', town', some (.val (.lst w)), some (.val (.lst w)), some (.val a), I', ht, ?_⟩
  have due := due (.lst town') s.cell
  have ans := ans (lh (.lst town') s.cell t') 1 rfl
  obtain ⟨⟨y, ys, rfl⟩, da⟩ := A
  obtain ⟨sw, lw⟩ := w_shaped W
  have g : okSize w.length = true := by simp [okSize, sizeLine]; omega
  have hl : s'.held.length ≤ 200 := by have := I'.he; omega
  have p1 := c_pictureR (d := d + 6) (h := lh (.lst town') s'.cell t') (i := 1) (s := s') rfl hl I'.vs I'.ks I'.en
  have p2 := l_pictureR (d := d + 6) (c0 := .lst town') (c1 := s'.cell) (s := t') (by rw [I'.eq]; exact hl) (by rw [I'.eq]; exact I'.vs) (by rw [I'.eq]; exact I'.ks) I'.te
  rw [I'.eq] at p2
  have q1 := eqD_self da
  have q2 := eqD_self sw
  have q3 := eqD_self (pic_shaped I'.vs I'.ks)
  have hi : (lh (.lst town') s'.cell t')[1]? = some s'.cell := rfl
  generalize hs : ns.map D.int = scr at *
  simp only [ls1] at ans
  rcases due with due | ⟨due, due2⟩
  · simp [runB, b_law_0, e1, run1, seqOf, lstOf, newLst, g, due, getPl, putPl, frzIt, ans, run2, recv2, runCmp, datOf, q1, q2, q3, p1, p2, meth_pic hi]
  · simp [runB, b_law_0, e1, run1, seqOf, lstOf, newLst, g, due, due2, getPl, putPl, frzIt, ans, run2, recv2, runCmp, datOf, q1, q2, q3, p1, p2, meth_pic hi]
theorem turns : ∀ (ds : List D) {s t : Sto} {n : Nat} {town : List D} {k x5 x6 x7 : Option SV}, I12 s t n → n + 3 * ds.length ≤ 190 → town.length + 20 * ds.length < 8000 →
    ∃ s' t' town' a b c e, I12 s' t' 190 ∧
      forLoop [4] (runB (callF prog (d + 7)) b_law_0) ds ⟨[some (.val (.lst (ns.map .int))), some (.val (.ref 0)), some (.val (.ref 1)), some (.val (.ref 5)), k, x5, x6, x7], lh (.lst town) s.cell t⟩ =
        .ok .next ⟨[some (.val (.lst (ns.map .int))), some (.val (.ref 0)), some (.val (.ref 1)), some (.val (.ref 5)), e, a, b, c], lh (.lst town') s'.cell t'⟩
  | [], s, t, n, town, k, x5, x6, x7, I, hn, hz => ⟨s, t, town, x5, x6, x7, k, I.mono (by simpa using hn), by simp [forLoop]⟩
  | x :: r, s, t, n, town, k, x5, x6, x7, I, hn, hz => by
    rw [List.length_cons] at hn hz
    obtain ⟨s1, t1, town1, a, b, c, I1, h1, e1⟩ := turn (d := d) (ns := ns) (k := some (.val x)) (x5 := x5) (x6 := x6) (x7 := x7) I (by omega) (show town.length < 8000 by omega)
    obtain ⟨s2, t2, town2, a2, b2, c2, e2, I2, q⟩ := turns r (k := some (.val x)) (x5 := a) (x6 := b) (x7 := c) I1 (by omega) (show town1.length + 20 * r.length < 8000 by omega)
    refine ⟨s2, t2, town2, a2, b2, c2, e2, I2, ?_⟩
    rw [forLoop]
    simp only [bindT, List.set_cons_succ, List.set_cons_zero]
    rw [e1, bind_ok]
    simp only []
    exact q
def s0 : Sto := ⟨[], [], [], 0, 0⟩
theorem i0 : I12 s0 s0 0 := ⟨Nat.le_refl _, Nat.le_refl _, Nat.le_refl _, fun _ h => (by cases h), fun _ h => (by cases h), rfl, rfl, rfl⟩
theorem c_init {c : Cell} : callF prog (d + 1) "Store.__init__" [.ref 1] [c, .ins "Store" []] = .ok (.val .non) ⟨[], [c, s0.cell]⟩ := by
  rw [callF_is (fn := f_Store___init__) rfl rfl]
  simp [f_Store___init__, kcls, fput, s0, Sto.cell]
theorem l_state {c c' : Cell} : callF prog (d + 1) "_law_state" [] [c, c'] = .ok (.val (.ref 5)) ⟨[], lh c c' s0⟩ := by
  rw [callF_is (fn := f__law_state) rfl rfl]
  simp [f__law_state, boxIt, kput, lh, s0, dC, lawKvs]
theorem range_len' : ∀ (n : Nat) (a c : Int), (range' a c n).length = n
  | 0, _, _ => rfl
  | n + 1, a, c => by rw [range', List.length_cons, range_len' n]
theorem plain : ∃ h, callF prog (d + 8) "law" [.lst (ns.map .int)] [] = .ok (.val (.bl true)) ⟨[], h⟩ := by
  obtain ⟨r, r1, r2, e1⟩ := l_draw (d := d + 4) (c1 := s0.cell) (s := s0) (ns := ns) (town := []) (m := 31) (by decide) (by simp)
  obtain ⟨s', t', town', a, b, c, e, I, q⟩ := turns (d := d) (ns := ns) (range' 0 1 r.toNat) (s := s0) (t := s0) (n := 0) (town := [] ++ [.int 0]) (k := none) (x5 := none) (x6 := none) (x7 := none) i0 (by rw [range_len']; omega) (by rw [range_len']; simp; omega)
  have hl : s'.held.length ≤ 200 := by have := I.he; omega
  have p1 := c_pictureR (d := d + 6) (h := lh (.lst town') s'.cell t') (i := 1) (s := s') rfl hl I.vs I.ks I.en
  have p2 := l_pictureR (d := d + 6) (c0 := .lst town') (c1 := s'.cell) (s := t') (by rw [I.eq]; exact hl) (by rw [I.eq]; exact I.vs) (by rw [I.eq]; exact I.ks) I.te
  rw [I.eq] at p2
  have q3 := eqD_self (pic_shaped I.vs I.ks)
  have hi : (lh (.lst town') s'.cell t')[1]? = some s'.cell := rfl
  refine ⟨lh (.lst town') s'.cell t', ?_⟩
  rw [callF_is (fn := f_law) rfl rfl]
  have i1 := c_init (d := d + 6) (c := .lst [])
  have i2 := l_state (d := d + 6) (c := .lst []) (c' := s0.cell)
  have g1 : -4611686018427387904 ≤ r := by omega
  have g2 : r < 4611686018427387904 := by omega
  generalize hs : ns.map D.int = scr at *
  simp at e1 q
  simp [f_law, newLst, okSize, boxIt, i1, i2, e1, g1, g2, isK, q, p1, p2, meth_pic hi, run2, recv2, runCmp, datOf, q3]
end
end KW
theorem PySem.Challenge.cw_keywire_k12_whole_rows_holds : PySem.Challenge.rw_keywire_k12_whole_rows.Holds := by
  exact KW.holds_of fun ns _ => KW.plain
