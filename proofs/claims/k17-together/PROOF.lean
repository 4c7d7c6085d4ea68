import PyProof.Rows.All
import Wide.All
import OpenK.AllK
import Wide.FinOn
import HandS.Base
import HandS.Call
import HandS.List
import HandS.Comp
import HandS.Dict
import HandS.Iter
import HandS.Text
import HandS.Exc
import HandS.Deep
import HandS.More
import HandS.Defaults
import HandS.HeadHook1
import KE.KEqDict
import HandS.TupAny
import HandS.TupMul
import HandS.Codes
import KE.KIntText
import KE.IntTextLaws
import KE.DataFind
import HandS.Flow
import HandS.ExcOwn
import HandS.CallSlots
import HandS.Words
import HandS.WordsExc
import HandS.WordsDict
import HandS.IsInst
import HandS.Style
import HandS.TupLe
import KE.KDictList
import KE.KDictSum
import HandS.SetFor
import HandS.SortInts
import HandS.SortOrd
import PyProof.Rows.SortStr
import PyProof.Rows.SortKeyStr
import KE.KSortTup
import HandS.SetTxt0
import HandS.Head0
import HandS.Head1
import HandS.Head2
import HandS.HeadEnd
import HandS.HeadHook2
import HandS.HeadHook3
import HandS.Ends
import HandS.HeadWalk
import PySem.Challenge.RW_keywire_k17_whole_sets_together
set_option Elab.async false
set_option linter.all false
set_option maxRecDepth 100000
/-! KwCore: a small language for the Python that is used here, and what it computes. -/
namespace KW

/-- a text: its code points -/
abbrev T := List Nat
abbrev Key := Sum Int T

/-- a value: tuples, and lists and dicts that are not changed any more, by what they hold; ref: a cell of the heap -/
inductive D where
  | non | bl (b : Bool) | int (i : Int) | str (s : T)
  | tup (xs : List D) | lst (xs : List D) | dct (kvs : List (Key × D))
  | ref (i : Nat) | exc (c : String) (fs : List (String × D))
  deriving Inhabited

/-- a list or dict that may still be changed -/
inductive Cont where
  | lst (xs : List D) | dct (kvs : List (Key × D))
  deriving Inhabited
/-- what a place holds -/
inductive SV where
  | val (d : D) | own (c : Cont)
  deriving Inhabited
inductive Cell where
  | ins (c : String) (fs : List (String × SV))
  | lst (xs : List D) | dct (kvs : List (Key × SV))
  deriving Inhabited
/-- a place -/
inductive Pl where
  | slot (j : Nat) | fld (i : Nat) (f : String) | ent (i : Nat) (k : Key)
  deriving DecidableEq, Inhabited
/-- a value behind an expression: own: new, nobody else has it; pk: what stands at a place -/
inductive RV where
  | val (d : D) | own (c : Cont) | pk (p : Pl) (c : Cont)
  deriving Inhabited

structure S where
  σ : List (Option SV)
  h : List Cell
structure Exc where
  cls : String
  fs : List (String × D)

inductive R (α : Type) where
  | ok (a : α) (s : S) | raise (x : Exc) (s : S) | stuck
def R.bind {α β : Type} : R α → (α → S → R β) → R β
  | .ok a s, f => f a s
  | .raise x s, _ => .raise x s
  | .stuck, _ => .stuck
@[simp] theorem bind_ok {α β : Type} (a : α) (s : S) (f : α → S → R β) : (R.ok a s).bind f = f a s := rfl
@[simp] theorem bind_raise {α β : Type} (x : Exc) (s : S) (f : α → S → R β) : (R.raise x s : R α).bind f = .raise x s := rfl
@[simp] theorem bind_stuck {α β : Type} (f : α → S → R β) : (R.stuck : R α).bind f = .stuck := rfl

/-- no exception comes out -/
def R.calm {α : Type} : R α → R α
  | .ok a s => .ok a s
  | _ => .stuck
@[simp] theorem calm_ok {α : Type} (a : α) (s : S) : (R.ok a s).calm = .ok a s := rfl
abbrev sizeLine : Nat := 16777216

/-! ### reading -/
@[simp] def SV.rv (p : Pl) : SV → RV
  | .val d => .val d
  | .own c => .pk p c
@[simp] def Cont.fz : Cont → D
  | .lst xs => .lst xs
  | .dct kvs => .dct kvs
@[simp] def Cell.cont? : Cell → Option Cont
  | .lst xs => some (.lst xs)
  | _ => none
/-- the list that a value is -/
@[simp] def lstOf (h : List Cell) : RV → Option (List D)
  | .val (.lst xs) => some xs
  | .own (.lst xs) => some xs
  | .pk _ (.lst xs) => some xs
  | .val (.ref i) => match h[i]? with
    | some (.lst xs) => some xs
    | _ => none
  | _ => none
@[simp] def tupOf : RV → Option (List D)
  | .val (.tup xs) => some xs
  | _ => none
/-- the list or tuple that a value is -/
@[simp] def seqOf (h : List Cell) (v : RV) : Option (List D) := match v with
  | .val (.tup xs) => some xs
  | v => lstOf h v
@[simp] def plainEs (kvs : List (Key × D)) : List (Key × SV) := kvs.map fun q => (q.1, .val q.2)
/-- a dict's entries, and the cell where it stands -/
@[simp] def dctOf (h : List Cell) : RV → Option (Option Nat × List (Key × SV))
  | .val (.dct kvs) => some (none, plainEs kvs)
  | .own (.dct kvs) => some (none, plainEs kvs)
  | .pk _ (.dct kvs) => some (none, plainEs kvs)
  | .val (.ref i) => match h[i]? with
    | some (.dct kvs) => some (some i, kvs)
    | _ => none
  | _ => none
def kfind {α : Type} (k : Key) : List (Key × α) → Option α
  | [] => none
  | q :: r => if q.1 = k then some q.2 else kfind k r
def tfind {α : Type} (k : T) : List (T × α) → Option α
  | [] => none
  | q :: r => if q.1 = k then some q.2 else tfind k r
def kput {α : Type} (k : Key) (v : α) : List (Key × α) → List (Key × α)
  | [] => [(k, v)]
  | q :: r => if q.1 = k then (q.1, v) :: r else q :: kput k v r
def kdel {α : Type} (k : Key) (l : List (Key × α)) : List (Key × α) := l.filter fun q => !decide (q.1 = k)
@[simp] def keyOf : D → Option Key
  | .int i => some (.inl i)
  | .str s => some (.inr s)
  | _ => none
@[simp] def keyD : Key → D
  | .inl i => .int i
  | .inr s => .str s
@[simp] def ffind {α : Type} (f : String) (l : List (String × α)) : Option α := l.lookup f
def fput {α : Type} (f : String) (v : α) : List (String × α) → List (String × α)
  | [] => [(f, v)]
  | q :: r => if q.1 = f then (f, v) :: r else q :: fput f v r

/-! ### data: equality, order -/
mutual
def isData : D → Bool
  | .non | .bl _ | .int _ | .str _ => true
  | .tup xs | .lst xs => isDatas xs
  | _ => false
def isDatas : List D → Bool
  | [] => true
  | x :: xs => isData x && isDatas xs
end
mutual
def dep : D → Nat
  | .tup xs | .lst xs => deps xs + 1
  | _ => 0
def deps : List D → Nat
  | [] => 0
  | x :: xs => max (dep x) (deps xs)
end
def b2i (b : Bool) : Int := if b then 1 else 0
mutual
def deq : D → D → Bool
  | .non, .non => true
  | .bl a, .bl b => a == b
  | .bl a, .int j => decide (b2i a = j)
  | .int i, .bl b => decide (i = b2i b)
  | .int i, .int j => decide (i = j)
  | .str x, .str y => decide (x = y)
  | .lst xs, .lst ys => deqs xs ys
  | .tup xs, .tup ys => deqs xs ys
  | _, _ => false
def deqs : List D → List D → Bool
  | [], [] => true
  | x :: xs, y :: ys => deq x y && deqs xs ys
  | _, _ => false
end
def Cont.dat : Cont → D := Cont.fz
/-- a value's data -/
def datOf (h : List Cell) : RV → Option D
  | .val (.ref i) => match h[i]? with
    | some (.lst xs) => some (.lst xs)
    | _ => none
  | .val d => some d
  | .own c => some c.fz
  | .pk _ c => some c.fz
def shaped (d : D) : Bool := isData d && decide (dep d ≤ 60)
def flat : D → Bool
  | .non | .bl _ | .int _ | .str _ => true
  | _ => false

/-! ### numbers and texts -/
def digs : Nat → Nat → T
  | 0, _ => []
  | f + 1, n => if n < 10 then [48 + n] else digs f (n / 10) ++ [48 + n % 10]
/-- a number's text -/
def itoa (i : Int) : T := if i < 0 then 45 :: digs (i.natAbs + 1) i.natAbs else digs (i.natAbs + 1) i.natAbs
def isDig (c : Nat) : Bool := decide (48 ≤ c) && decide (c ≤ 57)
def atoN (a : Nat) : T → Nat
  | [] => a
  | c :: r => atoN (10 * a + (c - 48)) r
/-- a text of figures alone, perhaps a minus ahead -/
def atoi (s : T) : Option Int := match s with
  | 45 :: r => if r.isEmpty || !r.all isDig || decide (640 < s.length) then none else some (-(atoN 0 r : Int))
  | r => if r.isEmpty || !r.all isDig || decide (640 < s.length) then none else some (atoN 0 r : Int)
def sIx (n d : Nat) : Option Int → Nat
  | none => d
  | some v => if v < 0 then (v + (n : Int)).toNat else min v.toNat n
def cut {α : Type} (xs : List α) (lo hi : Option Int) : List α :=
  (xs.drop (sIx xs.length 0 lo)).take (sIx xs.length xs.length hi - sIx xs.length 0 lo)
def ixN (n : Nat) (i : Int) : Option Nat := if 0 ≤ i then (if i < n then some i.toNat else none) else if -(n : Int) ≤ i then some (i + n).toNat else none
def atI {α : Type} (xs : List α) (i : Int) : Option α := (ixN xs.length i).bind fun j => xs[j]?
def joinT (sep : T) : List T → T
  | [] => []
  | [x] => x
  | x :: y :: r => x ++ (sep ++ joinT sep (y :: r))
def strsOf : List D → Option (List T)
  | [] => some []
  | .str s :: r => (strsOf r).map (s :: ·)
  | _ :: _ => none
def intsOf : List D → Option (List Int)
  | [] => some []
  | .int i :: r => (intsOf r).map (i :: ·)
  | _ :: _ => none
def boolsOf : List D → Option (List Bool)
  | [] => some []
  | .bl b :: r => (boolsOf r).map (b :: ·)
  | _ :: _ => none
def ltT : T → T → Bool
  | [], [] => false
  | [], _ :: _ => true
  | _ :: _, [] => false
  | a :: r, b :: s => if a < b then true else if b < a then false else ltT r s
/-- what sorted orders here: texts, ints, pairs of these -/
def ltD : D → D → Bool
  | .int i, .int j => decide (i < j)
  | .str a, .str b => ltT a b
  | .tup [a, b], .tup [c, d] => match a, c with
    | .int i, .int j => if i = j then (match b, d with
      | .int i, .int j => decide (i < j)
      | .str x, .str y => ltT x y
      | _, _ => false) else decide (i < j)
    | .str x, .str y => if x = y then (match b, d with
      | .int i, .int j => decide (i < j)
      | .str x, .str y => ltT x y
      | _, _ => false) else ltT x y
    | _, _ => false
  | _, _ => false
inductive Srt where
  | i | s | pii | pis | psi | pss
  deriving DecidableEq
def srtOf : D → Option Srt
  | .int _ => some .i
  | .str _ => some .s
  | .tup [.int _, .int _] => some .pii
  | .tup [.int _, .str _] => some .pis
  | .tup [.str _, .int _] => some .psi
  | .tup [.str _, .str _] => some .pss
  | _ => none
def allSrt (k : Srt) (l : List D) : Bool := l.all fun d => decide (srtOf d = some k)
def insD (x : D) : List D → List D
  | [] => [x]
  | y :: r => if ltD x y then x :: y :: r else y :: insD x r
/-- in order, equal ones in their turns -/
def sortD (l : List D) : List D := l.foldr (fun x acc => insDb x acc) []
where insDb (x : D) : List D → List D
  | [] => [x]
  | y :: r => if ltD y x then y :: insDb x r else x :: y :: r
def sortable (l : List D) : Bool := match l with
  | [] => true
  | x :: _ => match srtOf x with
    | some k => allSrt k l
    | none => false
def dedup : List D → List D
  | [] => []
  | x :: r => if r.any (fun y => deq y x) then dedup r else x :: dedup r

/-! ### the language -/
inductive CmpO where
  | eq | ne | lt | le | gt | ge | isIn | notIn
  deriving DecidableEq
inductive Op1 where
  | len | abs | neg | int | str | ord | list | tuple | sorted | sortedKeys | listKeys | sortedSet | lenSet | sum | all | any | copy | minL
  | isNone | notNone | isFalse | notFalse | rev | isTup
  deriving DecidableEq
inductive Op2 where
  | add | sub | mul | fdiv | mod | cmp (o : CmpO) | idx | slFrom | slTo | startswith | join | index | count | min2 | max2
  deriving DecidableEq
inductive Op3 where
  | dget | slBoth
  deriving DecidableEq
inductive Mu where
  | append | extend | pop | popI | popK | popD | remove | clear
  deriving DecidableEq

mutual
inductive E where
  | var (i : Nat)
  | cst (d : D)
  | glb (x : String) (d : D)
  | p1 (o : Op1) (a : E) | p2 (o : Op2) (a b : E) | p3 (o : Op3) (a b c : E)
  | tup (es : List E) | lst (es : List E) | dct (ks : List D) (es : List E)
  | fld (cs : List String) (e : E) (f : String)
  | and (a b : E) | or (a b : E) | not (a : E) | ife (c a b : E)
  | chain (o₁ o₂ : CmpO) (a b c : E)
  | call (f : String) (es : List E)
  | new (c : String) (es : List E)
  | meth (c m : String) (e : E) (es : List E)
  | comp (is : List Nat) (it : It) (cs : List E) (e : E)
  | mut (o : Mu) (e : E) (es : List E)
  | box (e : E) | frz (e : E)
  | isinst (e : E) (c : String)
  | gIn (x : String) (kvs : List (T × D)) (e : E) | gIdx (x : String) (kvs : List (T × D)) (e : E) | gGet (x : String) (kvs : List (T × D)) (e z : E)
  | inL (x : String) (ts : List T) (e : E)
inductive It where
  | seq (e : E) | rng1 (e : E) | rng2 (a b : E) | rng3 (a b c : E) | enum (e : E) | keys (e : E) | vals (e : E)
end
instance : Inhabited E := ⟨.cst .non⟩
inductive St where
  | asgn (i : Nat) (e : E)
  | unp (is : List Nat) (e : E)
  | par (is : List Nat) (es : List E)
  | fset (cs : List String) (o : E) (f : String) (e : E)
  | iset (o k e : E)
  | expr (e : E)
  | ite (c : E) (a b : List St)
  | whil (c : E) (b : List St)
  | forr (is : List Nat) (it : It) (b : List St)
  | ret (e : E) | retN
  | rais (c : String) (es : List E)
  | tryx (b : List St) (c : String) (n : Option Nat) (suite : List St)
  | brk | pas
structure Fn where
  np : Nat
  ns : Nat
  body : List St
  deriving Inhabited

/-! ### single operations -/
/-- a value handed on for good -/
@[simp] def expo : RV → Option D
  | .val d => some d
  | .own c => some c.fz
  | .pk _ _ => none
def truth (h : List Cell) : RV → Option Bool
  | .val .non => some false
  | .val (.bl b) => some b
  | .val (.int i) => some (decide (i ≠ 0))
  | .val (.str s) => some (!s.isEmpty)
  | .val (.tup xs) => some (!xs.isEmpty)
  | .val (.lst xs) => some (!xs.isEmpty)
  | .val (.ref i) => match h[i]? with
    | some (.lst xs) => some (!xs.isEmpty)
    | _ => none
  | .own (.lst xs) => some (!xs.isEmpty)
  | .pk _ (.lst xs) => some (!xs.isEmpty)
  | _ => none
def okSize (n : Nat) : Bool := decide (n ≤ sizeLine)
def newLst (xs : List D) : Option RV := if okSize xs.length then some (.own (.lst xs)) else none
def newStr (s : T) : Option RV := if okSize s.length then some (.val (.str s)) else none
def oLen (h : List Cell) (v : RV) : Option RV := match v with
  | .val (.str s) => some (.val (.int s.length))
  | v => match seqOf h v with
    | some xs => some (.val (.int xs.length))
    | none => (dctOf h v).map fun q => .val (.int q.2.length)
def oAbs : RV → Option RV
  | .val (.int i) => some (.val (.int (if i < 0 then -i else i)))
  | _ => none
def oNeg : RV → Option RV
  | .val (.int i) => some (.val (.int (-i)))
  | _ => none
def oInt : RV → Option RV
  | .val (.bl b) => some (.val (.int (b2i b)))
  | .val (.int i) => some (.val (.int i))
  | .val (.str s) => (atoi s).map fun i => .val (.int i)
  | _ => none
def oStr : RV → Option RV
  | .val (.int i) => if i.natAbs.log2 < 1920 then some (.val (.str (itoa i))) else none
  | _ => none
def oOrd : RV → Option RV
  | .val (.str [c]) => some (.val (.int c))
  | _ => none
def oKeys (h : List Cell) (v : RV) : Option (List D) := (dctOf h v).map fun q => q.2.map fun e => keyD e.1
def oSort (xs : List D) : Option RV := if sortable xs = true then newLst (sortD xs) else none
def oSet (xs : List D) : Option (List D) := if ((strsOf xs).isSome && decide (xs.length < 4000)) = true then some (dedup xs) else none
def oMin (xs : List D) : Option RV := match xs with
  | .int i :: r => (intsOf r).map fun is => .val (.int (is.foldl min i))
  | _ => none
def oIsNone : RV → Option Bool
  | .val (.exc _ _) => some false
  | .val .non => some true
  | _ => some false
def oIsFalse : RV → Option Bool
  | .val (.bl b) => some (!b)
  | .val (.tup _) => some false
  | .val (.int _) => some false
  | .val (.str _) => some false
  | .val .non => some false
  | _ => none
def oCopy : RV → Option RV
  | .val (.dct kvs) => some (.own (.dct kvs))
  | .own (.dct kvs) => some (.own (.dct kvs))
  | .pk _ (.dct kvs) => some (.own (.dct kvs))
  | _ => none
def oRev (h : List Cell) (v : RV) : Option RV := (lstOf h v).bind fun xs => newLst xs.reverse
def oIsTup : RV → Option RV
  | .val (.tup _) => some (.val (.bl true))
  | .val (.int _) => some (.val (.bl false))
  | .val (.str _) => some (.val (.bl false))
  | .val .non => some (.val (.bl false))
  | .val (.bl _) => some (.val (.bl false))
  | _ => none
def run1 (h : List Cell) (o : Op1) (v : RV) : Option RV := match o with
  | .len => oLen h v
  | .abs => oAbs v
  | .neg => oNeg v
  | .int => oInt v
  | .str => oStr v
  | .ord => oOrd v
  | .list => (seqOf h v).bind newLst
  | .tuple => (seqOf h v).map fun xs => .val (.tup xs)
  | .sorted => (lstOf h v).bind oSort
  | .sortedKeys => (oKeys h v).bind oSort
  | .listKeys => (oKeys h v).bind newLst
  | .sortedSet => (seqOf h v).bind fun xs => (oSet xs).bind fun ys => newLst (sortD ys)
  | .lenSet => (seqOf h v).bind fun xs => (oSet xs).map fun ys => .val (.int ys.length)
  | .sum => (lstOf h v).bind fun xs => (intsOf xs).map fun is => .val (.int is.sum)
  | .all => (lstOf h v).bind fun xs => (boolsOf xs).map fun bs => .val (.bl (bs.all id))
  | .any => (lstOf h v).bind fun xs => (boolsOf xs).map fun bs => .val (.bl (bs.any id))
  | .copy => oCopy v
  | .minL => (lstOf h v).bind oMin
  | .isNone => (oIsNone v).map fun b => .val (.bl b)
  | .notNone => (oIsNone v).map fun b => .val (.bl (!b))
  | .isFalse => (oIsFalse v).map fun b => .val (.bl b)
  | .notFalse => (oIsFalse v).map fun b => .val (.bl (!b))
  | .rev => oRev h v
  | .isTup => oIsTup v
def cmpI (o : CmpO) (i j : Int) : Option Bool := match o with
  | .lt => some (decide (i < j)) | .le => some (decide (i ≤ j)) | .gt => some (decide (j < i)) | .ge => some (decide (j ≤ i))
  | _ => none
def inL (ys : List D) (d : D) : Option Bool := if (shaped d && ys.all shaped) = true then some (ys.any fun z => deq z d) else none
def inT (ys : List D) (d : D) : Option Bool := if (flat d && ys.all flat) = true then some (ys.any fun z => deq z d) else none
def inD (q : Option Nat × List (Key × SV)) : RV → Option Bool
  | .val d => (keyOf d).map fun k => (kfind k q.2).isSome
  | _ => none
def inS (z : T) : RV → Option Bool
  | .val (.str [c]) => some (decide (c ∈ z))
  | _ => none
/-- x in y -/
def runIn (h : List Cell) (x y : RV) : Option Bool := match y with
  | .val (.str z) => inS z x
  | .val (.tup ys) => (datOf h x).bind (inT ys)
  | y => match lstOf h y with
    | some ys => (datOf h x).bind (inL ys)
    | none => (dctOf h y).bind fun q => inD q x
def eqD (a b : D) : Option Bool := if (shaped a && shaped b) = true then some (deq a b) else none
/-- a dict's equality; what differs -/
def dctEq (p q : List (Key × D)) : Bool := decide (p.length = q.length) && p.all fun e => match kfind e.1 q with
  | some v => deq e.2 v
  | none => false
def shapedEs (p : List (Key × D)) : Bool := p.all fun e => shaped e.2
def neqD (a b : D) : Option Bool := match a, b with
  | .dct p, .dct q => if (shapedEs p && shapedEs q) = true then some (!dctEq p q) else none
  | a, b => (eqD a b).map (!·)
def cmpInt (o : CmpO) : RV → RV → Option Bool
  | .val (.int i), .val (.int j) => cmpI o i j
  | _, _ => none
def runCmp (h : List Cell) (o : CmpO) (x y : RV) : Option Bool := match o with
  | .eq => (datOf h x).bind fun a => (datOf h y).bind fun b => eqD a b
  | .ne => (datOf h x).bind fun a => (datOf h y).bind fun b => neqD a b
  | .isIn => runIn h x y
  | .notIn => (runIn h x y).map (!·)
  | .lt => cmpInt .lt x y
  | .le => cmpInt .le x y
  | .gt => cmpInt .gt x y
  | .ge => cmpInt .ge x y
def part : RV → Option (Option Int)
  | .val (.int i) => some (some i)
  | _ => none
def runCut (h : List Cell) (v : RV) (lo hi : Option Int) : Option RV := match v with
  | .val (.str s) => some (.val (.str (cut s lo hi)))
  | .val (.tup xs) => some (.val (.tup (cut xs lo hi)))
  | v => (lstOf h v).bind fun xs => newLst (cut xs lo hi)
@[simp] def unSV : SV → D
  | .val d => d
  | .own c => c.fz
def entOf (q : Option Nat × List (Key × SV)) (k : Key) : Option RV := (kfind k q.2).map fun sv => match q.1 with
  | some i => sv.rv (.ent i k)
  | none => .val (unSV sv)
def oIdxS (s : T) : RV → Option RV
  | .val (.int i) => (atI s i).map fun c => .val (.str [c])
  | _ => none
def oIdxL (xs : List D) : RV → Option RV
  | .val (.int i) => (atI xs i).map .val
  | _ => none
def oIdxD (q : Option Nat × List (Key × SV)) : RV → Option RV
  | .val d => (keyOf d).bind (entOf q)
  | _ => none
def runIdx (h : List Cell) (x y : RV) : Option RV := match x with
  | .val (.str s) => oIdxS s y
  | x => match seqOf h x with
    | some xs => oIdxL xs y
    | none => (dctOf h x).bind fun q => oIdxD q y
def oAdd (h : List Cell) (x y : RV) : Option RV := match x, y with
  | .val (.int i), .val (.int j) => some (.val (.int (i + j)))
  | .val (.str a), .val (.str b) => newStr (a ++ b)
  | x, y => (lstOf h x).bind fun xs => (lstOf h y).bind fun ys => newLst (xs ++ ys)
def oSub : RV → RV → Option RV
  | .val (.int i), .val (.int j) => some (.val (.int (i - j)))
  | _, _ => none
def rep {α : Type} (j : Int) (a : List α) : List α := (List.replicate j.toNat a).flatten
def oMul (h : List Cell) (x y : RV) : Option RV := match x, y with
  | .val (.int i), .val (.int j) => if -(2 ^ 64) < i ∧ i < 2 ^ 64 then some (.val (.int (i * j))) else none
  | .val (.str a), .val (.int j) => if 0 ≤ j ∧ a.length ≤ 1000 ∧ j ≤ 1000 then some (.val (.str (rep j a))) else none
  | .val (.tup a), .val (.int j) => if a.isEmpty = false ∧ a.length ≤ 1000 ∧ 2 ≤ j ∧ j ≤ 1000 then some (.val (.tup (rep j a))) else none
  | .own (.lst a), .val (.int j) => if 0 ≤ j ∧ a.length ≤ 1000 ∧ j ≤ 1000 then newLst (rep j a) else none
  | _, _ => none
def oDiv : RV → RV → Option RV
  | .val (.int i), .val (.int j) => if 0 < j ∧ j < 1073741824 then some (.val (.int (i / j))) else none
  | _, _ => none
def oMod : RV → RV → Option RV
  | .val (.int i), .val (.int j) => if 0 < j then some (.val (.int (i % j))) else none
  | _, _ => none
def oStart : RV → RV → Option RV
  | .val (.str a), .val (.str [c]) => some (.val (.bl (a.head? == some c)))
  | _, _ => none
def oJoin (h : List Cell) (x y : RV) : Option RV := match x with
  | .val (.str a) => (seqOf h y).bind fun ys => (strsOf ys).bind fun ts => if okSize ((ts.map List.length).sum + ts.length * a.length) && okSize (joinT a ts).length then some (.val (.str (joinT a ts))) else none
  | _ => none
def oIndex (h : List Cell) (x y : RV) : Option RV := (lstOf h x).bind fun xs => (datOf h y).bind fun d => if (shaped d && xs.all shaped) = true then (xs.findIdx? fun z => deq z d).map fun (j : Nat) => RV.val (.int (j : Int)) else none
def oCount (h : List Cell) (x y : RV) : Option RV := (lstOf h x).bind fun xs => match y with
  | .val (.bl b) => (boolsOf xs).map fun bs => RV.val (.int ((bs.count b : Nat) : Int))
  | _ => none
def oMin2 : RV → RV → Option RV
  | .val (.int i), .val (.int j) => some (.val (.int (if j < i then j else i)))
  | _, _ => none
def oMax2 : RV → RV → Option RV
  | .val (.int i), .val (.int j) => some (.val (.int (if j > i then j else i)))
  | _, _ => none
def run2 (h : List Cell) (o : Op2) (x y : RV) : Option RV := match o with
  | .add => oAdd h x y
  | .sub => oSub x y
  | .mul => oMul h x y
  | .fdiv => oDiv x y
  | .mod => oMod x y
  | .cmp o => (runCmp h o x y).map fun b => .val (.bl b)
  | .idx => runIdx h x y
  | .slFrom => (part y).bind fun i => runCut h x i none
  | .slTo => (part y).bind fun i => runCut h x none i
  | .startswith => oStart x y
  | .join => oJoin h x y
  | .index => oIndex h x y
  | .count => oCount h x y
  | .min2 => oMin2 x y
  | .max2 => oMax2 x y
def oGetD (h : List Cell) (x y : RV) (zd : D) : Option RV := (dctOf h x).bind fun q => match y with
  | .val d => (keyOf d).map fun k => (entOf q k).getD (.val zd)
  | _ => none
def oGet (h : List Cell) (x y z : RV) : Option RV := (expo z).bind fun zd => oGetD h x y zd
def run3 (h : List Cell) (o : Op3) (x y z : RV) : Option RV := match o with
  | .dget => oGet h x y z
  | .slBoth => (part y).bind fun i => (part z).bind fun j => runCut h x i j

/-! ### the state -/
def setCell (h : List Cell) (i : Nat) (c : Cell) : List Cell := h.set i c
/-- a place gets something -/
def putPl (s : S) (p : Pl) (v : SV) : Option S := match p with
  | .slot j => some { s with σ := s.σ.set j (some v) }
  | .fld i f => match s.h[i]? with
    | some (.ins c fs) => some { s with h := s.h.set i (.ins c (fput f v fs)) }
    | _ => none
  | .ent i k => match s.h[i]? with
    | some (.dct kvs) => some { s with h := s.h.set i (.dct (kput k v kvs)) }
    | _ => none
/-- what a place holds -/
def getPl (s : S) (p : Pl) : Option SV := match p with
  | .slot j => match s.σ[j]? with
    | some (some v) => some v
    | _ => none
  | .fld i f => match s.h[i]? with
    | some (.ins _ fs) => ffind f fs
    | _ => none
  | .ent i k => match s.h[i]? with
    | some (.dct kvs) => kfind k kvs
    | _ => none
/-- what is of the right kind for a method -/
def recv2 (h : List Cell) (o : Op2) (x : RV) : Bool := match o with
  | .startswith | .join => (match x with
    | .val (.str _) => true
    | _ => false)
  | .index | .count => (lstOf h x).isSome
  | _ => true
def recv3 (h : List Cell) (o : Op3) (x : RV) : Bool := match o with
  | .dget => (dctOf h x).isSome
  | _ => true
def recv3b (o : Op3) (y : RV) : Bool := match o with
  | .slBoth => (match y with
    | .val (.int _) => true
    | _ => false)
  | _ => true
def recvM (h : List Cell) (o : Mu) (x : RV) : Bool := match o with
  | .popK | .popD => (dctOf h x).isSome
  | _ => (lstOf h x).isSome
@[simp] def toSV : RV → Option SV
  | .val d => some (.val d)
  | .own c => some (.own c)
  | .pk _ _ => none

/-- a list's change: what comes back, the new list -/
def muL (xs : List D) : Mu → List D → Option (D × List D)
  | .append, [d] => if xs.length < sizeLine then some (.non, xs ++ [d]) else none
  | .extend, [.lst ys] => if xs.length + ys.length ≤ sizeLine then some (.non, xs ++ ys) else none
  | .pop, [] => match xs.getLast? with
    | some d => some (d, xs.dropLast)
    | none => none
  | .popI, [.int i] => if -1073741824 < i ∧ i < 1073741824 then (match ixN xs.length i with
    | some j => (xs[j]?).map fun d => (d, xs.eraseIdx j)
    | none => none) else none
  | .remove, [d] => if shaped d && xs.all shaped then (xs.findIdx? fun z => deq z d).map fun j => (.non, xs.eraseIdx j) else none
  | .clear, [] => some (.non, [])
  | _, _ => none
/-- a dict's -/
def muD (kvs : List (Key × SV)) : Mu → List D → Option (SV × List (Key × SV))
  | .popK, [d] => (keyOf d).bind fun k => (kfind k kvs).map fun v => (v, kdel k kvs)
  | .popD, [d, z] => (keyOf d).map fun k => match kfind k kvs with
    | some v => (v, kdel k kvs)
    | none => (.val z, kvs)
  | _, _ => none
def runMu (s : S) (o : Mu) (x : RV) (ds : List D) : R RV := match x with
  | .pk p _ => match getPl s p with
    | some (.own (.lst xs)) => match muL xs o ds with
      | some (d, ys) => match putPl s p (.own (.lst ys)) with
        | some s' => .ok (.val d) s'
        | none => .stuck
      | none => .stuck
    | some (.own (.dct kvs)) => match muD (plainEs kvs) o ds with
      | some (d, ys) => match putPl s p (.own (.dct (ys.map fun q => (q.1, unSV q.2)))) with
        | some s' => .ok (.val (unSV d)) s'
        | none => .stuck
      | none => .stuck
    | _ => .stuck
  | .val (.ref i) => match s.h[i]? with
    | some (.lst xs) => match muL xs o ds with
      | some (d, ys) => .ok (.val d) { s with h := s.h.set i (.lst ys) }
      | none => .stuck
    | some (.dct kvs) => match muD kvs o ds with
      | some (.val d, ys) => .ok (.val d) { s with h := s.h.set i (.dct ys) }
      | _ => .stuck
    | _ => .stuck
  | _ => .stuck
/-- o[k] = v -/
def runISet (s : S) (x : RV) (k : D) (v : RV) : R Unit := match x with
  | .pk p _ => match getPl s p with
    | some (.own (.dct kvs)) => match keyOf k, expo v with
      | some k, some d => match putPl s p (.own (.dct (kput k d kvs))) with
        | some s' => if kvs.length < sizeLine then .ok () s' else .stuck
        | none => .stuck
      | _, _ => .stuck
    | _ => .stuck
  | .val (.ref i) => match s.h[i]? with
    | some (.dct kvs) => match keyOf k, toSV v with
      | some k, some sv => if kvs.length < sizeLine then .ok () { s with h := s.h.set i (.dct (kput k sv kvs)) } else .stuck
      | _, _ => .stuck
    | _ => .stuck
  | _ => .stuck
def boxIt (s : S) : RV → R RV
  | .own (.lst xs) => .ok (.val (.ref s.h.length)) { s with h := s.h ++ [.lst xs] }
  | .own (.dct kvs) => .ok (.val (.ref s.h.length)) { s with h := s.h ++ [.dct (plainEs kvs)] }
  | _ => .stuck
def frzIt (s : S) : RV → R RV
  | .val d => .ok (.val d) s
  | .own c => .ok (.val c.fz) s
  | .pk p _ => match getPl s p with
    | some (.own c) => match putPl s p (.val c.fz) with
      | some s' => .ok (.val c.fz) s'
      | none => .stuck
    | _ => .stuck
@[simp] def opt {α : Type} (s : S) : Option α → R α
  | some a => .ok a s
  | none => .stuck
/-- the names of a target get an item -/
def bindT (is : List Nat) (d : D) (s : S) : Option S := match is with
  | [i] => some { s with σ := s.σ.set i (some (.val d)) }
  | is => match d with
    | .tup xs => if xs.length = is.length then some { s with σ := (is.zip xs).foldl (fun σ q => σ.set q.1 (some (.val q.2))) s.σ } else none
    | _ => none
def oldVal (σ0 : List (Option SV)) (i : Nat) : Option SV := match σ0[i]? with
  | some (some (.val d)) => some (.val d)
  | _ => none
/-- behind a comprehension its own names are what they were -/
def backT (σ0 : List (Option SV)) (is : List Nat) (s : S) : S := { s with σ := is.foldl (fun σ i => σ.set i (oldVal σ0 i)) s.σ }
def range' (a : Int) (c : Int) : Nat → List D
  | 0 => []
  | n + 1 => .int a :: range' (a + c) c n
def enumFrom (k : Int) : List D → List D
  | [] => []
  | d :: r => .tup [.int k, d] :: enumFrom (k + 1) r

inductive Flow where
  | next | ret (v : RV) | brk

/-! ### pure: nothing changes -/
mutual
def pure : E → Bool
  | .var _ | .cst _ | .glb _ _ => true
  | .p1 _ a => pure a
  | .p2 _ a b => pure a && pure b
  | .p3 _ a b c => pure a && pure b && pure c
  | .tup es | .lst es => pures es
  | .dct _ es => pures es
  | .fld _ e _ => pure e
  | .and a b | .or a b => pure a && pure b
  | .not a => pure a
  | .ife c a b => pure c && pure a && pure b
  | .chain _ _ a b c => pure a && pure b && pure c
  | .isinst e _ => pure e
  | .gIn _ _ e | .gIdx _ _ e | .inL _ _ e => pure e
  | .gGet _ _ e z => pure e && pure z
  | _ => false
def pures : List E → Bool
  | [] => true
  | e :: r => pure e && pures r
end

/-- a dict is walked -/
def isK : It → Bool
  | .keys _ => true
  | .vals _ => true
  | _ => false
def calmIf {α : Type} (k : Bool) (r : R α) : R α := if k = true then r.calm else r
@[simp] theorem calmIf_false {α : Type} (r : R α) : calmIf false r = r := rfl
@[simp] theorem calmIf_true {α : Type} (r : R α) : calmIf true r = r.calm := rfl
/-- what holds the items may still be changed -/
def muOf : RV → Bool
  | .pk _ _ => true
  | .val (.ref _) => true
  | _ => false
def isPk : RV → Bool
  | .pk _ _ => true
  | _ => false

/-! ### loops -/
/-- a comprehension's turns -/
def compLoop (is : List Nat) (fc : S → R Bool) (fe : S → R D) : List D → S → List D → R (List D)
  | [], s, acc => .ok acc.reverse s
  | d :: r, s, acc => match bindT is d s with
    | none => .stuck
    | some s1 => (fc s1).bind fun b s2 => if b = true then (fe s2).bind fun x s3 => compLoop is fc fe r s3 (x :: acc) else compLoop is fc fe r s2 acc
def forLoop (is : List Nat) (fb : S → R Flow) : List D → S → R Flow
  | [], s => .ok .next s
  | d :: r, s => match bindT is d s with
    | none => .stuck
    | some s1 => (fb s1).bind fun f s2 => match f with
      | .next => forLoop is fb r s2
      | .ret v => .ok (.ret v) s2
      | .brk => .ok .next s2
def whileLoop (fc : S → R Bool) (fb : S → R Flow) : Nat → S → R Flow
  | 0, _ => .stuck
  | n + 1, s => (fc s).bind fun b s1 => if b = true then (fb s1).bind fun f s2 => match f with
      | .next => whileLoop fc fb n s2
      | .ret v => .ok (.ret v) s2
      | .brk => .ok .next s2
    else .ok .next s1
def wFuel : Nat := 1000000

/-- which class an except clause takes -/
def isSubCls (c d : String) : Bool := c == d || (d == "WireError" && (c == "BadParcel" || c == "BadNumber" || c == "NoLine"))
/-- what an exception of a class bears -/
def excFs (c : String) (ds : List D) : Option (List (String × D)) := if c = "Broken" then (match ds with
    | [d] => some [("place", d)]
    | _ => none) else some []
/-- a call of a def: the values, the heap -/
abbrev CallF := String → List D → List Cell → R RV
def isTruth (r : R RV) : R Bool := r.bind fun v s => opt s (truth s.h v)
def exports (r : R RV) : R D := r.bind fun v s => opt s (expo v)
/-- behind a call: the frame is as it was -/
def back {α : Type} (σ : List (Option SV)) : R α → R α
  | .ok a s => .ok a ⟨σ, s.h⟩
  | .raise x s => .raise x ⟨σ, s.h⟩
  | .stuck => .stuck

mutual
def evalE (C : CallF) : E → S → R RV
  | .var i, s => match s.σ[i]? with
    | some (some sv) => .ok (sv.rv (.slot i)) s
    | _ => .stuck
  | .cst d, s => .ok (.val d) s
  | .glb _ d, s => .ok (.val d) s
  | .p1 o a, s => (evalE C a s).bind fun x s => opt s (run1 s.h o x)
  | .p2 o a b, s => (evalE C a s).bind fun x s => if (isPk x && !pure b) || !recv2 s.h o x then .stuck else (evalE C b s).bind fun y s => opt s (run2 s.h o x y)
  | .p3 o a b c, s => (evalE C a s).bind fun x s => if (isPk x && !(pure b && pure c)) || !recv3 s.h o x then .stuck else
      (evalE C b s).bind fun y s => if (isPk y && !pure c) || !recv3b o y then .stuck else (evalE C c s).bind fun z s => opt s (run3 s.h o x y z)
  | .tup es, s => (evalEs C es s).bind fun ds s => .ok (.val (.tup ds)) s
  | .lst es, s => (evalEs C es s).bind fun ds s => opt s (newLst ds)
  | .dct ks es, s => (evalEs C es s).bind fun ds s => if ds.length = ks.length then opt s (((ks.mapM keyOf).map fun ks => .own (.dct ((ks.zip ds).foldl (fun l q => kput q.1 q.2 l) [])))) else .stuck
  | .fld cs e f, s => (evalE C e s).bind fun x s => match x with
    | .val (.ref i) => match s.h[i]? with
      | some (.ins c fs) => if cs.contains c = true then (match ffind f fs with
        | some sv => .ok (sv.rv (.fld i f)) s
        | none => .stuck) else .stuck
      | _ => .stuck
    | .val (.exc _ fs) => match ffind f fs with
      | some d => .ok (.val d) s
      | none => .stuck
    | _ => .stuck
  | .and a b, s => (evalE C a s).bind fun x s => match truth s.h x with
    | some true => evalE C b s
    | some false => .ok x s
    | none => .stuck
  | .or a b, s => (evalE C a s).bind fun x s => match truth s.h x with
    | some true => .ok x s
    | some false => evalE C b s
    | none => .stuck
  | .not a, s => (evalE C a s).bind fun x s => opt s ((truth s.h x).map fun b => .val (.bl (!b)))
  | .ife c a b, s => (isTruth (evalE C c s)).bind fun t s => if t = true then evalE C a s else evalE C b s
  | .chain o₁ o₂ a b c, s => (evalE C a s).bind fun x s => (evalE C b s).bind fun y s => if isPk x || isPk y then .stuck else match runCmp s.h o₁ x y with
    | some true => (evalE C c s).bind fun z s => opt s ((runCmp s.h o₂ y z).map fun t => .val (.bl t))
    | some false => .ok (.val (.bl false)) s
    | none => .stuck
  | .call f es, s => (evalEs C es s).bind fun ds s => back s.σ (C f ds s.h)
  | .new c es, s => (evalEs C es s).bind fun ds s => (back s.σ (C (c ++ ".__init__") (.ref s.h.length :: ds) (s.h ++ [.ins c []]))).calm.bind fun v s' => match v with
    | .val .non => .ok (.val (.ref s.h.length)) s'
    | _ => .stuck
  | .meth c m e es, s => (evalE C e s).bind fun x s => match x with
    | .val (.ref i) => match s.h[i]? with
      | some (.ins c' fs) => if c' = c ∧ (ffind m fs).isNone = true then (evalEs C es s).bind fun ds s => back s.σ (C (c ++ "." ++ m) (.ref i :: ds) s.h) else .stuck
      | _ => .stuck
    | _ => .stuck
  | .comp is it cs e, s => (evalIt C it s).bind fun ps s0 => if ps.2 && !(pures cs && pure e) then .stuck else
      (compLoop is (fun s => evalCs C cs s) (fun s => exports (evalE C e s)) ps.1 s0 []).calm.bind fun xs s => opt (backT s0.σ is s) (newLst xs)
  | .mut o e es, s => (evalE C e s).bind fun x s => if (isPk x && !pures es) || !recvM s.h o x then .stuck else (evalEs C es s).bind fun ds s => runMu s o x ds
  | .box e, s => (evalE C e s).bind fun x s => boxIt s x
  | .frz e, s => (evalE C e s).bind fun x s => frzIt s x
  | .isinst e c, s => (evalE C e s).bind fun x s => match x with
    | .val (.exc d _) => .ok (.val (.bl (isSubCls d c))) s
    | _ => .stuck
  | .gIn _ kvs e, s => (evalE C e s).bind fun x s => match x with
    | .val (.str t) => .ok (.val (.bl (tfind t kvs).isSome)) s
    | _ => .stuck
  | .gIdx _ kvs e, s => (evalE C e s).bind fun x s => match x with
    | .val (.str t) => opt s ((tfind t kvs).map .val)
    | _ => .stuck
  | .gGet _ kvs e z, s => (evalE C e s).bind fun x s => if isPk x then .stuck else (evalE C z s).bind fun y s => match x, y with
    | .val (.str t), .val d => .ok (.val ((tfind t kvs).getD d)) s
    | _, _ => .stuck
  | .inL _ ts e, s => (evalE C e s).bind fun x s => match x with
    | .val (.str t) => .ok (.val (.bl (decide (t ∈ ts)))) s
    | _ => .stuck
def evalEs (C : CallF) : List E → S → R (List D)
  | [], s => .ok [] s
  | e :: r, s => (exports (evalE C e s)).bind fun d s => (evalEs C r s).bind fun ds s => .ok (d :: ds) s
/-- all tests of a comprehension -/
def evalCs (C : CallF) : List E → S → R Bool
  | [], s => .ok true s
  | e :: r, s => (isTruth (evalE C e s)).bind fun b s => if b = true then evalCs C r s else .ok false s
/-- the items that are walked; whether what holds them may still be changed -/
def evalIt (C : CallF) : It → S → R (List D × Bool)
  | .seq e, s => (evalE C e s).bind fun x s => match x with
    | .val (.str t) => .ok (t.map fun c => .str [c], false) s
    | x => opt s ((seqOf s.h x).map fun xs => (xs, muOf x))
  | .rng1 e, s => (evalE C e s).bind fun x s => match x with
    | .val (.int n) => if -(2 ^ 62) ≤ n ∧ n < 2 ^ 62 then .ok (range' 0 1 n.toNat, false) s else .stuck
    | _ => .stuck
  | .rng2 a b, s => (evalE C a s).bind fun x s => (evalE C b s).bind fun y s => match x, y with
    | .val (.int i), .val (.int j) => if -(2 ^ 62) ≤ i ∧ i < 2 ^ 62 ∧ -(2 ^ 62) ≤ j ∧ j < 2 ^ 62 then .ok (range' i 1 (j - i).toNat, false) s else .stuck
    | _, _ => .stuck
  | .rng3 a b c, s => (evalE C a s).bind fun x s => (evalE C b s).bind fun y s => (evalE C c s).bind fun z s => match x, y, z with
    | .val (.int i), .val (.int j), .val (.int k) => if -(2 ^ 62) ≤ i ∧ i < 2 ^ 62 ∧ -(2 ^ 62) ≤ j ∧ j < 2 ^ 62 ∧ 1 ≤ k ∧ k < 1000 then .ok (range' i k ((j - i + k - 1) / k).toNat, false) s else .stuck
    | _, _, _ => .stuck
  | .enum e, s => (evalE C e s).bind fun x s => opt s ((lstOf s.h x).map fun xs => (enumFrom 0 xs, muOf x))
  | .keys e, s => (evalE C e s).bind fun x s => opt s ((dctOf s.h x).map fun q => (q.2.map fun e => keyD e.1, muOf x))
  | .vals e, s => (evalE C e s).bind fun x s => opt s ((dctOf s.h x).map fun q => (q.2.map fun e => unSV e.2, muOf x))
end

/-- a value that a def hands back: a list of its own goes along -/
def retV : RV → Option RV
  | .val d => some (.val d)
  | .own c => some (.own c)
  | .pk (.slot _) c => some (.own c)
  | .pk _ _ => none
mutual
def execS (C : CallF) : St → S → R Flow
  | .asgn i e, s => (evalE C e s).bind fun x s => match toSV x with
    | some sv => .ok .next { s with σ := s.σ.set i (some sv) }
    | none => .stuck
  | .unp is e, s => (exports (evalE C e s)).bind fun d s => match bindT is d s with
    | some s => .ok .next s
    | none => .stuck
  | .par is es, s => (evalEs C es s).bind fun ds s => if ds.length = is.length then .ok .next { s with σ := (is.zip ds).foldl (fun σ q => σ.set q.1 (some (.val q.2))) s.σ } else .stuck
  | .fset cs o f e, s => (evalE C e s).bind fun v s => (evalE C o s).bind fun x s => match x, toSV v with
    | .val (.ref i), some sv => match s.h[i]? with
      | some (.ins c fs) => if cs.contains c = true ∧ fs.length < 1000 then .ok .next { s with h := s.h.set i (.ins c (fput f sv fs)) } else .stuck
      | _ => .stuck
    | _, _ => .stuck
  | .iset o k e, s => (evalE C e s).bind fun v s => if isPk v then .stuck else (evalE C o s).bind fun x s => if isPk x && !pure k then .stuck else
      (exports (evalE C k s)).bind fun k s => (runISet s x k v).bind fun _ s => .ok .next s
  | .expr e, s => (evalE C e s).bind fun _ s => .ok .next s
  | .ite c a b, s => (isTruth (evalE C c s)).bind fun t s => if t = true then execs C a s else execs C b s
  | .whil c b, s => whileLoop (fun s => isTruth (evalE C c s)) (fun s => execs C b s) wFuel s
  | .forr is it b, s => (evalIt C it s).bind fun ps s => if ps.2 then .stuck else calmIf (isK it) (forLoop is (fun s => execs C b s) ps.1 s)
  | .ret e, s => (evalE C e s).bind fun x s => match retV x with
    | some v => .ok (.ret v) s
    | none => .stuck
  | .retN, s => .ok (.ret (.val .non)) s
  | .rais c es, s => (evalEs C es s).bind fun ds s => (match excFs c ds with
    | some fs => .raise ⟨c, fs⟩ s
    | none => .stuck)
  | .tryx b c n suite, s => match execs C b s with
    | .raise x s => if isSubCls x.cls c = true then (match n with
      | some i => (execs C suite { s with σ := s.σ.set i (some (.val (.exc x.cls x.fs))) }).bind fun f s => .ok f { s with σ := s.σ.set i none }
      | none => execs C suite s) else .raise x s
    | r => r
  | .brk, s => .ok .brk s
  | .pas, s => .ok .next s
def execs (C : CallF) : List St → S → R Flow
  | [], s => .ok .next s
  | st :: r, s => (execS C st s).bind fun f s => match f with
    | .next => execs C r s
    | f => .ok f s
end

/-- the defs by their names -/
abbrev Prog := String → Option Fn
def callF (G : Prog) : Nat → CallF
  | 0 => fun _ _ _ => .stuck
  | d + 1 => fun f ds h => match G f with
    | none => .stuck
    | some fn => if ds.length = fn.np then
        (execs (callF G d) fn.body ⟨(ds.map fun d => some (.val d)) ++ List.replicate (fn.ns - fn.np) none, h⟩).bind fun f s => match f with
          | .next => .ok (.val .non) ⟨[], s.h⟩
          | .ret v => .ok v ⟨[], s.h⟩
          | .brk => .stuck
      else .stuck
end KW
/-! KwRel: how the small language's state lies in the abstract heap of the hand layer. -/
namespace KW
open PySem (Str Addr Value Program World)
open L2 (V Hp HO upd upd_same upd_ne upd_upd SqL SqT Rd RelV Mut)

abbrev Fr := PySem.W.Frag
def mst (t : T) : Str := ⟨t.toArray⟩
def mkey : Key → L2.Key
  | .inl i => .inl i
  | .inr t => .inr (mst t)
theorem mst_inj {a b : T} (h : mst a = mst b) : a = b := by
  unfold mst at h
  injection h with h
  exact List.toArray_inj h
theorem mst_iff {a b : T} : mst a = mst b ↔ a = b := ⟨mst_inj, fun h => by rw [h]⟩
theorem mkey_inj {a b : Key} (h : mkey a = mkey b) : a = b := by
  cases a with
  | inl i => cases b with
    | inl j => unfold mkey at h; injection h with h; rw [h]
    | inr t => cases h
  | inr t => cases b with
    | inl j => cases h
    | inr u => unfold mkey at h; injection h with h; rw [mst_inj h]
theorem mkey_iff {a b : Key} : mkey a = mkey b ↔ a = b := ⟨mkey_inj, fun h => by rw [h]⟩
theorem kV_mkey (k : Key) : L2.kV (mkey k) = match k with
  | .inl i => V.int i
  | .inr t => V.str (mst t) := by cases k <;> rfl
def sst (s : String) : Str := Str.ofString s
theorem toNat_inj {a b : Char} (h : a.toNat = b.toNat) : a = b := by
  have h2 : Char.ofNat a.toNat = Char.ofNat b.toNat := by rw [h]
  simpa using h2
theorem map_inj {α β : Type} {f : α → β} (hf : ∀ a b, f a = f b → a = b) : ∀ {l m : List α}, l.map f = m.map f → l = m
  | [], [], _ => rfl
  | [], _ :: _, h => by simp at h
  | _ :: _, [], h => by simp at h
  | a :: l, b :: m, h => by
    simp only [List.map_cons, List.cons.injEq] at h
    rw [hf a b h.1, map_inj hf h.2]
theorem sst_inj {a b : String} (h : sst a = sst b) : a = b := by
  unfold sst at h
  rw [Str.ofString_eq_toList, Str.ofString_eq_toList] at h
  injection h with h
  have h2 := List.toArray_inj h
  have h3 : a.toList = b.toList := map_inj (fun _ _ => toNat_inj) h2
  rw [← String.ofList_toList (s := a), ← String.ofList_toList (s := b), h3]
theorem sst_iff {a b : String} : sst a = sst b ↔ a = b := ⟨sst_inj, fun h => by rw [h]⟩

/-- whose an object is -/
inductive Lb where
  | cell (i : Nat) | pl (p : Pl) | tmp | oth
  deriving DecidableEq
structure MM where
  loc : Nat → Addr
  who : Addr → Option Lb
  lk : Option Addr
/-- what somebody has: it may be changed; while a walk locks it, it is only read -/
def Mx (lk : Option Addr) (a : Addr) (o : Option HO) : Prop := Mut o ∨ (lk = some a ∧ ∃ ob u, o = some (.frz ob u) ∧ Mut (some u))
theorem Mx.no {lk : Option Addr} {a : Addr} (h : Mx lk a none) : False := by
  rcases h with h | ⟨_, ob, u, h, _⟩
  · exact h
  · cases h
theorem Mx.off {a : Addr} {o : Option HO} (h : Mx none a o) : Mut o := by
  rcases h with h | ⟨h, _⟩
  · exact h
  · cases h
theorem Mx.tup {lk : Option Addr} {a : Addr} {vs : List V} (h : Mx lk a (some (.tup vs))) : False := by
  rcases h with h | ⟨_, ob, u, h, _⟩
  · exact h
  · cases h
theorem Mx.ftup {lk : Option Addr} {a : Addr} {ob : PySem.Obj} {vs : List V} (h : Mx lk a (some (.frz ob (.tup vs)))) : False := by
  rcases h with h | ⟨_, ob, u, h, m⟩
  · exact h
  · cases h; exact m
/-- a class's address -/
abbrev cA (K : Fr) (c : String) : Addr := He.ga K (sst c)
def okT (t : T) : Prop := t.length ≤ sizeLine ∧ ∀ c ∈ t, c < 1114112
def okK : Key → Prop
  | .inl _ => True
  | .inr t => okT t
/-- the keys of a dict -/
structure KOk (ks : List Key) : Prop where
  nd : ks.Nodup
  ok : ∀ k ∈ ks, okK k
theorem KOk.nil : KOk [] := ⟨.nil, fun _ h => by cases h⟩

section
variable (K : Fr) (n : Nat) (M : MM) (H : Hp)
mutual
/-- a value that is handed on -/
inductive RD : D → V → Prop where
  | non : RD .non .non
  | bl (b : Bool) : RD (.bl b) (.bl b)
  | int (i : Int) : RD (.int i) (.int i)
  | str (t : T) : okT t → RD (.str t) (.str (mst t))
  | tup {a : Addr} {vs : List V} {xs : List D} : SqT K H a vs → RDs xs vs → RD (.tup xs) (.ref a)
  | lst {a : Addr} {vs : List V} {xs : List D} : Rd H a (.lst vs) → M.who a = none → RDs xs vs → RD (.lst xs) (.ref a)
  | dct {a : Addr} {kvs : List (Key × D)} {ks : List L2.Key} {vs : List V} : Rd H a (.dK (ks.zip vs)) → M.who a = none → ks = kvs.map (fun q => mkey q.1) → KOk (kvs.map (·.1)) → RDs (kvs.map (·.2)) vs → RD (.dct kvs) (.ref a)
  | ref {i : Nat} : i < n → RD (.ref i) (.ref (M.loc i))
inductive RDs : List D → List V → Prop where
  | nil : RDs [] []
  | cons {d : D} {v : V} {ds : List D} {vs : List V} : RD d v → RDs ds vs → RDs (d :: ds) (v :: vs)
end
/-- what may be changed stands at a -/
inductive RC : Cont → Addr → Prop where
  | lst {a : Addr} {vs : List V} {xs : List D} : H a = some (.lst vs) → RDs K n M H xs vs → RC (.lst xs) a
  | dct {a : Addr} {kvs : List (Key × D)} {ks : List L2.Key} {vs : List V} : Rd H a (.dK (ks.zip vs)) → ks = kvs.map (fun q => mkey q.1) → KOk (kvs.map (·.1)) → RDs K n M H (kvs.map (·.2)) vs → RC (.dct kvs) a
/-- what a place holds -/
inductive RS (p : Pl) : SV → V → Prop where
  | val {d : D} {v : V} : RD K n M H d v → RS p (.val d) v
  | own {c : Cont} {a : Addr} : M.who a = some (.pl p) → RC K n M H c a → RS p (.own c) (.ref a)
inductive RFs (i : Nat) : List (String × SV) → List (Str × V) → Prop where
  | nil : RFs i [] []
  | cons {f : String} {sv : SV} {v : V} {fs : List (String × SV)} {gs : List (Str × V)} : RS K n M H (.fld i f) sv v → RFs i fs gs → RFs i ((f, sv) :: fs) ((sst f, v) :: gs)
inductive REs (i : Nat) : List (Key × SV) → List (L2.Key × V) → Prop where
  | nil : REs i [] []
  | cons {k : Key} {sv : SV} {v : V} {fs : List (Key × SV)} {gs : List (L2.Key × V)} : RS K n M H (.ent i k) sv v → REs i fs gs → REs i ((k, sv) :: fs) ((mkey k, v) :: gs)
inductive RCell (i : Nat) : Cell → Prop where
  | ins {c : String} {fs : List (String × SV)} {gs : List (Str × V)} {dx : Addr} : H (M.loc i) = some (.ins (cA K c) dx gs) → (fs.map (·.1)).Nodup → RFs K n M H i fs gs → RCell i (.ins c fs)
  | lst {xs : List D} {vs : List V} : H (M.loc i) = some (.lst vs) → RDs K n M H xs vs → RCell i (.lst xs)
  | dct {kvs : List (Key × SV)} {gs : List (L2.Key × V)} : Rd H (M.loc i) (.dK gs) → KOk (kvs.map (·.1)) → REs K n M H i kvs gs → RCell i (.dct kvs)
end
/-- the heap -/
structure RH (K : Fr) (M : MM) (H : Hp) (h : List Cell) : Prop where
  wf : ∀ a l, M.who a = some l → Mx M.lk a (H a)
  lb : ∀ i, i < h.length → M.who (M.loc i) = some (.cell i)
  uq : ∀ a b l, l ≠ .tmp → l ≠ .oth → M.who a = some l → M.who b = some l → a = b
  cell : ∀ i c, h[i]? = some c → RCell K h.length M H i c
/-- a state: the slots, the heap -/
structure RT (K : Fr) (M : MM) (H : Hp) (σ : L2.St) (s : S) : Prop where
  hp : RH K M H s.h
  len : s.σ.length = σ.length
  sl : ∀ j sv, s.σ[j]? = some (some sv) → ∃ v, σ[j]? = some (some v) ∧ RS K s.h.length M H (.slot j) sv v

/-- a frame's own -/
def isLoc : Option Lb → Bool
  | some (.pl (.slot _)) => true
  | some .tmp => true
  | _ => false
/-- what stands for good -/
def prot (l : Option Lb) : Prop := l = none ∨ l = some .tmp ∨ l = some .oth
structure Ext (n : Nat) (M : MM) (H : Hp) (n' : Nat) (M' : MM) (H' : Hp) : Prop where
  keep : ∀ a o, H a = some o → prot (M.who a) → H' a = some o ∧ M'.who a = M.who a
  dom : ∀ a, H' a = none → H a = none
  loc : ∀ i, i < n → M'.loc i = M.loc i
  le : n ≤ n'
  nl : ∀ a, isLoc (M'.who a) = true → isLoc (M.who a) = true ∨ H a = none
  lk : M'.lk = M.lk
/-- nothing was changed -/
structure Grow (M : MM) (H : Hp) (M' : MM) (H' : Hp) : Prop where
  keep : ∀ a o, H a = some o → H' a = some o ∧ M'.who a = M.who a
  loc : M'.loc = M.loc
  lk : M'.lk = M.lk

section
variable {K : Fr} {n n' n'' : Nat} {M M' M'' : MM} {H H' H'' : Hp}
theorem Ext.refl : Ext n M H n M H := ⟨fun _ _ h _ => ⟨h, rfl⟩, fun _ h => h, fun _ _ => rfl, Nat.le_refl _, fun _ h => .inl h, rfl⟩
theorem Ext.trans (a : Ext n M H n' M' H') (b : Ext n' M' H' n'' M'' H'') : Ext n M H n'' M'' H'' where
  keep := fun c o h p => by
    obtain ⟨h1, e1⟩ := a.keep c o h p
    obtain ⟨h2, e2⟩ := b.keep c o h1 (by rw [e1]; exact p)
    exact ⟨h2, e2.trans e1⟩
  dom := fun c h => a.dom c (b.dom c h)
  loc := fun i hi => (b.loc i (Nat.lt_of_lt_of_le hi a.le)).trans (a.loc i hi)
  le := Nat.le_trans a.le b.le
  nl := fun c h => (b.nl c h).elim (a.nl c) fun z => .inr (a.dom c z)
  lk := b.lk.trans a.lk
theorem Grow.refl : Grow M H M H := ⟨fun _ _ h => ⟨h, rfl⟩, rfl, rfl⟩
theorem Grow.trans (a : Grow M H M' H') (b : Grow M' H' M'' H'') : Grow M H M'' H'' where
  keep := fun c o h => by
    obtain ⟨h1, e1⟩ := a.keep c o h
    obtain ⟨h2, e2⟩ := b.keep c o h1
    exact ⟨h2, e2.trans e1⟩
  loc := b.loc.trans a.loc
  lk := b.lk.trans a.lk
theorem Grow.ext (g : Grow M H M' H') : Ext n M H n M' H' where
  keep := fun a o h _ => g.keep a o h
  dom := fun a h => by
    cases e : H a with
    | none => rfl
    | some o => rw [(g.keep a o e).1] at h; cases h
  loc := fun i _ => by rw [g.loc]
  le := Nat.le_refl _
  nl := fun a h => by
    cases e : H a with
    | none => exact .inr rfl
    | some o => rw [(g.keep a o e).2] at h; exact .inl h
  lk := g.lk

theorem RD.len_eq : ∀ {xs : List D} {vs : List V}, RDs K n M H xs vs → xs.length = vs.length
  | _, _, .nil => rfl
  | _, _, .cons _ t => by rw [List.length_cons, List.length_cons, RD.len_eq t]
theorem sqt_keep (k : ∀ a o, H a = some o → M.who a = none → H' a = some o) (wf : ∀ a l, M.who a = some l → Mx M.lk a (H a)) {a : Addr} {vs : List V} (h : SqT K H a vs) : SqT K H' a vs := by
  have no : ∀ b o, H b = some o → ¬ Mx M.lk b (some o) → M.who b = none := fun b o q nm => by
    cases e : M.who b with
    | none => rfl
    | some l => exact absurd (by have := wf b l e; rw [q] at this; exact this) nm
  rcases h with (h | ⟨o, h⟩) | h
  · exact .inl (.inl (k _ _ h (no _ _ h Mx.tup)))
  · exact .inl (.inr ⟨o, k _ _ h (no _ _ h Mx.ftup)⟩)
  · exact .inr h
/-- what is kept for good: nobody's objects -/
structure Keep (n : Nat) (M : MM) (H : Hp) (n' : Nat) (M' : MM) (H' : Hp) : Prop where
  wf : ∀ a l, M.who a = some l → Mx M.lk a (H a)
  k : ∀ a o, H a = some o → M.who a = none → H' a = some o ∧ M'.who a = none
  loc : ∀ i, i < n → M'.loc i = M.loc i
  le : n ≤ n'
theorem Keep.rd (e : Keep n M H n' M' H') {a : Addr} {u : HO} (h : Rd H a u) (hw : M.who a = none) : Rd H' a u ∧ M'.who a = none := by
  rcases h with h | ⟨o, h⟩
  · exact ⟨.inl (e.k _ _ h hw).1, (e.k _ _ h hw).2⟩
  · exact ⟨.inr ⟨o, (e.k _ _ h hw).1⟩, (e.k _ _ h hw).2⟩
theorem rd_eq {a : Addr} {u : HO} (h : Rd H a u) (e : H' a = H a) : Rd H' a u := by
  unfold Rd at h ⊢
  rw [e]; exact h
theorem Ext.kept (e : Ext n M H n' M' H') (wf : ∀ a l, M.who a = some l → Mx M.lk a (H a)) : Keep n M H n' M' H' := ⟨wf, fun a o h q => by
    obtain ⟨h1, h2⟩ := e.keep a o h (.inl q)
    exact ⟨h1, h2.trans q⟩, e.loc, e.le⟩
mutual
theorem RD.mono (e : Keep n M H n' M' H') : ∀ {d : D} {v : V}, RD K n M H d v → RD K n' M' H' d v
  | _, _, .non => .non
  | _, _, .bl b => .bl b
  | _, _, .int i => .int i
  | _, _, .str t h => .str t h
  | _, _, .tup h hs => .tup (sqt_keep (fun a o q z => (e.k a o q z).1) e.wf h) (RDs.mono e hs)
  | _, _, .lst h hw hs => .lst (e.rd h hw).1 (e.rd h hw).2 (RDs.mono e hs)
  | _, _, .dct h hw hk hn hs => .dct (e.rd h hw).1 (e.rd h hw).2 hk hn (RDs.mono e hs)
  | _, _, .ref (i := i) h => by
    rw [← e.loc i h]
    exact .ref (Nat.lt_of_lt_of_le h e.le)
theorem RDs.mono (e : Keep n M H n' M' H') : ∀ {d : List D} {v : List V}, RDs K n M H d v → RDs K n' M' H' d v
  | _, _, .nil => .nil
  | _, _, .cons a b => .cons (RD.mono e a) (RDs.mono e b)
end
theorem RDs.get : ∀ {xs : List D} {vs : List V} {i : Nat} {d : D}, RDs K n M H xs vs → xs[i]? = some d → ∃ v, vs[i]? = some v ∧ RD K n M H d v
  | _, _, 0, _, .cons a _, h => by simp at h; subst h; exact ⟨_, rfl, a⟩
  | _, _, i + 1, _, .cons _ b, h => by
    obtain ⟨v, h1, h2⟩ := RDs.get (i := i) b (by simpa using h)
    exact ⟨v, by simpa using h1, h2⟩
theorem RDs.app : ∀ {xs ys : List D} {vs us : List V}, RDs K n M H xs vs → RDs K n M H ys us → RDs K n M H (xs ++ ys) (vs ++ us)
  | _, _, _, _, .nil, h => h
  | _, _, _, _, .cons a b, h => .cons a (RDs.app b h)
theorem RDs.drop : ∀ {xs : List D} {vs : List V} (k : Nat), RDs K n M H xs vs → RDs K n M H (xs.drop k) (vs.drop k)
  | _, _, 0, h => h
  | _, _, _ + 1, .nil => .nil
  | _, _, k + 1, .cons _ b => RDs.drop k b
theorem RDs.take : ∀ {xs : List D} {vs : List V} (k : Nat), RDs K n M H xs vs → RDs K n M H (xs.take k) (vs.take k)
  | _, _, 0, _ => .nil
  | _, _, _ + 1, .nil => .nil
  | _, _, k + 1, .cons a b => .cons a (RDs.take k b)
theorem RDs.rev {xs : List D} {vs : List V} (h : RDs K n M H xs vs) : RDs K n M H xs.reverse vs.reverse := by
  induction xs generalizing vs with
  | nil => cases h; exact .nil
  | cons x r ih =>
    cases h with
    | cons a b => simpa using (ih b).app (.cons a .nil)
theorem RDs.erase : ∀ {xs : List D} {vs : List V} (k : Nat), RDs K n M H xs vs → RDs K n M H (xs.eraseIdx k) (vs.eraseIdx k)
  | _, _, _, .nil => .nil
  | _, _, 0, .cons _ b => b
  | _, _, k + 1, .cons a b => .cons a (RDs.erase k b)
theorem RDs.of_mem : ∀ {xs : List D} {vs : List V}, RDs K n M H xs vs → ∀ d ∈ xs, ∃ v ∈ vs, RD K n M H d v
  | _, _, .nil, _, h => by cases h
  | _, _, .cons a b, d, h => by
    rcases List.mem_cons.mp h with rfl | h
    · exact ⟨_, List.mem_cons_self, a⟩
    · obtain ⟨v, hv, r⟩ := RDs.of_mem b d h
      exact ⟨v, List.mem_cons_of_mem _ hv, r⟩

theorem RC.mono (e : Keep n M H n' M' H') {c : Cont} {a : Addr} (ha : H' a = H a) (h : RC K n M H c a) : RC K n' M' H' c a := by
  cases h with
  | lst h hs => exact .lst (ha.trans h) (RDs.mono e hs)
  | dct h hk hn hs => exact .dct (rd_eq h ha) hk hn (RDs.mono e hs)
theorem RS.mono (e : Keep n M H n' M' H') {p : Pl} {sv : SV} {v : V} (hp : ∀ a, M.who a = some (.pl p) → M'.who a = some (.pl p) ∧ H' a = H a) (h : RS K n M H p sv v) : RS K n' M' H' p sv v := by
  cases h with
  | val h => exact .val (h.mono e)
  | own h hc => exact .own (hp _ h).1 (hc.mono e (hp _ h).2)
theorem RFs.mono (e : Keep n M H n' M' H') {i : Nat} : ∀ {fs : List (String × SV)} {gs : List (Str × V)}, (∀ f ∈ fs.map (·.1), ∀ a, M.who a = some (.pl (.fld i f)) → M'.who a = some (.pl (.fld i f)) ∧ H' a = H a) → RFs K n M H i fs gs → RFs K n' M' H' i fs gs
  | _, _, _, .nil => .nil
  | _, _, hp, .cons a b => .cons (a.mono e (hp _ (by simp))) (RFs.mono e (fun f hf => hp f (by simp at hf ⊢; exact .inr hf)) b)
theorem REs.mono (e : Keep n M H n' M' H') {i : Nat} : ∀ {fs : List (Key × SV)} {gs : List (L2.Key × V)}, (∀ k ∈ fs.map (·.1), ∀ a, M.who a = some (.pl (.ent i k)) → M'.who a = some (.pl (.ent i k)) ∧ H' a = H a) → REs K n M H i fs gs → REs K n' M' H' i fs gs
  | _, _, _, .nil => .nil
  | _, _, hp, .cons a b => .cons (a.mono e (hp _ (by simp))) (REs.mono e (fun f hf => hp f (by simp only [List.map_cons, List.mem_cons]; exact .inr hf)) b)
theorem RCell.mono (e : Keep n M H n' M' H') {i : Nat} (hi : i < n) (hc : H' (M.loc i) = H (M.loc i)) {c : Cell} (hp : ∀ p, (∃ f, p = .fld i f) ∨ (∃ k, p = .ent i k) → ∀ a, M.who a = some (.pl p) → M'.who a = some (.pl p) ∧ H' a = H a) (h : RCell K n M H i c) : RCell K n' M' H' i c := by
  have el := e.loc i hi
  cases h with
  | ins h hn hf => exact .ins (by rw [el, hc]; exact h) hn (RFs.mono e (fun f _ => hp _ (.inl ⟨f, rfl⟩)) hf)
  | lst h hs => exact .lst (by rw [el, hc]; exact h) (RDs.mono e hs)
  | dct h hn hf => exact .dct (by rw [el]; exact rd_eq h hc) hn (REs.mono e (fun k _ => hp _ (.inr ⟨k, rfl⟩)) hf)

/-- a value behind an expression -/
inductive RR (K : Fr) (n : Nat) (M : MM) (H : Hp) : RV → V → Prop where
  | val {d : D} {v : V} : RD K n M H d v → RR K n M H (.val d) v
  | own {c : Cont} {a : Addr} : M.who a = some .tmp → RC K n M H c a → RR K n M H (.own c) (.ref a)
  | pk {c : Cont} {a : Addr} {p : Pl} : M.who a = some (.pl p) → RC K n M H c a → RR K n M H (.pk p c) (.ref a)
/-- a new thing is new -/
def Fresh (H : Hp) (x : RV) (v : V) : Prop := ∀ c, x = .own c → ∀ a, v = .ref a → H a = none
theorem RR.mono {x : RV} {v : V} (wf : ∀ a l, M.who a = some l → Mx M.lk a (H a)) (e : Ext n M H n' M' H') (hx : isPk x = false) (h : RR K n M H x v) : RR K n' M' H' x v := by
  cases h with
  | val h => exact .val (h.mono (e.kept wf))
  | @own c a hw hc =>
    have hm := wf _ _ hw
    cases q : H a with
    | none => rw [q] at hm; exact hm.no.elim
    | some o =>
      obtain ⟨h1, h2⟩ := e.keep _ _ q (by rw [hw]; exact .inr (.inl rfl))
      exact .own (h2.trans hw) (hc.mono (e.kept wf) (h1.trans q.symm))
  | pk _ _ => cases hx
theorem RR.grow {x : RV} {v : V} (wf : ∀ a l, M.who a = some l → Mx M.lk a (H a)) (e : Grow M H M' H') (h : RR K n M H x v) : RR K n M' H' x v := by
  have go : ∀ a l, M.who a = some l → H' a = H a ∧ M'.who a = some l := fun a l hw => by
    have hm := wf _ _ hw
    cases q : H a with
    | none => rw [q] at hm; exact hm.no.elim
    | some o =>
      obtain ⟨h1, h2⟩ := e.keep _ _ q
      exact ⟨h1, h2.trans hw⟩
  cases h with
  | val h => exact .val (h.mono (e.ext.kept wf))
  | own hw hc => exact .own (go _ _ hw).2 (hc.mono (e.ext.kept wf) (go _ _ hw).1)
  | pk hw hc => exact .pk (go _ _ hw).2 (hc.mono (e.ext.kept wf) (go _ _ hw).1)

/-- only additions: the state stands -/
theorem RH.grow {h : List Cell} (r : RH K M H h) (g : Grow M H M' H') (wf : ∀ a l, M'.who a = some l → Mx M'.lk a (H' a)) (uq : ∀ a b l, l ≠ .tmp → l ≠ .oth → M'.who a = some l → M'.who b = some l → a = b) : RH K M' H' h := by
  have go : ∀ a l, M.who a = some l → H' a = H a ∧ M'.who a = some l := fun a l hw => by
    have hm := r.wf _ _ hw
    cases q : H a with
    | none => rw [q] at hm; exact hm.no.elim
    | some o =>
      obtain ⟨h1, h2⟩ := g.keep _ _ q
      exact ⟨h1, h2.trans hw⟩
  refine ⟨wf, fun i hi => ?_, uq, fun i c hc => ?_⟩
  · rw [g.loc]; exact (go _ _ (r.lb i hi)).2
  · have hi : i < h.length := (List.getElem?_eq_some_iff.mp hc).1
    exact (r.cell i c hc).mono (g.ext.kept r.wf) hi (go _ _ (r.lb i hi)).1 fun p _ a ha => ⟨(go _ _ ha).2, (go _ _ ha).1⟩
theorem RT.grow {σ : L2.St} {s : S} (r : RT K M H σ s) (g : Grow M H M' H') (wf : ∀ a l, M'.who a = some l → Mx M'.lk a (H' a)) (uq : ∀ a b l, l ≠ .tmp → l ≠ .oth → M'.who a = some l → M'.who b = some l → a = b) : RT K M' H' σ s := by
  refine ⟨r.hp.grow g wf uq, r.len, fun j sv e => ?_⟩
  obtain ⟨v, h1, h2⟩ := r.sl j sv e
  refine ⟨v, h1, h2.mono (g.ext.kept r.hp.wf) fun a ha => ?_⟩
  have hm := r.hp.wf _ _ ha
  cases q : H a with
  | none => rw [q] at hm; exact hm.no.elim
  | some o =>
    obtain ⟨h1, h2⟩ := g.keep _ _ q
    exact ⟨h2.trans ha, h1⟩
/-- a label is set -/
def MM.set (M : MM) (a : Addr) (l : Option Lb) : MM := { M with who := fun b => if b = a then l else M.who b }
theorem MM.set_same {a : Addr} {l : Option Lb} : (M.set a l).who a = l := by simp [MM.set]
theorem MM.set_ne {a b : Addr} {l : Option Lb} (h : b ≠ a) : (M.set a l).who b = M.who b := by simp [MM.set, h]
theorem nl_set {a : Addr} (e : ∀ b, isLoc (M'.who b) = true → isLoc (M.who b) = true ∨ H b = none) : ∀ b, isLoc ((M'.set a none).who b) = true → isLoc (M.who b) = true ∨ H b = none := fun b h => by
  by_cases z : b = a
  · subst z; rw [MM.set_same] at h; cases h
  · rw [MM.set_ne z] at h; exact e b h
theorem RH.nobody {h : List Cell} (r : RH K M H h) {a : Addr} (ha : H a = none) : M.who a = none := by
  cases e : M.who a with
  | none => rfl
  | some l => have := r.wf a l e; rw [ha] at this; exact this.no.elim
/-- a new object that nobody changes -/
theorem RT.new {σ : L2.St} {s : S} (r : RT K M H σ s) {p : Addr} {o : HO} (hp : H p = none) : RT K M (upd H p o) σ s ∧ Grow M H M (upd H p o) := by
  have g : Grow M H M (upd H p o) := ⟨fun a o' e => ⟨by rw [upd_ne (L2.ne_of_none e hp)]; exact e, rfl⟩, rfl, rfl⟩
  refine ⟨r.grow g (fun a l e => ?_) r.hp.uq, g⟩
  have hm := r.hp.wf a l e
  rw [upd_ne (fun z => by rw [z, hp] at hm; exact hm.no)]
  exact hm
/-- a new object that may be changed -/
theorem RT.tmp {σ : L2.St} {s : S} (r : RT K M H σ s) {p : Addr} {o : HO} (hp : H p = none) (mu : Mut (some o)) : RT K (M.set p (some .tmp)) (upd H p o) σ s ∧ Grow M H (M.set p (some .tmp)) (upd H p o) := by
  have g : Grow M H (M.set p (some .tmp)) (upd H p o) := ⟨fun a o' e => ⟨by rw [upd_ne (L2.ne_of_none e hp)]; exact e, MM.set_ne (L2.ne_of_none e hp)⟩, rfl, rfl⟩
  refine ⟨r.grow g (fun a l e => ?_) (fun a b l h1 h2 ea eb => ?_), g⟩
  · by_cases z : a = p
    · subst z; rw [upd_same]; exact .inl mu
    · rw [MM.set_ne z] at e
      rw [upd_ne z]
      exact r.hp.wf a l e
  · by_cases za : a = p
    · subst za; rw [MM.set_same] at ea; injection ea with ea; exact absurd ea.symm h1
    · by_cases zb : b = p
      · subst zb; rw [MM.set_same] at eb; injection eb with eb; exact absurd eb.symm h1
      · rw [MM.set_ne za] at ea
        rw [MM.set_ne zb] at eb
        exact r.hp.uq a b l h1 h2 ea eb
end
end KW
/-! KwOut: what is wanted of a run of the small language, as a reading of the hand layer. -/
namespace KW
open PySem (Str Addr Value Program World)
open L2 (V Hp HO upd upd_same upd_ne upd_upd SqL SqT Rd RelV Mut TE TT TA TS WX PE PT PA PS PSs Cx Inv)

inductive RXs (K : Fr) (n : Nat) (M : MM) (H : Hp) : List (String × D) → List (Str × V) → Prop where
  | nil : RXs K n M H [] []
  | cons {f : String} {d : D} {v : V} {fs : List (String × D)} {gs : List (Str × V)} : RD K n M H d v → RXs K n M H fs gs → RXs K n M H ((f, d) :: fs) ((sst f, v) :: gs)
/-- an exception: its class, its own dict -/
def RX (K : Fr) (n : Nat) (M : MM) (H : Hp) (x : Exc) (cls : Value) (d : Option Addr) : Prop :=
  cls = .ref (cA K x.cls) ∧ (x.fs = [] ∨ ∃ a gs, d = some a ∧ H a = some (.xd gs) ∧ RXs K n M H x.fs gs)

/-- what a run ends in -/
def OutR {α β : Type} (K : Fr) (W : WX) (rel : Hp → MM → Hp → S → α → β → Prop) (M : MM) (H : Hp) (σ : L2.St) (s : S) (pu : Bool) (r : R α) (Q : β → Hp → Prop) : Prop :=
  (M.lk ≠ none → pu = true) ∧ match r with
  | .ok x s' => ∀ M' H' v, Ext s.h.length M H s'.h.length M' H' → (pu = true → s' = s ∧ Grow M H M' H') → RT K M' H' σ s' → rel H M' H' s' x v → Q v H'
  | .raise x s' => ∀ M' H' cls d, Ext s.h.length M H s'.h.length M' H' → RT K M' H' σ s' → RX K s'.h.length M' H' x cls d → W cls d σ H'
  | .stuck => False
def Anti {α β : Type} (rel : Hp → MM → Hp → S → α → β → Prop) : Prop := ∀ H H1 M' H' s' x v, (∀ a, H1 a = none → H a = none) → rel H1 M' H' s' x v → rel H M' H' s' x v
section
variable {K : Fr} {W : WX} {M M1 : MM} {H H1 : Hp} {σ : L2.St} {s s1 : S}
/-- behind a first part -/
theorem OutR.later {α β : Type} {rel : Hp → MM → Hp → S → α → β → Prop} {pu pu1 : Bool} {r : R α} {Q : β → Hp → Prop} (an : Anti rel) (h : OutR K W rel M H σ s pu r Q) (e : Ext s.h.length M H s1.h.length M1 H1) (hp : pu = true → s1 = s ∧ Grow M H M1 H1) (hpp : pu = true → pu1 = true) : OutR K W rel M1 H1 σ s1 pu1 r Q := by
  refine ⟨fun z => hpp (h.1 (by rw [← e.lk]; exact z)), ?_⟩
  have h := h.2
  cases r with
  | ok x s' => exact fun M' H' v e' p' rt rl => h M' H' v (e.trans e') (fun z => by
      obtain ⟨a, b⟩ := hp z
      obtain ⟨c, d⟩ := p' (hpp z)
      exact ⟨c.trans a, b.trans d⟩) rt (an _ _ _ _ _ _ _ e.dom rl)
  | raise x s' => exact fun M' H' c d e' rt rx => h M' H' c d (e.trans e') rt rx
  | stuck => exact h
/-- a first part, then the rest -/
theorem OutR.bind {α β γ δ : Type} {rel : Hp → MM → Hp → S → α → β → Prop} {rel1 : Hp → MM → Hp → S → γ → δ → Prop} {pu pu1 : Bool} {r : R γ} {f : γ → S → R α} {Q : β → Hp → Prop} {Q1 : δ → Hp → Prop}
    (an : Anti rel) (h : OutR K W rel M H σ s pu (r.bind f) Q) (hpp : pu = true → pu1 = true)
    (k : ∀ x s' M' H' v, r = .ok x s' → Ext s.h.length M H s'.h.length M' H' → (pu1 = true → s' = s ∧ Grow M H M' H') → RT K M' H' σ s' → rel1 H M' H' s' x v → (∀ pu2 : Bool, (pu = true → pu2 = true) → OutR K W rel M' H' σ s' pu2 (f x s') Q) → Q1 v H') : OutR K W rel1 M H σ s pu1 r Q1 := by
  refine ⟨fun z => hpp (h.1 z), ?_⟩
  cases r with
  | ok x s' =>
    rw [bind_ok] at h
    exact fun M' H' v e p rt rl => k x s' M' H' v rfl e p rt rl fun pu2 hp2 => h.later an e (fun z => p (hpp z)) hp2
  | raise x s' => exact h.2
  | stuck => exact h.2
end

/-- a value -/
def relE (K : Fr) : Hp → MM → Hp → S → RV → V → Prop := fun H M' H' s' x v => RR K s'.h.length M' H' x v ∧ Fresh H x v
/-- handed on -/
def relD (K : Fr) : Hp → MM → Hp → S → D → V → Prop := fun _ M' H' s' x v => RD K s'.h.length M' H' x v
def relEs (K : Fr) : Hp → MM → Hp → S → List D → List V → Prop := fun _ M' H' s' x v => RDs K s'.h.length M' H' x v
def relB : Hp → MM → Hp → S → Bool → Bool → Prop := fun _ _ _ _ x v => x = v
theorem anti_relE {K : Fr} : Anti (relE K) := fun _ _ _ _ _ _ _ h r => ⟨r.1, fun c e a z => h a (r.2 c e a z)⟩
theorem anti_relD {K : Fr} : Anti (relD K) := fun _ _ _ _ _ _ _ _ r => r
theorem anti_relEs {K : Fr} : Anti (relEs K) := fun _ _ _ _ _ _ _ _ r => r
theorem anti_relB : Anti relB := fun _ _ _ _ _ _ _ _ r => r

section
variable (K : Fr) (W : WX) (C : CallF)
def tE (e : E) : TE := fun σ H Q => ∃ M s, RT K M H σ s ∧ OutR K W (relE K) M H σ s (pure e) (evalE C e s) Q
def tD (e : E) : TE := fun σ H Q => ∃ M s, RT K M H σ s ∧ OutR K W (relD K) M H σ s (pure e) (exports (evalE C e s)) Q
def tEs (es : List E) : TA := fun σ H Q => ∃ M s, RT K M H σ s ∧ OutR K W (relEs K) M H σ s (pures es) (evalEs C es s) Q
def tT (e : E) : TT := fun σ H Q => ∃ M s, RT K M H σ s ∧ OutR K W relB M H σ s (pure e) (isTruth (evalE C e s)) Q
end
/-- a two-place operation -/
def Ok2 (K : Fr) (o : Op2) (r : L2.R2) : Prop := ∀ (M : MM) (H : Hp) (σ : L2.St) (s : S) (x y : RV) (vx vy : V) (z : RV) (Q : L2.VK), RT K M H σ s → RR K s.h.length M H x vx → RR K s.h.length M H y vy → run2 s.h o x y = some z →
  (∀ M' H' v, Grow M H M' H' → RT K M' H' σ s → RR K s.h.length M' H' z v → Fresh H z v → Q v H') → r vx vy H Q
def Ok1 (K : Fr) (o : Op1) (r : V → Hp → L2.VK → Prop) : Prop := ∀ (M : MM) (H : Hp) (σ : L2.St) (s : S) (x : RV) (vx : V) (z : RV) (Q : L2.VK), RT K M H σ s → RR K s.h.length M H x vx → run1 s.h o x = some z →
  (∀ M' H' v, Grow M H M' H' → RT K M' H' σ s → RR K s.h.length M' H' z v → Fresh H z v → Q v H') → r vx H Q
def Ok3 (K : Fr) (o : Op3) (r : V → V → V → Hp → L2.VK → Prop) : Prop := ∀ (M : MM) (H : Hp) (σ : L2.St) (s : S) (x y u : RV) (vx vy vu : V) (z : RV) (Q : L2.VK), RT K M H σ s → RR K s.h.length M H x vx → RR K s.h.length M H y vy → RR K s.h.length M H u vu → run3 s.h o x y u = some z →
  (∀ M' H' v, Grow M H M' H' → RT K M' H' σ s → RR K s.h.length M' H' z v → Fresh H z v → Q v H') → r vx vy vu H Q

section
variable {K : Fr} {W : WX} {C : CallF} {a b c : E} {σ : L2.St} {H : Hp} {Q : L2.VK}
theorem fresh_grow {H H' : Hp} {x : RV} {v : V} (d : ∀ a, H' a = none → H a = none) (h : Fresh H' x v) : Fresh H x v := fun c e a z => d a (h c e a z)
/-- an operation on what stands -/
theorem OutR.op {M : MM} {s : S} {pu : Bool} {o : Option RV} (h : OutR K W (relE K) M H σ s pu (opt s o) Q) (rt : RT K M H σ s) :
    ∃ z, o = some z ∧ ∀ M' H' v, Grow M H M' H' → RT K M' H' σ s → RR K s.h.length M' H' z v → Fresh H z v → Q v H' := by
  cases o with
  | none => exact h.2.elim
  | some z => exact ⟨z, rfl, fun M' H' v g rt' rr fr => h.2 M' H' v g.ext (fun _ => ⟨rfl, g⟩) rt' ⟨rr, fr⟩⟩
theorem t_p1 {o : Op1} {r : V → Hp → L2.VK → Prop} (hr : Ok1 K o r) (h : tE K W C (.p1 o a) σ H Q) : L2.tUn r (tE K W C a) σ H Q := by
  obtain ⟨M, s, rt, h⟩ := h
  refine ⟨M, s, rt, ?_⟩
  simp only [evalE, pure] at h
  refine h.bind anti_relE (fun z => z) fun x s1 M1 H1 v hx e1 p1 rt1 rl1 h1 => ?_
  obtain ⟨z, ez, hz⟩ := (h1 _ fun z => z).op rt1
  exact hr M1 H1 σ s1 x v z Q rt1 rl1.1 ez hz
theorem t_p2 {o : Op2} {r : L2.R2} (hr : Ok2 K o r) (h : tE K W C (.p2 o a b) σ H Q) : L2.tOp r (tE K W C a) (tE K W C b) σ H Q := by
  obtain ⟨M, s, rt, h⟩ := h
  refine ⟨M, s, rt, ?_⟩
  simp only [evalE, pure] at h
  refine h.bind anti_relE (fun z => (Bool.and_eq_true_iff.mp z).1) fun x s1 M1 H1 v hx e1 p1 rt1 rl1 h1 => ?_
  have h1 := h1 (pure b) fun z => (Bool.and_eq_true_iff.mp z).2
  by_cases g0 : ((isPk x && !pure b) || !recv2 s1.h o x) = true
  · rw [if_pos g0] at h1; exact h1.2.elim
  rw [if_neg g0] at h1
  have g : ¬ (isPk x && !pure b) = true := fun z => g0 (Bool.or_eq_true_iff.mpr (.inl z))
  refine ⟨M1, s1, rt1, h1.bind anti_relE (fun z => z) fun y s2 M2 H2 u hy e2 p2 rt2 rl2 h2 => ?_⟩
  obtain ⟨z, ez, hz⟩ := (h2 _ fun z => z).op rt2
  have rx : RR K s2.h.length M2 H2 x v := by
    cases q : isPk x with
    | false => exact rl1.1.mono rt1.hp.wf e2 q
    | true =>
      have pb : pure b = true := by cases z : pure b with
        | true => rfl
        | false => exact absurd (by rw [q, z]; rfl) g
      obtain ⟨es, gr⟩ := p2 pb
      rw [es]
      exact rl1.1.grow rt1.hp.wf gr
  exact hr M2 H2 σ s2 x y v u z Q rt2 rx rl2.1 ez hz
end
end KW
/-! KwOps: the operations. -/
namespace KW
open PySem (Str Addr Value Program World Heap Operator CmpOp binaryOp compareOp)
open PySem.Spec PyProof.Rows
open L2 (V Hp HO upd upd_same upd_ne upd_upd SqL SqT Rd RelV Mut TE TT TA TS WX PE PT PA PS PSs Cx Inv OpR UnR CallR MtR IxR SlR TruR VK EP rI0)

theorem sizeLine_is : PySem.sizeLine = sizeLine := by decide
section
variable {K : Fr} {M : MM} {H : Hp} {σ : L2.St} {s : S} {n : Nat}
theorem ht_mut {a : Addr} {o : HO} (h : H a = some o) : Rd H a o := .inl h
/-- the list that a value is -/
theorem lst_at {x : RV} {v : V} {xs : List D} (rt : RT K M H σ s) (r : RR K s.h.length M H x v) (h : lstOf s.h x = some xs) : ∃ a vs, v = .ref a ∧ Rd H a (.lst vs) ∧ RDs K s.h.length M H xs vs := by
  cases r with
  | own hw hc => cases hc with
    | lst h1 h2 => simp [lstOf] at h; subst h; exact ⟨_, _, rfl, .inl h1, h2⟩
    | dct _ _ _ _ => simp [lstOf] at h
  | pk hw hc => cases hc with
    | lst h1 h2 => simp [lstOf] at h; subst h; exact ⟨_, _, rfl, .inl h1, h2⟩
    | dct _ _ _ _ => simp [lstOf] at h
  | val r => cases r with
    | lst h1 h2 h3 => simp [lstOf] at h; subst h; exact ⟨_, _, rfl, h1, h3⟩
    | @ref i hi =>
      simp only [lstOf] at h
      cases q : s.h[i]? with
      | none => rw [q] at h; cases h
      | some c =>
        rw [q] at h
        have rc := rt.hp.cell i c q
        cases rc with
        | lst h1 h2 => simp at h; subst h; exact ⟨_, _, rfl, .inl h1, h2⟩
        | ins _ _ _ => cases h
        | dct _ _ _ => cases h
    | _ => simp [lstOf] at h
theorem tup_at {x : RV} {v : V} {xs : List D} (r : RR K n M H (.val (.tup xs)) v) : ∃ a vs, v = .ref a ∧ SqT K H a vs ∧ RDs K n M H xs vs := by
  cases r with
  | val r => cases r with
    | tup h1 h2 => exact ⟨_, _, rfl, h1, h2⟩
theorem seq_at {x : RV} {v : V} {xs : List D} (rt : RT K M H σ s) (r : RR K s.h.length M H x v) (h : seqOf s.h x = some xs) : ∃ a vs, v = .ref a ∧ (SqL K H a vs ∨ SqT K H a vs) ∧ RDs K s.h.length M H xs vs := by
  unfold seqOf at h
  split at h
  · injection h with h; subst h
    obtain ⟨a, vs, e, h1, h2⟩ := tup_at (x := .val .non) r
    exact ⟨a, vs, e, .inr h1, h2⟩
  · obtain ⟨a, vs, e, h1, h2⟩ := lst_at rt r h
    exact ⟨a, vs, e, .inl (.inl h1), h2⟩
theorem int_at {i : Int} {v : V} (r : RR K n M H (.val (.int i)) v) : v = .int i := by
  cases r with
  | val r => cases r; rfl
theorem str_at {t : T} {v : V} (r : RR K n M H (.val (.str t)) v) : v = .str (mst t) ∧ okT t := by
  cases r with
  | val r => cases r with
    | str t h => exact ⟨rfl, h⟩
theorem bl_at {b : Bool} {v : V} (r : RR K n M H (.val (.bl b)) v) : v = .bl b := by
  cases r with
  | val r => cases r; rfl

theorem mst_len (t : T) : (mst t).length = t.length := by simp [mst, Str.length]
theorem mst_cps (t : T) : (mst t).cps.toList = t := by simp [mst]
theorem mst_app (a b : T) : mst a ++ mst b = mst (a ++ b) := by
  show (⟨(mst a).cps ++ (mst b).cps⟩ : Str) = _
  simp [mst]
theorem mst_eta (z : Str) : mst z.cps.toList = z := by simp [mst]
theorem okT_app {a b : T} (ha : okT a) (hb : okT b) (h : a.length + b.length ≤ sizeLine) : okT (a ++ b) :=
  ⟨by rw [List.length_append]; exact h, fun c hc => (List.mem_append.mp hc).elim (ha.2 c) (hb.2 c)⟩

/-- handing a new list on -/
theorem give_lst {xs : List D} {vs : List V} {Q : VK} (rt : RT K M H σ s) (rs : RDs K s.h.length M H xs vs)
    (hz : ∀ M' H' v, Grow M H M' H' → RT K M' H' σ s → RR K s.h.length M' H' (.own (.lst xs)) v → Fresh H (.own (.lst xs)) v → Q v H') : ∀ p, H p = none → Q (.ref p) (upd H p (.lst vs)) := fun p hp => by
  obtain ⟨rt', g⟩ := rt.tmp (o := .lst vs) hp trivial
  refine hz _ _ _ g rt' (.own MM.set_same (.lst upd_same (rs.mono (g.ext.kept rt.hp.wf)))) fun c e a z => ?_
  cases z
  exact hp
theorem give_tup {xs : List D} {vs : List V} {Q : VK} (rt : RT K M H σ s) (rs : RDs K s.h.length M H xs vs)
    (hz : ∀ M' H' v, Grow M H M' H' → RT K M' H' σ s → RR K s.h.length M' H' (.val (.tup xs)) v → Fresh H (.val (.tup xs)) v → Q v H') : ∀ p, H p = none → Q (.ref p) (upd H p (.tup vs)) := fun p hp => by
  obtain ⟨rt', g⟩ := rt.new (o := .tup vs) hp
  exact hz _ _ _ g rt' (.val (.tup (.inl (.inl upd_same)) (rs.mono (g.ext.kept rt.hp.wf)))) fun c e => by cases e
/-- handing a plain value on -/
theorem give {d : D} {v : V} {Q : VK} (rt : RT K M H σ s) (r : RD K s.h.length M H d v)
    (hz : ∀ M' H' v, Grow M H M' H' → RT K M' H' σ s → RR K s.h.length M' H' (.val d) v → Fresh H (.val d) v → Q v H') : Q v H :=
  hz M H v .refl rt (.val r) fun c e => by cases e
end

/-! ### + -/
def rCatS (K : Fr) : L2.R2 := fun x y H Q => ∃ l b xs zs, x = .ref l ∧ y = .ref b ∧ Rd H l (.lst xs) ∧ Rd H b (.lst zs) ∧ xs.length + zs.length ≤ PySem.sizeLine ∧ ∀ p, H p = none → Q (.ref p) (upd H p (.lst (xs ++ zs)))
theorem op_catS {X : Cx} : OpR X (binaryOp .Add) (rCatS X.K) := by
  intro pins s σ H x y v u Q I rx ry h
  obtain ⟨l, b, xs, zs, rfl, rfl, hH, hB, hz, q⟩ := h
  cases rx
  cases ry
  obtain ⟨z, its, n, r, e⟩ := hH.ok I.hok
  obtain ⟨z2, its2, n2, r2, e2⟩ := hB.ok I.hok
  have hl := r.length
  have hl2 := r2.length
  refine PySem.P.add_list e e2 ?_ (by rw [List.size_toArray, List.size_toArray]; omega)
  have ea : its.toArray ++ its2.toArray = (its ++ its2).toArray := by simp
  rw [ea]
  exact ⟨.ref _, _, I.lnew (t' := s.toks) (r.append r2) (by rw [List.length_append]; omega), rfl, q _ I.fresh⟩
def rAdd (K : Fr) : L2.R2 := fun x y H Q => (∃ i j, x = .int i ∧ y = .int j ∧ Q (.int (i + j)) H) ∨ ((∃ i j, x = .str i ∧ y = .str j ∧ i.length + j.length ≤ PySem.sizeLine ∧ Q (.str (i ++ j)) H) ∨ rCatS K x y H Q)
theorem op_add {X : Cx} : OpR X (binaryOp .Add) (rAdd X.K) := L2.OpR.or L2.op_add (L2.OpR.or L2.op_add_str op_catS)
theorem oif {α : Type} {c : Prop} [Decidable c] {a : Option α} {z : α} (h : (if c then a else none) = some z) : c ∧ a = some z := by
  by_cases g : c
  · rw [if_pos g] at h; exact ⟨g, h⟩
  · rw [if_neg g] at h; cases h
theorem newLst_some {xs : List D} {z : RV} (h : newLst xs = some z) : z = .own (.lst xs) ∧ xs.length ≤ sizeLine := by
  obtain ⟨g, h⟩ := oif h
  injection h with h
  exact ⟨h.symm, of_decide_eq_true g⟩
theorem newStr_some {t : T} {z : RV} (h : newStr t = some z) : z = .val (.str t) ∧ t.length ≤ sizeLine := by
  obtain ⟨g, h⟩ := oif h
  injection h with h
  exact ⟨h.symm, of_decide_eq_true g⟩
theorem obind {α β : Type} {o : Option α} {f : α → Option β} {z : β} (h : o.bind f = some z) : ∃ a, o = some a ∧ f a = some z := by
  cases o with
  | none => cases h
  | some a => exact ⟨a, rfl, h⟩
theorem omap {α β : Type} {o : Option α} {f : α → β} {z : β} (h : o.map f = some z) : ∃ a, o = some a ∧ f a = z := by
  cases o with
  | none => cases h
  | some a => exact ⟨a, rfl, Option.some.inj h⟩
theorem ok_add {K : Fr} : Ok2 K .add (rAdd K) := by
  intro M H σ s x y vx vy z Q rt rx ry hz hq
  have hz : oAdd s.h x y = some z := hz
  unfold oAdd at hz
  split at hz
  · injection hz with hz; subst hz
    cases int_at rx; cases int_at ry
    exact .inl ⟨_, _, rfl, rfl, give rt (.int _) hq⟩
  · obtain ⟨rfl, ha⟩ := str_at rx
    obtain ⟨rfl, hb⟩ := str_at ry
    obtain ⟨rfl, g⟩ := newStr_some hz
    rw [List.length_append] at g
    refine .inr (.inl ⟨_, _, rfl, rfl, by rw [mst_len, mst_len]; exact g, ?_⟩)
    rw [mst_app]
    exact give rt (.str _ (okT_app ha hb g)) hq
  · obtain ⟨xs, h1, hz⟩ := obind hz
    obtain ⟨ys, h2, hz⟩ := obind hz
    obtain ⟨rfl, g⟩ := newLst_some hz
    obtain ⟨a, vs, rfl, r1, r2⟩ := lst_at rt rx h1
    obtain ⟨b, us, rfl, r3, r4⟩ := lst_at rt ry h2
    refine .inr (.inr ⟨a, b, vs, us, rfl, rfl, r1, r3, ?_, give_lst rt (r2.app r4) hq⟩)
    rw [List.length_append, RD.len_eq r2, RD.len_eq r4] at g
    exact g
/-! ### -, *, //, % -/
theorem ok_sub {K : Fr} : Ok2 K .sub (rI0 fun i j => .int (i - j)) := by
  intro M H σ s x y vx vy z Q rt rx ry hz hq
  have hz : oSub x y = some z := hz
  unfold oSub at hz
  split at hz
  · injection hz with hz; subst hz
    cases int_at rx; cases int_at ry
    exact ⟨_, _, rfl, rfl, give rt (.int _) hq⟩
  · cases hz
theorem ok_div {K : Fr} : Ok2 K .fdiv (L2.rI L2.CDiv fun i j => .int (i / j)) := by
  intro M H σ s x y vx vy z Q rt rx ry hz hq
  have hz : oDiv x y = some z := hz
  unfold oDiv at hz
  split at hz
  · split at hz
    · rename_i g
      injection hz with hz; subst hz
      cases int_at rx; cases int_at ry
      exact ⟨_, _, rfl, rfl, g, give rt (.int _) hq⟩
    · cases hz
  · cases hz
theorem ok_mod {K : Fr} : Ok2 K .mod (L2.rI (fun _ j => 0 < j) fun i j => .int (i % j)) := by
  intro M H σ s x y vx vy z Q rt rx ry hz hq
  have hz : oMod x y = some z := hz
  unfold oMod at hz
  split at hz
  · split at hz
    · rename_i g
      injection hz with hz; subst hz
      cases int_at rx; cases int_at ry
      exact ⟨_, _, rfl, rfl, g, give rt (.int _) hq⟩
    · cases hz
  · cases hz
theorem ok_min2 {K : Fr} : Ok2 K .min2 (fun x y H Q => ∃ i j, x = .int i ∧ y = .int j ∧ Q (.int (if j < i then j else i)) H) := by
  intro M H σ s x y vx vy z Q rt rx ry hz hq
  have hz : oMin2 x y = some z := hz
  unfold oMin2 at hz
  split at hz
  · injection hz with hz; subst hz
    cases int_at rx; cases int_at ry
    exact ⟨_, _, rfl, rfl, give rt (.int _) hq⟩
  · cases hz
theorem ok_max2 {K : Fr} : Ok2 K .max2 (fun x y H Q => ∃ i j, x = .int i ∧ y = .int j ∧ Q (.int (if j > i then j else i)) H) := by
  intro M H σ s x y vx vy z Q rt rx ry hz hq
  have hz : oMax2 x y = some z := hz
  unfold oMax2 at hz
  split at hz
  · injection hz with hz; subst hz
    cases int_at rx; cases int_at ry
    exact ⟨_, _, rfl, rfl, give rt (.int _) hq⟩
  · cases hz
end KW
/-! KwOps2: more operations. -/
namespace KW
open PySem (Str Addr Value Program World Heap Operator CmpOp binaryOp compareOp PyData)
open PySem.Spec PyProof.Rows
open L2 (V Hp HO upd upd_same upd_ne upd_upd SqL SqT Rd RelV Mut TE TT TA TS WX PE PT PA PS PSs Cx Inv OpR UnR CallR MtR IxR SlR TruR VK EP rI0)

/-! ### data -/
mutual
def pyd : D → PyData
  | .non => .none
  | .bl b => .bool b
  | .int i => .int i
  | .str t => .str (mst t)
  | .tup xs => .tuple (pyds xs)
  | .lst xs => .list (pyds xs)
  | .dct _ => .none
  | .ref _ => .none
  | .exc _ _ => .none
def pyds : List D → List PyData
  | [] => []
  | x :: r => pyd x :: pyds r
end
theorem dec_beq {α : Type} [DecidableEq α] (a b : α) : decide (a = b) = (a == b) := by
  by_cases h : a = b <;> simp [h]
theorem dec_str (a b : T) : decide (a = b) = (mst a == mst b) := by
  by_cases h : a = b
  · subst h; simp
  · have h2 : mst a ≠ mst b := fun e => h (mst_inj e)
    simp [h, h2]
theorem b2i_is (b : Bool) : (if b then (1 : Int) else 0) = b2i b := rfl
mutual
theorem deq_eqv : ∀ (a b : D), isData a = true → isData b = true → deq a b = PyData.eqv (pyd a) (pyd b)
  | .non, b, _, h => by cases b <;> simp_all [isData, deq, pyd, PyData.eqv]
  | .bl a, b, _, h => by
    cases b with
    | int j => show decide (b2i a = j) = (b2i a == j); exact dec_beq _ _
    | _ => simp_all [isData, deq, pyd, PyData.eqv]
  | .int a, b, _, h => by
    cases b with
    | int j => show decide (a = j) = (a == j); exact dec_beq _ _
    | bl c => show decide (a = b2i c) = (a == b2i c); exact dec_beq _ _
    | _ => simp_all [isData, deq, pyd, PyData.eqv]
  | .str a, b, _, h => by
    cases b <;> simp_all [isData, deq, pyd, PyData.eqv, dec_str]
  | .tup xs, b, hx, h => by
    cases b <;> simp_all [isData, deq, pyd, PyData.eqv]
    exact deqs_eqv xs _ hx h
  | .lst xs, b, hx, h => by
    cases b <;> simp_all [isData, deq, pyd, PyData.eqv]
    exact deqs_eqv xs _ hx h
  | .dct _, _, h, _ => by simp [isData] at h
  | .ref _, _, h, _ => by simp [isData] at h
  | .exc _ _, _, h, _ => by simp [isData] at h
theorem deqs_eqv : ∀ (a b : List D), isDatas a = true → isDatas b = true → deqs a b = PyData.eqvAll (pyds a) (pyds b)
  | [], b, _, h => by cases b <;> simp [deqs, pyds, PyData.eqvAll]
  | x :: xs, [], _, h => by simp [deqs, pyds, PyData.eqvAll]
  | x :: xs, y :: ys, hx, hy => by
    simp only [isDatas, Bool.and_eq_true] at hx hy
    simp only [deqs, pyds, PyData.eqvAll]
    rw [deq_eqv x y hx.1 hy.1, deqs_eqv xs ys hx.2 hy.2]
end
section
variable {K : Fr} {M : MM} {H : Hp} {σ : L2.St} {s : S} {n : Nat}
mutual
theorem dp_of (wf : ∀ a l, M.who a = some l → Mx M.lk a (H a)) : ∀ (d : D) (v : V), isData d = true → RD K n M H d v → L2.Dp K H v (pyd d)
  | .non, _, _, .non => .non
  | .bl b, _, _, .bl _ => .bl b
  | .int i, _, _, .int _ => .int i
  | .str t, _, _, .str _ _ => .str _
  | .tup xs, _, h, .tup a b => .tup a (dps_of wf xs _ (by simpa [isData] using h) b)
  | .lst xs, _, h, .lst a _ b => .lst (.inl a) (dps_of wf xs _ (by simpa [isData] using h) b)
  | .dct _, _, h, _ => by simp [isData] at h
  | .ref _, _, h, _ => by simp [isData] at h
  | .exc _ _, _, h, _ => by simp [isData] at h
theorem dps_of (wf : ∀ a l, M.who a = some l → Mx M.lk a (H a)) : ∀ (d : List D) (v : List V), isDatas d = true → RDs K n M H d v → L2.DpAll K H v (pyds d)
  | [], _, _, .nil => .nil
  | x :: xs, _, h, .cons a b => by
    simp only [isDatas, Bool.and_eq_true] at h
    exact .cons (dp_of wf x _ h.1 a) (dps_of wf xs _ h.2 b)
end
mutual
theorem lay_of : ∀ (d : D) (v : V), isData d = true → RD K n M H d v → (pyd d).canLay0 = true ∧ (pyd d).depth = dep d
  | .non, _, _, _ => by simp [pyd, PyData.canLay0, PyData.depth, dep]
  | .bl b, _, _, _ => by simp [pyd, PyData.canLay0, PyData.depth, dep]
  | .int i, _, _, _ => by simp [pyd, PyData.canLay0, PyData.depth, dep]
  | .str t, _, _, .str _ h => by
    have h2 := h.2
    simp [pyd, PyData.canLay0, PyData.depth, dep, PyData.strOk, mst]
    intro i hi
    exact h2 _ hi
  | .tup xs, _, h, .tup a b => by
    obtain ⟨h1, h2⟩ := lays_of xs _ (by simpa [isData] using h) b
    simp [pyd, PyData.canLay0, PyData.depth, dep, h1, h2]
  | .lst xs, _, h, .lst a _ b => by
    obtain ⟨h1, h2⟩ := lays_of xs _ (by simpa [isData] using h) b
    simp [pyd, PyData.canLay0, PyData.depth, dep, h1, h2]
  | .dct _, _, h, _ => by simp [isData] at h
  | .ref _, _, h, _ => by simp [isData] at h
  | .exc _ _, _, h, _ => by simp [isData] at h
theorem lays_of : ∀ (d : List D) (v : List V), isDatas d = true → RDs K n M H d v → PyData.canLayAll0 (pyds d) = true ∧ PyData.depthAll (pyds d) = deps d
  | [], _, _, .nil => by simp [pyds, PyData.canLayAll0, PyData.depthAll, deps]
  | x :: xs, _, h, .cons a b => by
    simp only [isDatas, Bool.and_eq_true] at h
    obtain ⟨h1, h2⟩ := lay_of x _ h.1 a
    obtain ⟨h3, h4⟩ := lays_of xs _ h.2 b
    simp [pyds, PyData.canLayAll0, PyData.depthAll, deps, h1, h2, h3, h4]
end
theorem shaped_of {d : D} {v : V} (h : shaped d = true) (r : RD K n M H d v) : isData d = true ∧ PySem.SeqAt.shaped (pyd d) = true := by
  obtain ⟨h1, h2⟩ := Bool.and_eq_true_iff.mp h
  obtain ⟨h3, h4⟩ := lay_of d v h1 r
  refine ⟨h1, Bool.and_eq_true_iff.mpr ⟨h3, decide_eq_true ?_⟩⟩
  rw [h4]
  have := of_decide_eq_true h2
  omega
end
end KW
/-! KwOps3: comparisons, places, parts. -/
namespace KW
open PySem (Str Addr Value Program World Heap Operator CmpOp binaryOp compareOp PyData)
open PySem.Spec PyProof.Rows
open L2 (V Hp HO upd upd_same upd_ne upd_upd SqL SqT Rd RelV Mut TE TT TA TS WX PE PT PA PS PSs Cx Inv OpR UnR CallR MtR IxR SlR TruR VK EP rI0)
section
variable {K : Fr} {M : MM} {H : Hp} {σ : L2.St} {s : S} {n : Nat}
theorem lst_shape {xs : List D} {vs : List V} {a : Addr} (wf : ∀ a l, M.who a = some l → Mx M.lk a (H a)) (h : shaped (.lst xs) = true) (r : Rd H a (.lst vs)) (rs : RDs K n M H xs vs) : L2.Dp K H (.ref a) (pyd (.lst xs)) ∧ PySem.SeqAt.shaped (pyd (.lst xs)) = true := by
  obtain ⟨h1, h2⟩ := Bool.and_eq_true_iff.mp h
  have h1 : isDatas xs = true := by simpa [isData] using h1
  obtain ⟨h3, h4⟩ := lays_of xs vs h1 rs
  refine ⟨.lst (.inl r) (dps_of wf xs vs h1 rs), Bool.and_eq_true_iff.mpr ⟨by simpa [pyd, PyData.canLay0] using h3, decide_eq_true ?_⟩⟩
  have h5 := of_decide_eq_true h2
  simp only [dep] at h5
  simp only [pyd, PyData.depth, h4]
  omega
theorem dp_at {x : RV} {v : V} {d : D} (rt : RT K M H σ s) (r : RR K s.h.length M H x v) (h : datOf s.h x = some d) (sh : shaped d = true) : L2.Dp K H v (pyd d) ∧ PySem.SeqAt.shaped (pyd d) = true := by
  cases r with
  | own hw hc => cases hc with
    | lst h1 h2 => simp [datOf] at h; subst h; exact lst_shape rt.hp.wf sh (.inl h1) h2
    | dct _ _ _ _ => simp [datOf] at h; subst h; simp [shaped, isData] at sh
  | pk hw hc => cases hc with
    | lst h1 h2 => simp [datOf] at h; subst h; exact lst_shape rt.hp.wf sh (.inl h1) h2
    | dct _ _ _ _ => simp [datOf] at h; subst h; simp [shaped, isData] at sh
  | @val d0 v r =>
    cases d0 with
    | ref i =>
      cases r with
      | ref hi =>
        simp only [datOf] at h
        cases q : s.h[i]? with
        | none => rw [q] at h; cases h
        | some c =>
          rw [q] at h
          have rc := rt.hp.cell i c q
          cases rc with
          | lst h1 h2 => simp at h; subst h; exact lst_shape rt.hp.wf sh (.inl h1) h2
          | ins _ _ _ => cases h
          | dct _ _ _ => cases h
    | _ =>
      simp only [datOf, Option.some.injEq] at h
      subst h
      obtain ⟨h1, h2⟩ := shaped_of sh r
      exact ⟨dp_of rt.hp.wf _ _ h1 r, h2⟩
theorem isData_of {d : D} (h : shaped d = true) : isData d = true := (Bool.and_eq_true_iff.mp h).1
end
theorem ok_eq {K : Fr} : Ok2 K (.cmp .eq) (L2.rEqD K) := by
  intro M H σ s x y vx vy z Q rt rx ry hz hq
  obtain ⟨b, e1, rfl⟩ := omap (show (runCmp s.h .eq x y).map (fun b => RV.val (.bl b)) = some z from hz)
  obtain ⟨d, h1, e2⟩ := obind (show ((datOf s.h x).bind fun a => (datOf s.h y).bind fun b => eqD a b) = some b from e1)
  obtain ⟨e, h2, e3⟩ := obind e2
  obtain ⟨g, e4⟩ := oif e3
  injection e4 with e4; subst e4
  obtain ⟨g1, g2⟩ := Bool.and_eq_true_iff.mp g
  obtain ⟨p1, p2⟩ := dp_at rt rx h1 g1
  obtain ⟨p3, p4⟩ := dp_at rt ry h2 g2
  refine ⟨_, _, p1, p3, p2, p4, ?_⟩
  rw [← deq_eqv d e (isData_of g1) (isData_of g2)]
  exact give rt (.bl _) hq
theorem cmpInt_some {o : CmpO} {x y : RV} {b : Bool} (h : cmpInt o x y = some b) : ∃ i j, x = .val (.int i) ∧ y = .val (.int j) ∧ cmpI o i j = some b := by
  unfold cmpInt at h
  split at h
  · exact ⟨_, _, rfl, rfl, h⟩
  · cases h
theorem ok_lt {K : Fr} : Ok2 K (.cmp .lt) (rI0 fun i j => .bl (decide (i < j))) := by
  intro M H σ s x y vx vy z Q rt rx ry hz hq
  obtain ⟨b, e1, rfl⟩ := omap (show (cmpInt .lt x y).map (fun b => RV.val (.bl b)) = some z from hz)
  obtain ⟨i, j, rfl, rfl, e2⟩ := cmpInt_some e1
  cases e2; cases int_at rx; cases int_at ry
  exact ⟨_, _, rfl, rfl, give rt (.bl _) hq⟩
theorem ok_le {K : Fr} : Ok2 K (.cmp .le) (rI0 fun i j => .bl (decide (i ≤ j))) := by
  intro M H σ s x y vx vy z Q rt rx ry hz hq
  obtain ⟨b, e1, rfl⟩ := omap (show (cmpInt .le x y).map (fun b => RV.val (.bl b)) = some z from hz)
  obtain ⟨i, j, rfl, rfl, e2⟩ := cmpInt_some e1
  cases e2; cases int_at rx; cases int_at ry
  exact ⟨_, _, rfl, rfl, give rt (.bl _) hq⟩
theorem ok_gt {K : Fr} : Ok2 K (.cmp .gt) (rI0 fun i j => .bl (decide (j < i))) := by
  intro M H σ s x y vx vy z Q rt rx ry hz hq
  obtain ⟨b, e1, rfl⟩ := omap (show (cmpInt .gt x y).map (fun b => RV.val (.bl b)) = some z from hz)
  obtain ⟨i, j, rfl, rfl, e2⟩ := cmpInt_some e1
  cases e2; cases int_at rx; cases int_at ry
  exact ⟨_, _, rfl, rfl, give rt (.bl _) hq⟩
theorem ok_ge {K : Fr} : Ok2 K (.cmp .ge) (rI0 fun i j => .bl (decide (j ≤ i))) := by
  intro M H σ s x y vx vy z Q rt rx ry hz hq
  obtain ⟨b, e1, rfl⟩ := omap (show (cmpInt .ge x y).map (fun b => RV.val (.bl b)) = some z from hz)
  obtain ⟨i, j, rfl, rfl, e2⟩ := cmpInt_some e1
  cases e2; cases int_at rx; cases int_at ry
  exact ⟨_, _, rfl, rfl, give rt (.bl _) hq⟩

/-! ### dicts -/
section
variable {K : Fr} {M : MM} {H : Hp} {σ : L2.St} {s : S} {n : Nat}
theorem valV_cons (p : L2.Key × V) (r : List (L2.Key × V)) (k : L2.Key) : L2.valV (p :: r) k = if p.1 = k then some p.2 else L2.valV r k := by
  by_cases e : p.1 = k
  · rw [L2.valV_pos e, if_pos e]
  · rw [L2.valV_neg e, if_neg e]
/-- a dict's entries, as they lie -/
inductive RG (K : Fr) (n : Nat) (M : MM) (H : Hp) (P : Key → SV → V → Prop) : List (Key × SV) → List (L2.Key × V) → Prop where
  | nil : RG K n M H P [] []
  | cons {k : Key} {sv : SV} {v : V} {fs : List (Key × SV)} {gs : List (L2.Key × V)} : P k sv v → RG K n M H P fs gs → RG K n M H P ((k, sv) :: fs) ((mkey k, v) :: gs)
theorem RG.find {P : Key → SV → V → Prop} (k : Key) : ∀ {fs : List (Key × SV)} {gs : List (L2.Key × V)}, RG K n M H P fs gs → match kfind k fs with
    | none => L2.valV gs (mkey k) = none
    | some sv => ∃ v, L2.valV gs (mkey k) = some v ∧ P k sv v
  | _, _, .nil => rfl
  | _, _, .cons (k := k') (sv := sv) (v := v) (fs := fs) (gs := gs) p r => by
    have ih := RG.find k r
    simp only [kfind]
    by_cases e : k' = k
    · subst e
      simp only [if_true]
      exact ⟨v, by rw [valV_cons, if_pos rfl], p⟩
    · simp only [if_neg e]
      have e2 : ¬ mkey k' = mkey k := fun z => e (mkey_inj z)
      cases q : kfind k fs with
      | none => rw [q] at ih; simp only; rw [valV_cons, if_neg e2]; exact ih
      | some sv' => rw [q] at ih; obtain ⟨w, h1, h2⟩ := ih; exact ⟨w, by rw [valV_cons, if_neg e2]; exact h1, h2⟩
theorem RG.keys {P : Key → SV → V → Prop} : ∀ {fs : List (Key × SV)} {gs : List (L2.Key × V)}, RG K n M H P fs gs → gs.map (·.1) = fs.map fun q => mkey q.1
  | _, _, .nil => rfl
  | _, _, .cons _ r => by simp [RG.keys r]
theorem REs.rg {i : Nat} : ∀ {fs : List (Key × SV)} {gs : List (L2.Key × V)}, REs K n M H i fs gs → RG K n M H (fun k sv v => RS K n M H (.ent i k) sv v) fs gs
  | _, _, .nil => .nil
  | _, _, .cons a b => .cons a (REs.rg b)
theorem flat_rg : ∀ {kvs : List (Key × D)} {vs : List V}, RDs K n M H (kvs.map (·.2)) vs → RG K n M H (fun _ sv v => RD K n M H (unSV sv) v) (plainEs kvs) ((kvs.map fun q => mkey q.1).zip vs)
  | [], _, .nil => .nil
  | q :: r, _, .cons a b => .cons (K := K) (by simpa using a) (flat_rg b)
/-- the dict that a value is -/
theorem dct_at {x : RV} {v : V} {q : Option Nat × List (Key × SV)} (rt : RT K M H σ s) (r : RR K s.h.length M H x v) (h : dctOf s.h x = some q) : ∃ a gs, v = .ref a ∧ Rd H a (.dK gs) ∧ KOk (q.2.map (·.1)) ∧
    RG K s.h.length M H (fun k sv v => RR K s.h.length M H (match q.1 with
      | some i => sv.rv (.ent i k)
      | none => .val (unSV sv)) v) q.2 gs := by
  have mono : ∀ {P P' : Key → SV → V → Prop} {fs : List (Key × SV)} {gs : List (L2.Key × V)}, (∀ k sv v, P k sv v → P' k sv v) → RG K s.h.length M H P fs gs → RG K s.h.length M H P' fs gs := by
    intro P P' fs gs hp r
    induction r with
    | nil => exact .nil
    | cons p _ ih => exact .cons (hp _ _ _ p) ih
  have nd : ∀ kvs : List (Key × D), ((plainEs kvs).map (·.1)) = kvs.map (·.1) := fun kvs => by simp [plainEs]
  cases r with
  | own hw hc => cases hc with
    | dct h1 h2 h3 h4 =>
      simp [dctOf] at h; subst h h2
      exact ⟨_, _, rfl, h1, (show KOk ((plainEs _).map (·.1)) from by rw [nd]; exact h3), mono (fun k sv v p => .val p) (flat_rg h4)⟩
    | lst _ _ => simp [dctOf] at h
  | pk hw hc => cases hc with
    | dct h1 h2 h3 h4 =>
      simp [dctOf] at h; subst h h2
      exact ⟨_, _, rfl, h1, (show KOk ((plainEs _).map (·.1)) from by rw [nd]; exact h3), mono (fun k sv v p => .val p) (flat_rg h4)⟩
    | lst _ _ => simp [dctOf] at h
  | val r => cases r with
    | dct h1 h0 h2 h3 h4 =>
      simp [dctOf] at h; subst h h2
      exact ⟨_, _, rfl, h1, (show KOk ((plainEs _).map (·.1)) from by rw [nd]; exact h3), mono (fun k sv v p => .val p) (flat_rg h4)⟩
    | @ref i hi =>
      simp only [dctOf] at h
      cases e : s.h[i]? with
      | none => rw [e] at h; cases h
      | some c =>
        rw [e] at h
        have rc := rt.hp.cell i c e
        cases rc with
        | dct h1 h2 h3 =>
          simp at h; subst h
          refine ⟨_, _, rfl, h1, h2, mono (fun k sv v p => ?_) h3.rg⟩
          cases p with
          | val p => exact .val p
          | own p1 p2 => exact .pk p1 p2
        | ins _ _ _ => cases h
        | lst _ _ => cases h
    | _ => simp [dctOf] at h
theorem key_at {d : D} {k : Key} {v : V} (r : RR K n M H (.val d) v) (h : keyOf d = some k) : v = L2.kV (mkey k) := by
  cases r with
  | val r =>
    cases r with
    | int i => simp at h; subst h; rfl
    | str t ht => simp at h; subst h; rfl
    | _ => simp at h
end
/-- what a dict holds, read -/
def rDG : L2.R2 := fun x y H Q => ∃ a v, x = .ref a ∧ L2.DGet H a y (some v) ∧ Q v H
theorem ix_dict {X : Cx} (hu : X.A.units + 1 < PySem.cLine) : IxR X rDG := by
  intro value slice pins s σ H x y v u Q I rx ry ⟨a, w, ex, g, q⟩ hs
  subst ex
  cases rx
  exact tail_any (L2.dict_typeIs I g) PySem.F.slot_dict_getitem.lookup (L2.d_getItem hu I g ry fun w' s3 I3 rw' => ⟨w, H, I3, rw', q⟩) (hs)
end KW
/-! KwNe: what differs, dicts too. -/
namespace KW
open PySem (Str Addr Value Program World Heap Operator CmpOp binaryOp compareOp PyData)
open PySem.Spec PyProof.Rows
open L2 (V Hp HO upd upd_same upd_ne upd_upd SqL SqT Rd RelV Mut TE TT TA TS WX PE PT PA PS PSs Cx Inv OpR UnR CallR MtR IxR SlR TruR VK EP rI0)
/-- what a dict's entries meet in another -/
inductive HitsV (K : Fr) (H : Hp) (ls : List (L2.Key × V)) : List (L2.Key × V) → Bool → Prop where
  | nil : HitsV K H ls [] true
  | miss {k : L2.Key} {v : V} {r : List (L2.Key × V)} : L2.valV ls k = none → HitsV K H ls ((k, v) :: r) false
  | hit {k : L2.Key} {v y : V} {d e : PyData} {r : List (L2.Key × V)} {b : Bool} : L2.valV ls k = some y → L2.Dp K H v d → L2.Dp K H y e → PySem.SeqAt.shaped d = true → PySem.SeqAt.shaped e = true → HitsV K H ls r b → HitsV K H ls ((k, v) :: r) (PyData.eqv d e && b)
def rNeK (K : Fr) : L2.R2 := fun x y H Q => ∃ a b ks ls r, x = .ref a ∧ y = .ref b ∧ Rd H a (.dK ks) ∧ Rd H b (.dK ls) ∧ HitsV K H ls ks r ∧ Q (.bl (!(ks.length == ls.length && r))) H
def rNeAll (K : Fr) : L2.R2 := fun x y H Q => L2.rNeD K x y H Q ∨ rNeK K x y H Q
section
variable {X : Cx}
theorem dkR {pins : List (Addr × PySem.Obj)} {σ : L2.St} {H : Hp} {s : PySem.Shared} {a : Addr} {ks : List (L2.Key × V)} (I : Inv X pins σ H s) (h : Rd H a (.dK ks)) : (a == PySem.sysModules) = false ∧ ∃ va, L2.KV ks va ∧ s.heap.DictOf (L2.mixKind X.prog X.w) a va := by
  rcases h with h | ⟨o, h⟩
  · obtain ⟨_, y, va, r, d⟩ := I.hok a _ h
    exact ⟨y, va, r, d⟩
  · obtain ⟨_, _, y, va, r, d⟩ := I.hok a _ h
    exact ⟨y, va, r, d⟩
theorem hitsV_run {pins : List (Addr × PySem.Obj)} {σ : L2.St} {H : Hp} {s : PySem.Shared} (I : Inv X pins σ H s) {A : PySem.Around} (hu : A.in1.units + 64 < PySem.cLine) {ls : List (L2.Key × V)} {vb : List (L2.Key × Value)} (rb : L2.KV ls vb) {ks : List (L2.Key × V)} {r : Bool} (h : HitsV X.K H ls ks r) :
    ∀ {va : List (L2.Key × Value)}, L2.KV ks va → PySem.W.KeqHits A.in1 s vb va r := by
  induction h with
  | nil => intro va ra; cases ra; exact .nil
  | @miss k v0 r0 hn =>
    intro va ra
    cases ra with
    | @cons _ q _ _ h1 t =>
      obtain ⟨e1, e2⟩ := h1
      obtain ⟨key, v⟩ := q
      obtain rfl : k = key := e1
      have this := rb.val k
      rw [hn] at this
      refine .miss ?_
      cases q : PySem.valueAt vb k with
      | none => rfl
      | some y => rw [q] at this; exact this.elim
  | @hit k v0 y d e r0 b hy hd he sd se _ ih =>
    intro va ra
    cases ra with
    | @cons _ q _ _ h1 t =>
      obtain ⟨e1, e2⟩ := h1
      obtain ⟨key, v⟩ := q
      obtain rfl : k = key := e1
      have this := rb.val k
      rw [hy] at this
      obtain ⟨w, hw, rw_⟩ := L2.RelO.some_of this
      obtain ⟨as, r1⟩ := L2.Dp.reads I _ _ _ hd e2
      obtain ⟨bs, r2⟩ := L2.Dp.reads I _ _ _ he rw_
      exact .hit hw (PySem.W.keq_at r1 r2 sd se hu) (ih t)
theorem op_neK (hu : X.A.units + 65 < PySem.cLine) : OpR X (compareOp .NotEq) (rNeK X.K) := by
  intro pins s σ H x y v u Q I rx ry h
  obtain ⟨a, b, ks, ls, r, rfl, rfl, ha, hb, hh, q⟩ := h
  cases (show v = Value.ref a from rx)
  cases (show u = Value.ref b from ry)
  obtain ⟨ya, va, ra, da⟩ := dkR I ha
  obtain ⟨yb, vb, rb, db⟩ := dkR I hb
  refine PySem.W.keq_ne (knd := L2.mixKind X.prog X.w) (r := r) ya yb da db (by omega) (fun _ => hitsV_run I (by show X.A.units + 1 + 64 < _; omega) rb hh ra) ?_
  rw [← ra.length, ← rb.length]
  exact ⟨.bl _, H, I, rfl, q⟩
theorem op_neAll (hu : X.A.units + 65 < PySem.cLine) : OpR X (compareOp .NotEq) (rNeAll X.K) := by
  intro pins s σ H x y v u Q I rx ry h
  rcases h with h | h
  · exact L2.op_neD (by omega) pins s σ H x y v u Q I rx ry h
  · exact op_neK hu pins s σ H x y v u Q I rx ry h
end
section
variable {K : Fr} {M : MM} {H : Hp} {σ : L2.St} {s : S} {n : Nat}
theorem dat_dct {h : List Cell} {x : RV} {p : List (Key × D)} (e : datOf h x = some (.dct p)) : dctOf h x = some (none, plainEs p) := by
  unfold datOf at e
  split at e
  · split at e <;> cases e
  · cases e; rfl
  · rename_i c; cases c with
    | lst _ => cases e
    | dct q => cases e; rfl
  · rename_i c; cases c with
    | lst _ => cases e
    | dct q => cases e; rfl
theorem kfind_pl (k : Key) : ∀ kvs : List (Key × D), kfind k (plainEs kvs) = (kfind k kvs).map .val
  | [] => rfl
  | q :: r => by
    have ih := kfind_pl k r
    simp only [plainEs] at ih
    simp only [plainEs, List.map_cons, kfind]
    split
    · rfl
    · exact ih
theorem hits_of (wf : ∀ a l, M.who a = some l → Mx M.lk a (H a)) {q : List (Key × D)} {ls : List (L2.Key × V)} (sq : shapedEs q = true) (rq : RG K n M H (fun k sv v => RR K n M H (.val (unSV sv)) v) (plainEs q) ls) : ∀ {p : List (Key × D)} {gs : List (L2.Key × V)}, shapedEs p = true →
    RG K n M H (fun k sv v => RR K n M H (.val (unSV sv)) v) (plainEs p) gs → HitsV K H ls gs (p.all fun e => match kfind e.1 q with
      | some v => deq e.2 v
      | none => false)
  | [], _, _, r => by
    cases r
    exact .nil
  | (k, d) :: p, _, sp, .cons (v := v) pv r => by
    obtain ⟨s1, s2⟩ := Bool.and_eq_true_iff.mp (show (shaped d && shapedEs p) = true from sp)
    have ih := hits_of wf sq rq s2 r
    have f := RG.find k rq
    rw [kfind_pl] at f
    rw [List.all_cons]
    cases e : kfind k q with
    | none =>
      rw [e] at f
      simp only [Bool.false_and]
      exact .miss f
    | some d2 =>
      rw [e] at f
      obtain ⟨y, f1, f2⟩ := f
      have se : shaped d2 = true := by
        have : ∀ {l : List (Key × D)}, shapedEs l = true → kfind k l = some d2 → shaped d2 = true := by
          intro l
          induction l with
          | nil => intro _ h; cases h
          | cons z r ih =>
            intro h1 h2
            obtain ⟨h3, h4⟩ := Bool.and_eq_true_iff.mp (show (shaped z.2 && shapedEs r) = true from h1)
            unfold kfind at h2
            split at h2
            · cases h2; exact h3
            · exact ih h4 h2
        exact this sq e
      cases pv with
      | val rd =>
        cases f2 with
        | val rd2 =>
          obtain ⟨a1, a2⟩ := shaped_of s1 rd
          obtain ⟨b1, b2⟩ := shaped_of se rd2
          simp only []
          rw [deq_eqv d d2 a1 b1]
          exact .hit f1 (dp_of wf _ _ a1 rd) (dp_of wf _ _ b1 rd2) a2 b2 ih
end
theorem ok_ne {K : Fr} : Ok2 K (.cmp .ne) (rNeAll K) := by
  intro M H σ s x y vx vy z Q rt rx ry hz hq
  obtain ⟨b, e1, rfl⟩ := omap (show (runCmp s.h .ne x y).map (fun b => RV.val (.bl b)) = some z from hz)
  obtain ⟨d, h1, e2⟩ := obind (show ((datOf s.h x).bind fun a => (datOf s.h y).bind fun b => neqD a b) = some b from e1)
  obtain ⟨e, h2, e3⟩ := obind e2
  unfold neqD at e3
  split at e3
  · rename_i p q
    obtain ⟨g, e4⟩ := oif e3
    injection e4 with e4; subst e4
    obtain ⟨g1, g2⟩ := Bool.and_eq_true_iff.mp g
    obtain ⟨a, gs, rfl, ra, ka, fa⟩ := dct_at rt rx (dat_dct h1)
    obtain ⟨b, ls, rfl, rb, kb, fb⟩ := dct_at rt ry (dat_dct h2)
    refine .inr ⟨a, b, gs, ls, _, rfl, rfl, ra, rb, hits_of rt.hp.wf g2 fb g1 fa, ?_⟩
    have l1 : gs.length = p.length := by
      have := congrArg List.length (RG.keys fa)
      simpa using this
    have l2 : ls.length = q.length := by
      have := congrArg List.length (RG.keys fb)
      simpa using this
    rw [l1, l2]
    have : (p.length == q.length) = decide (p.length = q.length) := by
      by_cases z : p.length = q.length <;> simp [z]
    rw [this]
    exact give rt (.bl _) hq
  · obtain ⟨b', e5, rfl⟩ := omap e3
    obtain ⟨g, e4⟩ := oif e5
    injection e4 with e4; subst e4
    obtain ⟨g1, g2⟩ := Bool.and_eq_true_iff.mp g
    obtain ⟨p1, p2⟩ := dp_at rt rx h1 g1
    obtain ⟨p3, p4⟩ := dp_at rt ry h2 g2
    refine .inl ⟨_, _, p1, p3, p2, p4, ?_⟩
    rw [← deq_eqv _ _ (isData_of g1) (isData_of g2)]
    exact give rt (.bl _) hq
end KW
/-! KwOps4: places, parts, membership. -/
namespace KW
open PySem (Str Addr Value Program World Heap Operator CmpOp binaryOp compareOp PyData)
open PySem.Spec PyProof.Rows
open L2 (V Hp HO upd upd_same upd_ne upd_upd SqL SqT Rd RelV Mut TE TT TA TS WX PE PT PA PS PSs Cx Inv OpR UnR CallR MtR IxR SlR TruR VK EP rI0)
theorem atI_is {α : Type} (xs : List α) (i : Int) : L2.atI xs i = atI xs i := rfl
section
variable {K : Fr} {M : MM} {H : Hp} {σ : L2.St} {s : S} {n : Nat}
theorem atI_get {α : Type} {xs : List α} {i : Int} {d : α} (h : atI xs i = some d) : ∃ j, ixN xs.length i = some j ∧ xs[j]? = some d := by
  unfold atI at h
  obtain ⟨j, h1, h2⟩ := obind h
  exact ⟨j, h1, h2⟩
theorem RDs.atI {xs : List D} {vs : List V} {i : Int} {d : D} (rs : RDs K n M H xs vs) (h : atI xs i = some d) : ∃ v, L2.atI vs i = some v ∧ RD K n M H d v := by
  obtain ⟨j, h1, h2⟩ := atI_get h
  obtain ⟨v, h3, h4⟩ := rs.get h2
  refine ⟨v, ?_, h4⟩
  rw [atI_is]
  unfold KW.atI
  rw [← RD.len_eq rs, h1]
  exact h3
theorem no_own_rv {p : Pl} {sv : SV} {c : Cont} (h : sv.rv p = .own c) : False := by cases sv <;> cases h
theorem ent_fresh {q : Option Nat × List (Key × SV)} {k : Key} {z : RV} (h : entOf q k = some z) (c : Cont) : z ≠ .own c := fun e => by
  subst e
  obtain ⟨sv, h1, h2⟩ := omap h
  split at h2
  · exact no_own_rv h2
  · cases h2
theorem ent_at {q : Option Nat × List (Key × SV)} {k : Key} {z : RV} {gs : List (L2.Key × V)} (h : entOf q k = some z)
    (r : RG K n M H (fun k sv v => RR K n M H (match q.1 with
      | some i => sv.rv (.ent i k)
      | none => .val (unSV sv)) v) q.2 gs) : ∃ v, L2.valV gs (mkey k) = some v ∧ RR K n M H z v := by
  obtain ⟨sv, h1, h2⟩ := omap h
  have f := r.find k
  rw [h1] at f
  obtain ⟨v, h3, h4⟩ := f
  refine ⟨v, h3, ?_⟩
  rw [← h2]
  exact h4
theorem dget_rd {a : Addr} {gs : List (L2.Key × V)} {k : L2.Key} (h : Rd H a (.dK gs)) : L2.DGet H a (L2.kV k) (L2.valV gs k) := .inl ⟨gs, k, h, rfl, rfl⟩
end
def rIdx (K : Fr) : L2.R2 := fun x y H Q => L2.rIxS x y H Q ∨ ((L2.rIxL K x y H Q ∨ L2.rIxT K x y H Q) ∨ rDG x y H Q)
theorem ix_all {X : Cx} (hu : X.A.units + 1 < PySem.cLine) : IxR X (rIdx X.K) := L2.IxR.or L2.ix_str (L2.IxR.or (L2.IxR.or L2.ix_list L2.ix_tup) (ix_dict hu))
theorem ok_idx {K : Fr} : Ok2 K .idx (rIdx K) := by
  intro M H σ s x y vx vy z Q rt rx ry hz hq
  have hz : runIdx s.h x y = some z := hz
  unfold runIdx at hz
  split at hz
  · unfold oIdxS at hz
    split at hz
    · obtain ⟨c, h1, rfl⟩ := omap hz
      obtain ⟨rfl, ht⟩ := str_at rx
      cases int_at ry
      refine .inl ⟨_, _, c, rfl, rfl, by rw [mst_len]; exact ht.1, by rw [mst_cps, atI_is]; exact h1, ?_⟩
      have hc : okT [c] := ⟨(show 1 ≤ 16777216 by decide), fun d hd => by
        obtain ⟨j, _, h2⟩ := atI_get h1
        rcases List.mem_singleton.mp hd with rfl
        exact ht.2 _ (List.mem_of_getElem? h2)⟩
      exact give rt (.str _ hc) hq
    · cases hz
  · cases e : seqOf s.h x with
    | some xs =>
      rw [e] at hz
      simp only [oIdxL] at hz
      split at hz
      · obtain ⟨d, h1, rfl⟩ := omap hz
        obtain ⟨a, vs, rfl, r1, r2⟩ := seq_at rt rx e
        cases int_at ry
        obtain ⟨v, h3, h4⟩ := r2.atI h1
        rcases r1 with r1 | r1
        · exact .inr (.inl (.inl ⟨a, vs, _, v, rfl, rfl, r1, h3, give rt h4 hq⟩))
        · exact .inr (.inl (.inr ⟨a, vs, _, v, rfl, rfl, r1, h3, give rt h4 hq⟩))
      · cases hz
    | none =>
      rw [e] at hz
      obtain ⟨q, h1, h2⟩ := obind (show (dctOf s.h x).bind (fun q => oIdxD q y) = some z from hz)
      unfold oIdxD at h2
      split at h2
      · obtain ⟨k, h3, h4⟩ := obind h2
        obtain ⟨a, gs, rfl, r1, _, r2⟩ := dct_at rt rx h1
        cases key_at ry h3
        obtain ⟨v, h5, h6⟩ := ent_at h4 r2
        refine .inr (.inr ⟨a, v, rfl, ?_, hq M H v .refl rt h6 fun c e => absurd e (ent_fresh h4 c)⟩)
        rw [← h5]
        exact dget_rd r1
      · cases h2

/-! ### parts -/
theorem sIx_is (n d : Nat) (o : Option Int) : HT.sIx n d o = sIx n d o := rfl
section
variable {K : Fr} {M : MM} {H : Hp} {σ : L2.St} {s : S} {n : Nat}
theorem RDs.cut {xs : List D} {vs : List V} (rs : RDs K n M H xs vs) (lo hi : Option Int) : RDs K n M H (cut xs lo hi) (L2.cutV vs lo hi) := by
  unfold KW.cut L2.cutV
  rw [sIx_is, sIx_is, ← RD.len_eq rs]
  exact (rs.drop _).take _
theorem cut_whole {α : Type} {xs : List α} {lo hi : Option Int} (h : sIx xs.length 0 lo = 0 ∧ sIx xs.length xs.length hi = xs.length) : cut xs lo hi = xs := by
  unfold cut
  rw [h.1, h.2]
  simp
theorem cut_mem {α : Type} {xs : List α} {lo hi : Option Int} {a : α} (h : a ∈ cut xs lo hi) : a ∈ xs := List.mem_of_mem_drop (List.mem_of_mem_take h)
theorem cut_len {α : Type} (xs : List α) (lo hi : Option Int) : (cut xs lo hi).length ≤ xs.length := by
  unfold cut
  rw [List.length_take, List.length_drop]
  omega
end
def rSl (K : Fr) : V → Option Int → Option Int → Hp → VK → Prop := fun x lo hi H Q => L2.rSlS x lo hi H Q ∨ (L2.rSlL K x lo hi H Q ∨ L2.rSlA K x lo hi H Q)
theorem sl_all {X : Cx} : SlR X (rSl X.K) := L2.SlR.or L2.sl_str (L2.SlR.or L2.sl_list L2.sl_tupA)
theorem ok_cut {K : Fr} {M : MM} {H : Hp} {σ : L2.St} {s : S} {x z : RV} {vx : V} {lo hi : Option Int} {Q : VK} (rt : RT K M H σ s) (rx : RR K s.h.length M H x vx) (hz : runCut s.h x lo hi = some z)
    (hq : ∀ M' H' v, Grow M H M' H' → RT K M' H' σ s → RR K s.h.length M' H' z v → Fresh H z v → Q v H') : rSl K vx lo hi H Q := by
  unfold runCut at hz
  split at hz
  · injection hz with hz; subst hz
    obtain ⟨rfl, ht⟩ := str_at rx
    refine .inl ⟨_, rfl, by rw [mst_len]; exact ht.1, ?_⟩
    rename_i t
    have e : L2.cutS (mst t) lo hi = mst (cut t lo hi) := by
      unfold L2.cutS mst KW.cut
      rw [sIx_is, sIx_is]
      simp [Str.length]
    rw [e]
    exact give rt (.str _ ⟨Nat.le_trans (cut_len _ _ _) ht.1, fun c hc => ht.2 c (cut_mem hc)⟩) hq
  · injection hz with hz; subst hz
    obtain ⟨a, vs, rfl, r1, r2⟩ := tup_at (x := .val .non) rx
    refine .inr (.inr ⟨a, vs, rfl, r1, fun hw => ?_, fun hw => give_tup rt (r2.cut lo hi) hq⟩)
    rw [sIx_is, sIx_is, ← RD.len_eq r2] at hw
    rw [cut_whole hw] at hq
    exact give rt (.tup r1 r2) hq
  · obtain ⟨xs, h1, h2⟩ := obind hz
    obtain ⟨rfl, g⟩ := newLst_some h2
    obtain ⟨a, vs, rfl, r1, r2⟩ := lst_at rt rx h1
    exact .inr (.inl ⟨a, vs, rfl, .inl r1, give_lst rt (r2.cut lo hi) hq⟩)
theorem part_some {x : RV} {i : Option Int} (h : part x = some i) : ∃ k, x = .val (.int k) ∧ i = some k := by
  unfold part at h
  split at h
  · injection h with h; exact ⟨_, rfl, h.symm⟩
  · cases h
section
variable {K : Fr} {W : WX} {C : CallF} {a b c : E} {σ : L2.St} {H : Hp} {Q : L2.VK}
theorem t_slFrom (h : tE K W C (.p2 .slFrom a b) σ H Q) : L2.tSl (rSl K) (tE K W C a) (L2.tPart (tE K W C b)) L2.tNoPart σ H Q := by
  have h := t_p2 (r := fun x y H Q => ∃ i, y = .int i ∧ rSl K x (some i) none H Q) (fun M H σ s x y vx vy z Q rt rx ry hz hq => ?_) h
  · exact h
  · obtain ⟨i, e1, e2⟩ := obind (show (part y).bind (fun i => runCut s.h x i none) = some z from hz)
    obtain ⟨k, rfl, rfl⟩ := part_some e1
    cases int_at ry
    exact ⟨k, rfl, ok_cut rt rx e2 hq⟩
theorem t_slTo (h : tE K W C (.p2 .slTo a b) σ H Q) : L2.tSl (rSl K) (tE K W C a) L2.tNoPart (L2.tPart (tE K W C b)) σ H Q := by
  have h := t_p2 (r := fun x y H Q => ∃ i, y = .int i ∧ rSl K x none (some i) H Q) (fun M H σ s x y vx vy z Q rt rx ry hz hq => ?_) h
  · exact h
  · obtain ⟨i, e1, e2⟩ := obind (show (part y).bind (fun i => runCut s.h x none i) = some z from hz)
    obtain ⟨k, rfl, rfl⟩ := part_some e1
    cases int_at ry
    exact ⟨k, rfl, ok_cut rt rx e2 hq⟩
end
end KW
/-! KwOps5: one-place operations, membership. -/
namespace KW
open PySem (Str Addr Value Program World Heap Operator CmpOp binaryOp compareOp PyData)
open PySem.Spec PyProof.Rows
open L2 (V Hp HO upd upd_same upd_ne upd_upd SqL SqT Rd RelV Mut TE TT TA TS WX PE PT PA PS PSs Cx Inv OpR UnR CallR MtR IxR SlR TruR VK EP rI0)

/-! ### in -/
section
variable {K : Fr} {M : MM} {H : Hp} {σ : L2.St} {s : S} {n : Nat}
theorem flat_flatV {d : D} {v : V} (h : flat d = true) (r : RD K n M H d v) : L2.flatV v = true := by
  cases r <;> first | rfl | (simp [flat] at h)
theorem flats_flatV : ∀ {xs : List D} {vs : List V}, xs.all flat = true → RDs K n M H xs vs → vs.all L2.flatV = true
  | _, _, _, .nil => rfl
  | _, _, h, .cons a b => by
    simp only [List.all_cons, Bool.and_eq_true] at h ⊢
    exact ⟨flat_flatV h.1 a, flats_flatV h.2 b⟩
theorem deq_eqV {d e : D} {v u : V} (hd : flat d = true) (he : flat e = true) (rd : RD K n M H d v) (re : RD K n M H e u) : L2.eqV v u = deq d e := by
  cases rd <;> cases re <;> first
    | (simp [flat] at hd; done)
    | (simp [flat] at he; done)
    | rfl
    | (simp only [L2.eqV, deq, b2i]; first | exact (dec_beq _ _).symm | exact (dec_str _ _).symm | rfl)
theorem any_inV {d : D} {v : V} (hd : flat d = true) (rd : RD K n M H d v) : ∀ {ys : List D} {us : List V}, ys.all flat = true → RDs K n M H ys us → L2.inV v us = ys.any fun z => deq z d
  | _, _, _, .nil => rfl
  | _, _, h, .cons a b => by
    simp only [List.all_cons, Bool.and_eq_true] at h
    have ih := any_inV hd rd h.2 b
    unfold L2.inV at ih ⊢
    simp only [List.any_cons]
    rw [ih, deq_eqV h.1 hd a rd]
theorem pyds_any {ys : List D} {d : D} (hy : isDatas ys = true) (hd : isData d = true) : ((pyds ys).any fun z => PyData.eqv z (pyd d)) = ys.any fun z => deq z d := by
  induction ys with
  | nil => rfl
  | cons y r ih =>
    simp only [isDatas, Bool.and_eq_true] at hy
    simp only [pyds, List.any_cons]
    rw [ih hy.2, deq_eqv y d hy.1 hd]
theorem datas_of_shaped : ∀ {ys : List D}, ys.all shaped = true → isDatas ys = true ∧ deps ys ≤ 60
  | [], _ => ⟨rfl, by simp [deps]⟩
  | y :: r, h => by
    simp only [List.all_cons, Bool.and_eq_true] at h
    obtain ⟨h1, h2⟩ := datas_of_shaped h.2
    obtain ⟨h3, h4⟩ := Bool.and_eq_true_iff.mp h.1
    have h4 := of_decide_eq_true h4
    refine ⟨by simp [isDatas, h3, h1], by simp only [deps]; omega⟩
theorem list_shape {ys : List D} {vs : List V} {a : Addr} (wf : ∀ a l, M.who a = some l → Mx M.lk a (H a)) (h : ys.all shaped = true) (r : Rd H a (.lst vs)) (rs : RDs K n M H ys vs) : L2.Dp K H (.ref a) (.list (pyds ys)) ∧ PySem.SeqAt.shaped (.list (pyds ys)) = true := by
  obtain ⟨h1, h2⟩ := datas_of_shaped h
  obtain ⟨h3, h4⟩ := lays_of ys vs h1 rs
  refine ⟨.lst (.inl r) (dps_of wf ys vs h1 rs), Bool.and_eq_true_iff.mpr ⟨by simpa [PyData.canLay0] using h3, decide_eq_true ?_⟩⟩
  simp only [PyData.depth, h4]
  omega
end
def rInDict : L2.R2 := fun x y H Q => ∃ a o, y = .ref a ∧ L2.DGet H a x o ∧ Q (.bl o.isSome) H
def rNotInDict : L2.R2 := fun x y H Q => ∃ a o, y = .ref a ∧ L2.DGet H a x o ∧ Q (.bl (!o.isSome)) H
theorem op_inDict {X : Cx} (hu : X.A.units + 1 < PySem.cLine) : OpR X (compareOp .In) rInDict := by
  intro pins s σ H x y v u Q I rx ry ⟨a, o, ey, g, q⟩
  subst ey
  cases ry
  exact L2.d_in hu I g rx fun s3 I3 => ⟨.bl o.isSome, H, I3, rfl, q⟩
theorem op_notInDict {X : Cx} (hu : X.A.units + 1 < PySem.cLine) : OpR X (compareOp .NotIn) rNotInDict := by
  intro pins s σ H x y v u Q I rx ry ⟨a, o, ey, g, q⟩
  subst ey
  cases ry
  exact L2.d_notIn hu I g rx fun s3 I3 => ⟨.bl (!o.isSome), H, I3, rfl, q⟩
def rSign (f : Bool → Bool) : L2.R2 := fun x y H Q => ∃ (c : Nat) (z : Str), x = .str ⟨#[c]⟩ ∧ y = .str z ∧ Q (.bl (f (decide (c ∈ z.cps.toList)))) H
def rInAll (K : Fr) : L2.R2 := fun x y H Q => (∃ (c : Nat) (z : Str), x = .str ⟨#[c]⟩ ∧ y = .str z ∧ Q (.bl (decide (c ∈ z.cps.toList))) H) ∨ (L2.rIn K false x y H Q ∨ (L2.rInD K x y H Q ∨ rInDict x y H Q))
def rNotInAll (K : Fr) : L2.R2 := fun x y H Q => (∃ (c : Nat) (z : Str), x = .str ⟨#[c]⟩ ∧ y = .str z ∧ Q (.bl (!decide (c ∈ z.cps.toList))) H) ∨ (L2.rIn K true x y H Q ∨ (L2.rNotInD K x y H Q ∨ rNotInDict x y H Q))
theorem op_inAll {X : Cx} (hu : X.A.units + 65 < PySem.cLine) : OpR X (compareOp .In) (rInAll X.K) := L2.OpR.or L2.op_in_sign (L2.OpR.or L2.op_in_seq (L2.OpR.or (L2.op_inD hu) (op_inDict (by omega))))
theorem op_notInAll {X : Cx} (hu : X.A.units + 65 < PySem.cLine) : OpR X (compareOp .NotIn) (rNotInAll X.K) := L2.OpR.or L2.op_notIn_sign (L2.OpR.or L2.op_notIn_seq (L2.OpR.or (L2.op_notInD hu) (op_notInDict (by omega))))
/-- both words at once -/
theorem in_core {K : Fr} {M : MM} {H : Hp} {σ : L2.St} {s : S} {x y : RV} {vx vy : V} {b : Bool} (rt : RT K M H σ s) (rx : RR K s.h.length M H x vx) (ry : RR K s.h.length M H y vy) (hz : runIn s.h x y = some b) (Q : VK) :
    (Q (.bl b) H → rInAll K vx vy H Q) ∧ (Q (.bl (!b)) H → rNotInAll K vx vy H Q) := by
  unfold runIn at hz
  split at hz
  · unfold inS at hz
    split at hz
    · injection hz with hz; subst hz
      obtain ⟨rfl, _⟩ := str_at rx
      obtain ⟨rfl, _⟩ := str_at ry
      exact ⟨fun q => .inl ⟨_, _, rfl, rfl, by rw [mst_cps]; exact q⟩, fun q => .inl ⟨_, _, rfl, rfl, by rw [mst_cps]; exact q⟩⟩
    · cases hz
  · obtain ⟨d, h1, h2⟩ := obind hz
    obtain ⟨g, h3⟩ := oif h2
    injection h3 with h3; subst h3
    obtain ⟨g1, g2⟩ := Bool.and_eq_true_iff.mp g
    obtain ⟨a, vs, rfl, r1, r2⟩ := tup_at (x := .val .non) ry
    have hx : RD K s.h.length M H d vx := by
      cases rx with
      | val r =>
        rename_i d0
        cases d0 with
        | ref i =>
          simp only [datOf] at h1
          cases q : s.h[i]? with
          | none => rw [q] at h1; cases h1
          | some c => rw [q] at h1; cases c <;> simp at h1; subst h1; simp [flat] at g1
        | _ => simp only [datOf, Option.some.injEq] at h1; subst h1; exact r
      | own _ hc => cases hc <;> (simp [datOf] at h1; subst h1; simp [flat] at g1)
      | pk _ hc => cases hc <;> (simp [datOf] at h1; subst h1; simp [flat] at g1)
    have e := any_inV g1 hx g2 r2
    exact ⟨fun q => .inr (.inl ⟨a, vs, rfl, .inr r1, flat_flatV g1 hx, flats_flatV g2 r2, by rw [e]; exact q⟩), fun q => .inr (.inl ⟨a, vs, rfl, .inr r1, flat_flatV g1 hx, flats_flatV g2 r2, by rw [e]; exact q⟩)⟩
  · split at hz
    · rename_i ys h1
      obtain ⟨d, h2, h3⟩ := obind hz
      obtain ⟨g, h4⟩ := oif h3
      injection h4 with h4; subst h4
      obtain ⟨g1, g2⟩ := Bool.and_eq_true_iff.mp g
      obtain ⟨a, vs, rfl, r1, r2⟩ := lst_at rt ry h1
      obtain ⟨p1, p2⟩ := dp_at rt rx h2 g1
      obtain ⟨p3, p4⟩ := list_shape rt.hp.wf g2 r1 r2
      have e := pyds_any (datas_of_shaped g2).1 (isData_of g1)
      exact ⟨fun q => .inr (.inr (.inl ⟨_, _, p1, p3, p2, p4, by rw [e]; exact q⟩)), fun q => .inr (.inr (.inl ⟨_, _, p1, p3, p2, p4, by rw [e]; exact q⟩))⟩
    · obtain ⟨q, h1, h2⟩ := obind hz
      unfold inD at h2
      split at h2
      · obtain ⟨k, h3, h4⟩ := omap h2
        obtain ⟨a, gs, rfl, r1, _, r2⟩ := dct_at rt ry h1
        cases key_at rx h3
        have f := r2.find k
        have e : (L2.valV gs (mkey k)).isSome = b := by
          rw [← h4]
          cases q2 : kfind k q.2 with
          | none => rw [q2] at f; rw [f]; rfl
          | some sv => rw [q2] at f; obtain ⟨v, f1, _⟩ := f; rw [f1]; rfl
        exact ⟨fun q => .inr (.inr (.inr ⟨a, _, rfl, dget_rd r1, by rw [e]; exact q⟩)), fun q => .inr (.inr (.inr ⟨a, _, rfl, dget_rd r1, by rw [e]; exact q⟩))⟩
      · cases h2
theorem ok_in {K : Fr} : Ok2 K (.cmp .isIn) (rInAll K) := by
  intro M H σ s x y vx vy z Q rt rx ry hz hq
  obtain ⟨b, e1, rfl⟩ := omap (show (runIn s.h x y).map (fun b => RV.val (.bl b)) = some z from hz)
  exact (in_core rt rx ry e1 Q).1 (give rt (.bl _) hq)
theorem ok_notIn {K : Fr} : Ok2 K (.cmp .notIn) (rNotInAll K) := by
  intro M H σ s x y vx vy z Q rt rx ry hz hq
  obtain ⟨b, e1, rfl⟩ := omap (show ((runIn s.h x y).map (!·)).map (fun b => RV.val (.bl b)) = some z from hz)
  obtain ⟨b, e2, rfl⟩ := omap e1
  exact (in_core rt rx ry e2 Q).2 (give rt (.bl _) hq)

/-! ### one-place -/
def rLen (K : Fr) : List V → Hp → VK → Prop := fun xs H Q => (∃ x n, xs = [x] ∧ L2.LenV K x H n ∧ Q (.int n) H) ∨ ∃ a kvs, xs = [V.ref a] ∧ Rd H a (.dK kvs) ∧ Q (.int kvs.length) H
theorem ok_len {K : Fr} : Ok1 K .len (fun x H Q => rLen K [x] H Q) := by
  intro M H σ s x vx z Q rt rx hz hq
  have hz : oLen s.h x = some z := hz
  unfold oLen at hz
  split at hz
  · injection hz with hz; subst hz
    obtain ⟨rfl, ht⟩ := str_at rx
    exact .inl ⟨_, _, rfl, ⟨by rw [mst_len]; exact ht.1, (mst_len _).symm⟩, give rt (.int _) hq⟩
  · split at hz
    · rename_i xs h1
      injection hz with hz; subst hz
      obtain ⟨a, vs, rfl, r1, r2⟩ := seq_at rt rx h1
      refine .inl ⟨_, vs.length, rfl, ?_, by rw [← RD.len_eq r2]; exact give rt (.int _) hq⟩
      rcases r1 with r1 | r1
      · exact .inl ⟨vs, r1, rfl⟩
      · exact .inr ⟨vs, r1, rfl⟩
    · obtain ⟨q, h1, rfl⟩ := omap hz
      obtain ⟨a, gs, rfl, r1, _, r2⟩ := dct_at rt rx h1
      refine .inr ⟨a, gs, rfl, r1, ?_⟩
      have e : gs.length = q.2.length := by
        have := congrArg List.length r2.keys
        simpa using this
      rw [e]
      exact give rt (.int _) hq
theorem ok_abs {K : Fr} : Ok1 K .abs (fun x H Q => ∃ i, [x] = [V.int i] ∧ Q (.int (if i < 0 then -i else i)) H) := by
  intro M H σ s x vx z Q rt rx hz hq
  have hz : oAbs x = some z := hz
  unfold oAbs at hz
  split at hz
  · injection hz with hz; subst hz
    cases int_at rx
    exact ⟨_, rfl, give rt (.int _) hq⟩
  · cases hz
theorem ok_neg {K : Fr} : Ok1 K .neg (L2.rU fun i => .int (-i)) := by
  intro M H σ s x vx z Q rt rx hz hq
  have hz : oNeg x = some z := hz
  unfold oNeg at hz
  split at hz
  · injection hz with hz; subst hz
    cases int_at rx
    exact ⟨_, rfl, give rt (.int _) hq⟩
  · cases hz
theorem ok_ord {K : Fr} : Ok1 K .ord (fun x H Q => ∃ z : Str, [x] = [V.str z] ∧ z.length = 1 ∧ Q (.int (z.cps.getD 0 0 : Nat)) H) := by
  intro M H σ s x vx z Q rt rx hz hq
  have hz : oOrd x = some z := hz
  unfold oOrd at hz
  split at hz
  · injection hz with hz; subst hz
    obtain ⟨rfl, _⟩ := str_at rx
    exact ⟨_, rfl, rfl, give rt (.int _) hq⟩
  · cases hz
theorem ok_list {K : Fr} : Ok1 K .list (fun x H Q => ∃ p ys, [x] = [V.ref p] ∧ (SqL K H p ys ∨ SqT K H p ys) ∧ ∀ l, H l = none → Q (.ref l) (upd H l (.lst ys))) := by
  intro M H σ s x vx z Q rt rx hz hq
  obtain ⟨xs, h1, h2⟩ := obind (show (seqOf s.h x).bind newLst = some z from hz)
  obtain ⟨rfl, g⟩ := newLst_some h2
  obtain ⟨a, vs, rfl, r1, r2⟩ := seq_at rt rx h1
  exact ⟨a, vs, rfl, r1, give_lst rt r2 hq⟩
theorem ok_tuple {K : Fr} : Ok1 K .tuple (fun x H Q => ∃ p ys, [x] = [V.ref p] ∧ ((SqL K H p ys ∧ ∀ l, H l = none → Q (.ref l) (upd H l (.tup ys))) ∨ (SqT K H p ys ∧ Q (.ref p) H))) := by
  intro M H σ s x vx z Q rt rx hz hq
  obtain ⟨xs, h1, rfl⟩ := omap (show (seqOf s.h x).map (fun xs => RV.val (.tup xs)) = some z from hz)
  obtain ⟨a, vs, rfl, r1, r2⟩ := seq_at rt rx h1
  rcases r1 with r1 | r1
  · exact ⟨a, vs, rfl, .inl ⟨r1, give_tup rt r2 hq⟩⟩
  · exact ⟨a, vs, rfl, .inr ⟨r1, give rt (.tup r1 r2) hq⟩⟩
section
variable {K : Fr} {M : MM} {H : Hp} {n : Nat}
theorem bools_at : ∀ {xs : List D} {bs : List Bool} {vs : List V}, boolsOf xs = some bs → RDs K n M H xs vs → vs = bs.map V.bl
  | [], _, _, h, .nil => by cases h; rfl
  | .bl b :: r, bs, _, h, .cons a t => by
    obtain ⟨cs, h1, rfl⟩ := omap h
    cases a
    rw [bools_at h1 t]; rfl
  | .non :: _, _, _, h, _ => by cases h
  | .int _ :: _, _, _, h, _ => by cases h
  | .str _ :: _, _, _, h, _ => by cases h
  | .tup _ :: _, _, _, h, _ => by cases h
  | .lst _ :: _, _, _, h, _ => by cases h
  | .dct _ :: _, _, _, h, _ => by cases h
  | .ref _ :: _, _, _, h, _ => by cases h
  | .exc _ _ :: _, _, _, h, _ => by cases h
theorem ints_at : ∀ {xs : List D} {is : List Int} {vs : List V}, intsOf xs = some is → RDs K n M H xs vs → vs = is.map V.int
  | [], _, _, h, .nil => by cases h; rfl
  | .int b :: r, bs, _, h, .cons a t => by
    obtain ⟨cs, h1, rfl⟩ := omap h
    cases a
    rw [ints_at h1 t]; rfl
  | .bl _ :: _, _, _, h, _ => by cases h
  | .non :: _, _, _, h, _ => by cases h
  | .str _ :: _, _, _, h, _ => by cases h
  | .tup _ :: _, _, _, h, _ => by cases h
  | .lst _ :: _, _, _, h, _ => by cases h
  | .dct _ :: _, _, _, h, _ => by cases h
  | .ref _ :: _, _, _, h, _ => by cases h
  | .exc _ _ :: _, _, _, h, _ => by cases h
theorem strs_at : ∀ {xs : List D} {ts : List T} {vs : List V}, strsOf xs = some ts → RDs K n M H xs vs → vs = (ts.map mst).map V.str ∧ ∀ t ∈ ts, okT t
  | [], _, _, h, .nil => by cases h; exact ⟨rfl, fun t ht => by cases ht⟩
  | .str b :: r, bs, _, h, .cons a t => by
    obtain ⟨cs, h1, rfl⟩ := omap h
    cases a with
    | str _ ha =>
    obtain ⟨e1, e2⟩ := strs_at h1 t
    rw [e1]
    refine ⟨rfl, fun t ht => ?_⟩
    rcases List.mem_cons.mp ht with rfl | ht
    · exact ha
    · exact e2 t ht
  | .bl _ :: _, _, _, h, _ => by cases h
  | .non :: _, _, _, h, _ => by cases h
  | .int _ :: _, _, _, h, _ => by cases h
  | .tup _ :: _, _, _, h, _ => by cases h
  | .lst _ :: _, _, _, h, _ => by cases h
  | .dct _ :: _, _, _, h, _ => by cases h
  | .ref _ :: _, _, _, h, _ => by cases h
  | .exc _ _ :: _, _, _, h, _ => by cases h
end
theorem ok_sum {K : Fr} : Ok1 K .sum (fun x H Q => L2.rSum K [x] H Q) := by
  intro M H σ s x vx z Q rt rx hz hq
  obtain ⟨xs, h1, h2⟩ := obind (show (lstOf s.h x).bind (fun xs => (intsOf xs).map fun is => RV.val (.int is.sum)) = some z from hz)
  obtain ⟨is, h3, rfl⟩ := omap h2
  obtain ⟨a, vs, rfl, r1, r2⟩ := lst_at rt rx h1
  cases ints_at h3 r2
  exact ⟨a, is, rfl, .inl r1, give rt (.int _) hq⟩
theorem ok_all {K : Fr} : Ok1 K .all (fun x H Q => L2.rAll K [x] H Q) := by
  intro M H σ s x vx z Q rt rx hz hq
  obtain ⟨xs, h1, h2⟩ := obind (show (lstOf s.h x).bind (fun xs => (boolsOf xs).map fun bs => RV.val (.bl (bs.all id))) = some z from hz)
  obtain ⟨is, h3, rfl⟩ := omap h2
  obtain ⟨a, vs, rfl, r1, r2⟩ := lst_at rt rx h1
  cases bools_at h3 r2
  exact ⟨a, is, rfl, .inl r1, give rt (.bl _) hq⟩
theorem ok_any {K : Fr} : Ok1 K .any (fun x H Q => L2.rAny K [x] H Q) := by
  intro M H σ s x vx z Q rt rx hz hq
  obtain ⟨xs, h1, h2⟩ := obind (show (lstOf s.h x).bind (fun xs => (boolsOf xs).map fun bs => RV.val (.bl (bs.any id))) = some z from hz)
  obtain ⟨is, h3, rfl⟩ := omap h2
  obtain ⟨a, vs, rfl, r1, r2⟩ := lst_at rt rx h1
  cases bools_at h3 r2
  exact ⟨a, is, rfl, .inl r1, give rt (.bl _) hq⟩
theorem ok_start {K : Fr} : Ok2 K .startswith (fun x y H Q => ∃ a b, x = V.str a ∧ [y] = [V.str b] ∧ Q (.bl (PySem.Txt.startswith a b)) H) := by
  intro M H σ s x y vx vy z Q rt rx ry hz hq
  have hz : oStart x y = some z := hz
  unfold oStart at hz
  split at hz
  · rename_i t c _
    injection hz with hz; subst hz
    obtain ⟨rfl, _⟩ := str_at rx
    obtain ⟨rfl, _⟩ := str_at ry
    refine ⟨_, _, rfl, rfl, ?_⟩
    have e : PySem.Txt.startswith (mst t) (mst [c]) = (t.head? == some c) := by
      unfold PySem.Txt.startswith
      cases t with
      | nil => simp [mst, Str.length]
      | cons d r => simp [mst, Str.length, PySem.Builtin.Str.subAt]
    rw [e]
    exact give rt (.bl _) hq
  · cases hz
theorem ok_isNone {K : Fr} {M : MM} {H : Hp} {σ : L2.St} {s : S} {x : RV} {vx : V} {b : Bool} (rx : RR K s.h.length M H x vx) (hz : oIsNone x = some b) : decide (vx = .non) = b := by
  cases rx with
  | own _ _ => simp [oIsNone] at hz; subst hz; simp
  | pk _ _ => simp [oIsNone] at hz; subst hz; simp
  | val r => cases r <;> (simp [oIsNone] at hz; subst hz; simp)
end KW
/-! KwOps6: times, int, str, join, places, counts. -/
namespace KW
set_option exponentiation.threshold 2000
open PySem (Str Addr Value Program World Heap Operator CmpOp binaryOp compareOp PyData)
open PySem.Spec PyProof.Rows
open L2 (V Hp HO upd upd_same upd_ne upd_upd SqL SqT Rd RelV Mut TE TT TA TS WX PE PT PA PS PSs Cx Inv OpR UnR CallR MtR IxR SlR TruR VK EP rI0)

/-! ### times -/
def rStrT : L2.R2 := fun x y H Q => ∃ (i : Str) (j : Int), x = .str i ∧ y = .int j ∧ 0 ≤ j ∧ j ≤ 1000 ∧ i.length ≤ 1000 ∧ Q (.str (mst (rep j i.cps.toList))) H
theorem fold_app {α : Type} (x : Array α) : ∀ (n : Nat) (acc : Array α), ((List.replicate n x).foldl (· ++ ·) acc).toList = acc.toList ++ (List.replicate n x.toList).flatten
  | 0, acc => by simp
  | n + 1, acc => by
    rw [List.replicate_succ, List.foldl_cons, fold_app x n (acc ++ x), List.replicate_succ, List.flatten_cons]
    simp
theorem rep_len {α : Type} (n : Nat) (a : List α) : (List.replicate n a).flatten.length = n * a.length := PyProof.Rows.lm_len_rep_flat a n
theorem op_strT {X : Cx} : OpR X (binaryOp .Mult) rStrT := by
  intro pins s σ H x y v u Q I rx ry h
  obtain ⟨i, j, rfl, rfl, h0, h1, h2, q⟩ := h
  obtain ⟨t, rfl⟩ := rx
  obtain ⟨t2, rfl⟩ := ry
  refine PySem.P.mul_str ?_ (fun g _ z => ?_) (fun g _ => ?_) ?_
  · have a : ¬ j < -2 ^ 63 := by omega
    have b : ¬ j ≥ 2 ^ 63 := by omega
    rw [decide_eq_false a, decide_eq_false b]; rfl
  · have p : 1 ≤ j := by omega
    have : 9223372036854775 ≤ (2 ^ 63 - 1) / j := Int.le_ediv_of_mul_le (by omega) (by omega)
    omega
  · have : i.length * j.toNat ≤ 1000 * 1000 := Nat.mul_le_mul h2 (by omega)
    show decide (i.length * j.toNat > PySem.sizeLine) = false
    rw [sizeLine_is]
    exact decide_eq_false (by show ¬ _ > 16777216; omega)
  · by_cases g : j < 1
    · rw [if_pos g]
      obtain rfl : j = 0 := by omega
      refine ⟨by decide, ?_⟩
      exact ⟨.str _, H, I.tok _, ⟨_, rfl⟩, by
        have e : mst (rep 0 i.cps.toList) = Str.empty := by simp [rep, mst]; rfl
        rw [← e]; exact q⟩
    · rw [if_neg g]
      by_cases g2 : (j == 1 || i.length == 0) = true
      · rw [if_pos g2]
        refine ⟨.str _, H, I, ⟨t, rfl⟩, ?_⟩
        have e : mst (rep j i.cps.toList) = i := by
          rcases Bool.or_eq_true_iff.mp g2 with e | e
          · obtain rfl : j = 1 := by simpa using e
            simp [rep, mst]
          · have e : i.length = 0 := by simpa using e
            have e2 : i.cps.toList = [] := List.eq_nil_of_length_eq_zero (by rw [Array.length_toList]; exact e)
            rw [e2]
            have : (rep j ([] : T)) = [] := by simp [rep]
            rw [this]
            rw [← e2]; exact mst_eta i
        rw [← e]; exact q
      · rw [if_neg g2]
        refine ⟨?_, ?_⟩
        · have : ((List.replicate j.toNat i.cps).foldl (· ++ ·) #[]).size ≤ 1000000 := by
            rw [← Array.length_toList, fold_app]
            simp only [Array.toList_empty, List.nil_append]
            rw [rep_len, Array.length_toList]
            have := Nat.mul_le_mul (show j.toNat ≤ 1000 by omega) h2
            show j.toNat * i.length ≤ _
            omega
          have e := sizeLine_is
          show ((List.replicate j.toNat i.cps).foldl (· ++ ·) #[]).size ≤ PySem.sizeLine
          rw [e]
          exact Nat.le_trans this (by decide)
        · refine ⟨.str _, H, I.tok _, ⟨_, rfl⟩, ?_⟩
          have e : (⟨(List.replicate j.toNat i.cps).foldl (· ++ ·) #[]⟩ : Str) = mst (rep j i.cps.toList) := by
            have := fold_app i.cps j.toNat #[]
            simp only [Array.toList_empty, List.nil_append] at this
            show (⟨_⟩ : Str) = ⟨_⟩
            congr 1
            apply Array.toList_inj.mp
            rw [this]
            simp [rep]
          rw [e]; exact q
def rMul (K : Fr) : L2.R2 := fun x y H Q => L2.rI L2.CMul (fun i j => .int (i * j)) x y H Q ∨ (rStrT x y H Q ∨ (L2.rRepT K x y H Q ∨ L2.rRep x y H Q))
theorem op_mul {X : Cx} : OpR X (binaryOp .Mult) (rMul X.K) := L2.OpR.or L2.op_mul (L2.OpR.or op_strT (L2.OpR.or L2.op_repT L2.op_rep))
theorem rep_ok {j : Int} {a : T} (h : okT a) (h1 : a.length ≤ 1000) (h2 : j ≤ 1000) : okT (rep j a) := by
  refine ⟨?_, fun c hc => ?_⟩
  · unfold rep
    rw [rep_len]
    have := Nat.mul_le_mul (show j.toNat ≤ 1000 by omega) h1
    show _ ≤ 16777216
    omega
  · obtain ⟨l, h3, h4⟩ := List.mem_flatten.mp hc
    obtain ⟨_, rfl⟩ := List.mem_replicate.mp h3
    exact h.2 c h4
theorem rep_rel {K : Fr} {n : Nat} {M : MM} {H : Hp} {xs : List D} {vs : List V} (h : RDs K n M H xs vs) : ∀ k : Nat, RDs K n M H (List.replicate k xs).flatten (List.replicate k vs).flatten
  | 0 => .nil
  | k + 1 => by rw [List.replicate_succ, List.flatten_cons, List.replicate_succ, List.flatten_cons]; exact h.app (rep_rel h k)
theorem ok_mul {K : Fr} : Ok2 K .mul (rMul K) := by
  intro M H σ s x y vx vy z Q rt rx ry hz hq
  have hz : oMul s.h x y = some z := hz
  unfold oMul at hz
  split at hz
  · obtain ⟨g, hz⟩ := oif hz
    injection hz with hz; subst hz
    cases int_at rx; cases int_at ry
    exact .inl ⟨_, _, rfl, rfl, .inl g, give rt (.int _) hq⟩
  · obtain ⟨⟨g1, g2, g3⟩, hz⟩ := oif hz
    injection hz with hz; subst hz
    obtain ⟨rfl, ht⟩ := str_at rx
    cases int_at ry
    refine .inr (.inl ⟨_, _, rfl, rfl, g1, g3, by rw [mst_len]; exact g2, ?_⟩)
    rw [mst_cps]
    exact give rt (.str _ (rep_ok ht g2 g3)) hq
  · obtain ⟨⟨g1, g2, g3, g4⟩, hz⟩ := oif hz
    injection hz with hz; subst hz
    obtain ⟨a, vs, rfl, r1, r2⟩ := tup_at (x := .val .non) rx
    cases int_at ry
    have hl := RD.len_eq r2
    refine .inr (.inr (.inl ⟨a, _, vs, rfl, rfl, r1, ?_, g3, g4, by omega, ?_⟩))
    · intro e; rw [e] at hl; rename_i xs _
      rw [List.length_nil] at hl
      rw [List.eq_nil_of_length_eq_zero hl] at g1
      cases g1
    · exact give_tup rt (rep_rel r2 _) hq
  · obtain ⟨⟨g1, g2, g3⟩, hz⟩ := oif hz
    obtain ⟨rfl, g4⟩ := newLst_some hz
    cases int_at ry
    cases rx with
    | own hw hc =>
      cases hc with
      | lst h1 h2 =>
        have hl := RD.len_eq h2
        refine .inr (.inr (.inr ⟨_, _, _, rfl, rfl, h1, by omega, by omega, ?_, ?_⟩))
        · rw [sizeLine_is, ← hl]
          have := Nat.mul_le_mul g2 (show (_ : Int).toNat ≤ 1000 from Int.toNat_le.mpr g3)
          show _ ≤ 16777216
          omega
        · exact give_lst rt (rep_rel h2 _) hq
  · cases hz

/-! ### int, str -/
theorem dig_char : ∀ n : Nat, n < 10 → 48 + n = (Nat.digitChar n).toNat := by decide
theorem digs_is : ∀ (n f : Nat), n < f → digs f n = (Nat.toDigits 10 n).map Char.toNat := by
  intro n
  induction n using Nat.strongRecOn with
  | _ n ih =>
    intro f hf
    cases f with
    | zero => omega
    | succ f =>
      unfold digs
      by_cases h : n < 10
      · rw [if_pos h, Nat.toDigits_of_lt_base h, dig_char n h]; rfl
      · rw [if_neg h]
        have hm : n % 10 < 10 := Nat.mod_lt n (by decide)
        have t : Nat.toDigits 10 (n / 10) ++ Nat.toDigits 10 (n % 10) = Nat.toDigits 10 (10 * (n / 10) + n % 10) := Nat.toDigits_append_toDigits (by decide) (by omega) hm
        rw [Nat.div_add_mod] at t
        rw [← t, List.map_append, Nat.toDigits_of_lt_base hm, ih (n / 10) (by omega) f (by omega), dig_char _ hm]; rfl
theorem digs_len : ∀ (k f n : Nat), n < 10 ^ (k + 1) → (digs f n).length ≤ k + 1
  | _, 0, _, _ => Nat.zero_le _
  | k, f + 1, n, h => by
    unfold digs
    split
    · simp
    · rename_i g
      cases k with
      | zero => omega
      | succ k =>
        rw [List.length_append]
        have := digs_len k f (n / 10) (by rw [Nat.pow_succ] at h; omega)
        simp; omega
theorem digs_range : ∀ (f n : Nat), ∀ c ∈ digs f n, 48 ≤ c ∧ c ≤ 57
  | 0, _, c, h => by cases h
  | f + 1, n, c, h => by
    unfold digs at h
    split at h
    · simp at h; omega
    · rcases List.mem_append.mp h with h | h
      · exact digs_range f _ c h
      · simp at h; omega
theorem sst_list (x : String) : (Str.ofString x).cps.toList = x.toList.map Char.toNat := by rw [Str.ofString_eq_toList]
theorem itoa_is (i : Int) : ((toString i : String) : Str) = mst (itoa i) := by
  show Str.ofString (toString i) = _
  rw [← mst_eta (Str.ofString (toString i)), sst_list]
  congr 1
  unfold itoa
  cases i with
  | ofNat m =>
    rw [if_neg (by simp)]
    show (Nat.repr m).toList.map Char.toNat = _
    rw [Nat.toList_repr]
    exact (digs_is m (m + 1) (by omega)).symm
  | negSucc m =>
    rw [if_pos (Int.negSucc_lt_zero m)]
    show ("-" ++ Nat.repr (m + 1)).toList.map Char.toNat = _
    rw [String.toList_append, List.map_append, Nat.toList_repr]
    show 45 :: _ = _
    exact congrArg (45 :: ·) (digs_is (m + 1) (m + 2) (by omega)).symm
theorem itoa_ok {i : Int} (h : i.natAbs.log2 < 1920) : okT (itoa i) := by
  have hb : i.natAbs < 10 ^ (639 + 1) := by
    have h1 : i.natAbs < 2 ^ 1920 := by
      by_cases z : i.natAbs = 0
      · rw [z]; exact Nat.two_pow_pos _
      · exact Nat.lt_of_lt_of_le (Nat.lt_log2_self (n := i.natAbs)) (Nat.pow_le_pow_right (by decide) h)
    have h2 : (2 : Nat) ^ 1920 ≤ 10 ^ (639 + 1) := by decide +kernel
    exact Nat.lt_of_lt_of_le h1 h2
  have hl := digs_len 639 (i.natAbs + 1) i.natAbs hb
  unfold itoa okT
  split
  · refine ⟨by rw [List.length_cons]; show _ ≤ 16777216; omega, fun c hc => ?_⟩
    rcases List.mem_cons.mp hc with rfl | hc
    · decide
    · have := digs_range _ _ c hc; omega
  · exact ⟨by show _ ≤ 16777216; omega, fun c hc => by have := digs_range _ _ c hc; omega⟩
theorem ok_str {K : Fr} : Ok1 K .str (fun x H Q => ∃ i, [x] = [V.int i] ∧ i.natAbs.log2 < 1920 ∧ Q (.str (toString i)) H) := by
  intro M H σ s x vx z Q rt rx hz hq
  have hz : oStr x = some z := hz
  unfold oStr at hz
  split at hz
  · obtain ⟨g, hz⟩ := oif hz
    injection hz with hz; subst hz
    cases int_at rx
    refine ⟨_, rfl, g, ?_⟩
    rw [itoa_is]
    exact give rt (.str _ (itoa_ok g)) hq
  · cases hz
theorem atoN_is : ∀ (cs : List Nat) (a : Nat), atoN a cs = cs.foldl (fun acc c => acc * 10 + (c - 48)) a
  | [], _ => rfl
  | c :: r, a => by
    have e : 10 * a = a * 10 := Nat.mul_comm _ _
    show atoN (10 * a + (c - 48)) r = _
    rw [atoN_is r, e, List.foldl_cons]
theorem allDig {cs : T} (h : cs.all isDig = true) : PySem.NumText.AllDigits cs := fun c hc => by
  have := List.all_eq_true.mp h c hc
  unfold isDig at this
  simpa using this
theorem atoi_is {t : T} {i : Int} (h : atoi t = some i) : PySem.intText? (mst t) = some i ∧ t.length ≤ 640 := by
  unfold atoi at h
  split at h
  · rename_i r
    split at h
    · cases h
    · rename_i g
      injection h with h; subst h
      simp only [Bool.or_eq_true, not_or, Bool.not_eq_true, Bool.not_eq_false', decide_eq_false_iff_not] at g
      obtain ⟨⟨g1, g2⟩, g3⟩ := g
      have g4 : (45 :: r).length ≤ 640 := by omega
      refine ⟨?_, g4⟩
      have := PySem.intText_neg (x := mst (45 :: r)) (cs := r) (mst_cps _) (allDig (by simpa using g2)) (by intro e; subst e; simp at g1) (by rw [mst_len]; omega)
      rw [this]
      unfold PySem.NumText.digitsVal
      rw [atoN_is]
  · split at h
    · cases h
    · rename_i g
      injection h with h; subst h
      simp only [Bool.or_eq_true, not_or, Bool.not_eq_true, Bool.not_eq_false', decide_eq_false_iff_not] at g
      obtain ⟨⟨g1, g2⟩, g3⟩ := g
      have g4 : t.length ≤ 640 := by omega
      refine ⟨?_, g4⟩
      have := PySem.intText_digits (x := mst t) (by rw [mst_cps]; exact allDig (by simpa using g2)) (by rw [mst_cps]; intro e; subst e; simp at g1) (by rw [mst_len]; omega)
      rw [this, mst_cps]
      unfold PySem.NumText.digitsVal
      rw [atoN_is]
def rInt : V → Hp → VK → Prop := fun x H Q => ((∃ i, [x] = [V.int i] ∧ Q (.int i) H) ∨ ∃ k, [x] = [V.bl k] ∧ Q (.int (if k then 1 else 0)) H) ∨ ∃ a n, [x] = [V.str a] ∧ PySem.intText? a = some n ∧ a.length ≤ 640 ∧ Q (.int n) H
theorem ok_int {K : Fr} : Ok1 K .int rInt := by
  intro M H σ s x vx z Q rt rx hz hq
  have hz : oInt x = some z := hz
  unfold oInt at hz
  split at hz
  · injection hz with hz; subst hz
    cases bl_at rx
    exact .inl (.inr ⟨_, rfl, give rt (.int _) hq⟩)
  · injection hz with hz; subst hz
    cases int_at rx
    exact .inl (.inl ⟨_, rfl, give rt (.int _) hq⟩)
  · obtain ⟨i, h1, rfl⟩ := omap hz
    obtain ⟨rfl, ht⟩ := str_at rx
    obtain ⟨h2, h3⟩ := atoi_is h1
    exact .inr ⟨_, _, rfl, h2, by rw [mst_len]; exact h3, give rt (.int _) hq⟩
  · cases hz

/-! ### join -/
theorem joinT_is (a : T) : ∀ ts : List T, joinT a ts = TL.joinL a ts
  | [] => rfl
  | [_] => rfl
  | x :: y :: r => by
    unfold joinT TL.joinL
    rw [joinT_is a (y :: r)]
theorem join_is (a : T) (ts : List T) : PySem.Txt.join (mst a) (ts.map mst) = mst (joinT a ts) := by
  rw [joinT_is]
  exact SX.join_S a ts
theorem joinT_ok {a : T} (ha : okT a) : ∀ {ts : List T}, (∀ t ∈ ts, okT t) → ∀ c ∈ joinT a ts, c < 1114112
  | [], _, c, h => by cases h
  | [x], hx, c, h => (hx x List.mem_cons_self).2 c h
  | x :: y :: r, hx, c, h => by
    unfold joinT at h
    rcases List.mem_append.mp h with h | h
    · exact (hx x List.mem_cons_self).2 c h
    · rcases List.mem_append.mp h with h | h
      · exact ha.2 c h
      · exact joinT_ok ha (fun t ht => hx t (List.mem_cons_of_mem _ ht)) c h
def rJoin (K : Fr) : L2.R2 := fun x y H Q => ∃ a p, ∃ ys : List Str, x = .str a ∧ [y] = [V.ref p] ∧ (SqL K H p (ys.map V.str) ∨ SqT K H p (ys.map V.str)) ∧
    (ys.map (·.length)).sum + ys.length * a.length ≤ 16777216 ∧ Q (.str (PySem.Txt.join a ys)) H
theorem ok_join {K : Fr} : Ok2 K .join (rJoin K) := by
  intro M H σ s x y vx vy z Q rt rx ry hz hq
  have hz : oJoin s.h x y = some z := hz
  unfold oJoin at hz
  split at hz
  · obtain ⟨xs, h1, hz⟩ := obind hz
    obtain ⟨ts, h2, hz⟩ := obind hz
    obtain ⟨g, hz⟩ := oif hz
    injection hz with hz; subst hz
    obtain ⟨rfl, ht⟩ := str_at rx
    obtain ⟨p, vs, rfl, r1, r2⟩ := seq_at rt ry h1
    obtain ⟨rfl, hts⟩ := strs_at h2 r2
    obtain ⟨g, g5⟩ := Bool.and_eq_true_iff.mp g
    have g := of_decide_eq_true g
    refine ⟨_, p, _, rfl, rfl, r1, ?_, ?_⟩
    · rename_i a
      rw [List.map_map, List.length_map, mst_len]
      have e : ((fun x : Str => x.length) ∘ mst) = List.length := by funext u; exact mst_len u
      rw [e]
      exact g
    · rw [join_is]
      exact give rt (.str _ ⟨of_decide_eq_true g5, joinT_ok ht hts⟩) hq
  · cases hz
end KW
/-! KwMatch: when a term of the small language says what a Python text says. -/
namespace KW
open PySem (Str Addr Value Program World Heap Operator CmpOp Const Scope NameKind Pos)
abbrev Py := PySem.Expr
abbrev PyS := PySem.Stmt

def okTB (t : T) : Bool := decide (t.length ≤ sizeLine) && t.all fun c => decide (c < 1114112)
def visB (sc : Scope) (x : Str) : Bool := match sc.names.lookup x with
  | some .local => true
  | some .cell => true
  | some .free => true
  | _ => false
def glB (sc : Scope) (x : Str) : Bool := decide (sc.names.lookup x = some .globalImplicit)
def nameB (x : Str) : Bool := !(x == ("__debug__" : Str)) && !(x == ("__classdict__" : Str)) && !(x == ("__name__" : Str))
def noStarB : Py → Bool
  | .Starred _ _ => false
  | _ => true
def noSliceB : Py → Bool
  | .Slice _ _ _ _ => false
  | _ => true
def noSetB : Py → Bool
  | .Set _ _ _ => false
  | _ => true
/-- the base of an attribute: no call without arguments -/
def baseB : Py → Bool
  | .Call _ [] _ _ => false
  | _ => true
def constB (d : D) (c : Const) : Bool := match d, c with
  | .non, .none => true
  | .bl a, .bool b => a == b
  | .int i, .int j => decide (i = j)
  | .str t, .str x => decide (x = mst t) && okTB t
  | _, _ => false
def cmpB : CmpO → CmpOp → Bool
  | .eq, .Eq => true
  | .ne, .NotEq => true
  | .lt, .Lt => true
  | .le, .LtE => true
  | .gt, .Gt => true
  | .ge, .GtE => true
  | .isIn, .In => true
  | .notIn, .NotIn => true
  | _, _ => false
def op2B : Op2 → Operator → Bool
  | .add, .Add => true
  | .sub, .Sub => true
  | .mul, .Mult => true
  | .fdiv, .FloorDiv => true
  | .mod, .Mod => true
  | _, _ => false
/-- builtin functions of one argument -/
def fn1 : Op1 → Option String
  | .len => some "len" | .abs => some "abs" | .int => some "int" | .str => some "str" | .ord => some "ord" | .list => some "list" | .tuple => some "tuple"
  | .sorted => some "sorted" | .sum => some "sum" | .all => some "all" | .any => some "any" | .minL => some "min"
  | _ => none
/-- the tables that a match leans on: constants of the top -/
structure Tabs where
  gl : List (String × D)
  tb : List (String × List (T × D))
  ls : List (String × List T)
  fs : List String
  cs : List String
  ms : List (String × String)
  fl : List (String × String)
  xs : List String
mutual
def beqD : D → D → Bool
  | .non, .non => true
  | .bl a, .bl b => a == b
  | .int i, .int j => decide (i = j)
  | .str a, .str b => decide (a = b)
  | .tup xs, .tup ys => beqDs xs ys
  | .lst xs, .lst ys => beqDs xs ys
  | _, _ => false
def beqDs : List D → List D → Bool
  | [], [] => true
  | x :: xs, y :: ys => beqD x y && beqDs xs ys
  | _, _ => false
end
mutual
theorem beqD_eq : ∀ a b : D, beqD a b = true → a = b
  | .non, b, h => by cases b <;> simp [beqD] at h <;> rfl
  | .bl a, b, h => by cases b <;> simp [beqD] at h; rw [h]
  | .int a, b, h => by cases b <;> simp [beqD] at h; rw [h]
  | .str a, b, h => by cases b <;> simp [beqD] at h; rw [h]
  | .tup a, b, h => by cases b <;> simp [beqD] at h; rw [beqDs_eq _ _ h]
  | .lst a, b, h => by cases b <;> simp [beqD] at h; rw [beqDs_eq _ _ h]
  | .dct a, b, h => by cases b <;> simp [beqD] at h
  | .ref a, b, h => by cases b <;> simp [beqD] at h
  | .exc _ _, b, h => by cases b <;> simp [beqD] at h
theorem beqDs_eq : ∀ a b : List D, beqDs a b = true → a = b
  | [], b, h => by cases b <;> simp [beqDs] at h; rfl
  | x :: xs, b, h => by
    cases b with
    | nil => simp [beqDs] at h
    | cons y ys =>
      simp [beqDs] at h
      rw [beqD_eq _ _ h.1, beqDs_eq _ _ h.2]
end
def beqTs : List (T × D) → List (T × D) → Bool
  | [], [] => true
  | x :: xs, y :: ys => decide (x.1 = y.1) && beqD x.2 y.2 && beqTs xs ys
  | _, _ => false
theorem beqTs_eq : ∀ a b : List (T × D), beqTs a b = true → a = b
  | [], b, h => by cases b <;> simp [beqTs] at h; rfl
  | x :: xs, b, h => by
    cases b with
    | nil => simp [beqTs] at h
    | cons y ys =>
      simp [beqTs] at h
      obtain ⟨⟨h1, h2⟩, h3⟩ := h
      rw [beqTs_eq _ _ h3]
      obtain ⟨x1, x2⟩ := x
      obtain ⟨y1, y2⟩ := y
      simp at h1 h2
      rw [h1, beqD_eq _ _ h2]

/-- a name is stored here: a local or a cell -/
def locB (sc : Scope) (x : Str) : Bool := match sc.names.lookup x with
  | some .local => true
  | some .cell => true
  | _ => false
/-- the names of a comprehension, their places -/
def ownOf (N : List Str) (is : List Nat) : Option (List (Str × Nat)) := is.mapM fun i => (N[i]?).map fun x => (x, i)

/-! ### views of a Python text -/
def vName : Py → Option Str
  | .Name x _ => some x
  | _ => none
theorem vName_eq {p : Py} {x : Str} (h : vName p = some x) : ∃ q, p = .Name x q := by
  unfold vName at h
  split at h
  · injection h with h; subst h; exact ⟨_, rfl⟩
  · cases h
def vCst : Py → Option Const
  | .Constant c _ _ => some c
  | _ => none
theorem vCst_eq {p : Py} {c : Const} (h : vCst p = some c) : ∃ j q, p = .Constant c j q := by
  unfold vCst at h
  split at h
  · injection h with h; subst h; exact ⟨_, _, rfl⟩
  · cases h
/-- f(..), f a name of the top -/
def vFn (sc : Scope) : Py → Option (Str × List Py)
  | .Call (.Name x _) xs [] _ => if glB sc x && nameB x && xs.all noStarB then some (x, xs) else none
  | _ => none
theorem vFn_eq {sc : Scope} {p : Py} {x : Str} {xs : List Py} (h : vFn sc p = some (x, xs)) : ∃ q r, p = .Call (.Name x q) xs [] r ∧ glB sc x = true ∧ nameB x = true ∧ xs.all noStarB = true := by
  unfold vFn at h
  split at h
  · split at h
    · rename_i g
      injection h with h
      injection h with h1 h2
      subst h1 h2
      simp only [Bool.and_eq_true] at g
      exact ⟨_, _, rfl, g.1.1, g.1.2, g.2⟩
    · cases h
  · cases h
/-- o.m(..) -/
def vAt (p : Py) : Option (Py × Str × List Py) := match p with
  | .Call (.Attribute b m p1) xs [] p2 => if baseB b && decide (p1.endLine = p2.line) && decide (xs.length < 20) && xs.all noStarB then some (b, m, xs) else none
  | _ => none
theorem vAt_eq {p : Py} {b : Py} {m : Str} {xs : List Py} (h : vAt p = some (b, m, xs)) : ∃ p1 p2, p = .Call (.Attribute b m p1) xs [] p2 ∧ baseB b = true ∧ p1.endLine = p2.line ∧ xs.length < 20 ∧ xs.all noStarB = true := by
  unfold vAt at h
  split at h
  · split at h
    · rename_i g
      injection h with h
      injection h with h1 h2
      injection h2 with h2 h3
      subst h1 h2 h3
      simp only [Bool.and_eq_true, decide_eq_true_eq] at g
      exact ⟨_, _, rfl, g.1.1.1, g.1.1.2, g.1.2, g.2⟩
    · cases h
  · cases h
/-- a global name -/
def vGl (sc : Scope) (p : Py) : Option Str := match p with
  | .Name x _ => if glB sc x && nameB x then some x else none
  | _ => none
theorem vGl_eq {sc : Scope} {p : Py} {x : Str} (h : vGl sc p = some x) : ∃ q, p = .Name x q ∧ glB sc x = true ∧ nameB x = true := by
  unfold vGl at h
  split at h
  · split at h
    · rename_i g
      injection h with h
      subst h
      simp only [Bool.and_eq_true] at g
      exact ⟨_, rfl, g.1, g.2⟩
    · cases h
  · cases h
def vCmp : Py → Option (Py × CmpOp × Py)
  | .Compare a [o] [b] _ => if noSetB b then some (a, o, b) else none
  | _ => none
theorem vCmp_eq {p a b : Py} {o : CmpOp} (h : vCmp p = some (a, o, b)) : ∃ q, p = .Compare a [o] [b] q ∧ noSetB b = true := by
  unfold vCmp at h
  split at h
  · split at h
    · rename_i g
      injection h with h
      injection h with h1 h2
      injection h2 with h2 h3
      subst h1 h2 h3
      exact ⟨_, rfl, g⟩
    · cases h
  · cases h
def vSub : Py → Option (Py × Py)
  | .Subscript a b _ => if noSliceB b then some (a, b) else none
  | _ => none
theorem vSub_eq {p a b : Py} (h : vSub p = some (a, b)) : ∃ q, p = .Subscript a b q ∧ noSliceB b = true := by
  unfold vSub at h
  split at h
  · split at h
    · rename_i g
      injection h with h
      injection h with h1 h2
      subst h1 h2
      exact ⟨_, rfl, g⟩
    · cases h
  · cases h
def isM1 : Py → Bool
  | .UnaryOp .USub (.Constant (.int 1) _ _) _ => true
  | _ => false
/-- one operand -/
def v1 (sc : Scope) (o : Op1) (p : Py) : Option Py := match o with
  | .neg => match p with
    | .UnaryOp .USub b _ => some b
    | _ => none
  | .isNone => match vCmp p with
    | some (b, .Is, .Constant .none _ _) => some b
    | _ => none
  | .notNone => match vCmp p with
    | some (b, .IsNot, .Constant .none _ _) => some b
    | _ => none
  | .isFalse | .notFalse | .isTup | .minL | .lenSet => none
  | .sortedSet => match vFn sc p with
    | some (x, [b]) => if decide (x = sst "sorted") then (match vFn sc b with
      | some (y, [c]) => if decide (y = sst "set") then some c else none
      | _ => none) else none
    | _ => none
  | .rev => match p with
    | .Subscript b (.Slice none none (some m) _) _ => if isM1 m then some b else none
    | _ => none
  | .copy => match vAt p with
    | some (b, m, []) => if decide (m = sst "copy") then some b else none
    | _ => none
  | .sortedKeys => match vFn sc p with
    | some (x, [b]) => if decide (x = sst "sorted") then (match vAt b with
      | some (c, m, []) => if decide (m = sst "keys") then some c else none
      | _ => none) else none
    | _ => none
  | .listKeys => match vFn sc p with
    | some (x, [b]) => if decide (x = sst "list") then (match vAt b with
      | some (c, m, []) => if decide (m = sst "keys") then some c else none
      | _ => none) else none
    | _ => none
  | o => match fn1 o with
    | some f => (match vFn sc p with
      | some (x, [b]) => if decide (x = sst f) then some b else none
      | _ => none)
    | none => none
def vBin (o : Op2) : Py → Option (Py × Py)
  | .BinOp c q d _ => if op2B o q then some (c, d) else none
  | _ => none
/-- two operands -/
def v2 (sc : Scope) (o : Op2) (p : Py) : Option (Py × Py) := match o with
  | .cmp o => match vCmp p with
    | some (a, q, b) => if cmpB o q then some (a, b) else none
    | none => none
  | .idx => vSub p
  | .slFrom => match p with
    | .Subscript c (.Slice (some d) none none _) _ => some (c, d)
    | _ => none
  | .slTo => match p with
    | .Subscript c (.Slice none (some d) none _) _ => some (c, d)
    | _ => none
  | .startswith => vm2 "startswith"
  | .join => vm2 "join"
  | .index => vm2 "index"
  | .count => vm2 "count"
  | .min2 => vf2 "min"
  | .max2 => vf2 "max"
  | o => vBin o p
where
  vm2 (n : String) : Option (Py × Py) := match vAt p with
    | some (b, m, [d]) => if decide (m = sst n) then some (b, d) else none
    | _ => none
  vf2 (n : String) : Option (Py × Py) := match vFn sc p with
    | some (x, [c, d]) => if decide (x = sst n) then some (c, d) else none
    | _ => none
/-- three operands -/
def v3 (o : Op3) (p : Py) : Option (Py × Py × Py) := match o with
  | .slBoth => match p with
    | .Subscript d (.Slice (some e) (some f) none _) _ => some (d, e, f)
    | _ => none
  | .dget => match vAt p with
    | some (b, m, [e, f]) => if decide (m = sst "get") then some (b, e, f) else none
    | _ => none
def vSeqs : Py → Option (Bool × List Py)
  | .Tuple xs _ _ => if decide (xs.length < 1000) && xs.all noStarB then some (true, xs) else none
  | .List xs _ => if decide (xs.length < 1000) && xs.all noStarB then some (false, xs) else none
  | _ => none
def vAttr : Py → Option (Py × Str)
  | .Attribute b g _ => if baseB b then some (b, g) else none
  | _ => none
def vBool (o : PySem.BoolOp) : Py → Option (Py × Py)
  | .BoolOp p (x :: y :: r) q => if decide (p = o) then some (x, .BoolOp p (y :: r) q) else none
  | _ => none
/-- and, or of one thing -/
def unB (o : PySem.BoolOp) : Py → Py
  | .BoolOp p [x] q => if p = o then x else .BoolOp p [x] q
  | e => e
def vNot : Py → Option Py
  | .UnaryOp .Not b _ => some b
  | _ => none
def vIf : Py → Option (Py × Py × Py)
  | .IfExp x y z _ => some (x, y, z)
  | _ => none
def vChain (o p : CmpO) : Py → Option (Py × Py × Py)
  | .Compare x [q, r] [y, z] _ => if cmpB o q && cmpB p r && noSetB z then some (x, y, z) else none
  | _ => none
def muB (o : Mu) (n : Nat) (m : Str) : Bool := match o, n with
  | .append, 1 => decide (m = sst "append")
  | .extend, 1 => decide (m = sst "extend")
  | .pop, 0 => decide (m = sst "pop")
  | .popI, 1 => decide (m = sst "pop")
  | .popK, 1 => decide (m = sst "pop")
  | .popD, 2 => decide (m = sst "pop")
  | .remove, 1 => decide (m = sst "remove")
  | .clear, 0 => decide (m = sst "clear")
  | _, _ => false
def vDct : Py → Option (List (Option Py) × List Py)
  | .Dict ks vs _ => if decide (ks.length < 16) then some (ks, vs) else none
  | _ => none
def vKs : List D → List (Option Py) → Bool
  | [], [] => true
  | d :: ds, some k :: ks => (match vCst k with
    | some c => constB d c
    | none => false) && vKs ds ks
  | _, _ => false
/-- x in NAME -/
def vIn (sc : Scope) (x : String) (p : Py) : Option Py := match vCmp p with
  | some (b, .In, c) => if decide (vGl sc c = some (sst x)) then some b else none
  | _ => none
def vGIdx (sc : Scope) (x : String) (p : Py) : Option Py := match vSub p with
  | some (c, b) => if decide (vGl sc c = some (sst x)) then some b else none
  | _ => none
def vGGet (sc : Scope) (x : String) (p : Py) : Option (Py × Py) := match vAt p with
  | some (c, m, [d, f]) => if decide (m = sst "get") && decide (vGl sc c = some (sst x)) then some (d, f) else none
  | _ => none
def vIsI (sc : Scope) (c : String) (p : Py) : Option Py := match vFn sc p with
  | some (x, [b, d]) => if decide (x = sst "isinstance") && decide (vGl sc d = some (sst c)) then some b else none
  | _ => none
/-- a written target -/
def tgtB (sc : Scope) (N : List Str) (is : List Nat) (t : Py) : Bool := match is, t with
  | [i], .Name x _ => decide (N[i]? = some x) && decide (sc.names.lookup x = some .local)
  | [i, j], .Tuple [.Name x _, .Name y _] _ _ => decide (N[i]? = some x) && decide (sc.names.lookup x = some .local) && (decide (N[j]? = some y) && decide (sc.names.lookup y = some .local)) && decide (i ≠ j)
  | _, _ => false
def blkB (sc : Scope) (N : List Str) (scope : Scope) (is : List Nat) (t : Py) : Bool := match ownOf N is with
  | some own => L2.blkC N sc scope own && tgtB (L2.relS scope sc) N is t
  | none => false
/-- a comprehension: its item, its walk, its tests, its scope -/
def vComp (sc : Scope) (N : List Str) (is : List Nat) (p : Py) : Option (Py × Py × List Py × Scope) := match p with
  | .ListComp b [⟨t, i, fs, a⟩] scope _ => if decide (a = 0) && noSetB i && blkB sc N scope is t then some (b, i, fs, L2.relS scope sc) else none
  | _ => none
def vRng (sc : Scope) (p : Py) : Option (List Py) := match vFn sc p with
  | some (x, xs) => if decide (x = sst "range") then some xs else none
  | none => none
def vEnum (sc : Scope) (p : Py) : Option Py := match vFn sc p with
  | some (x, [b]) => if decide (x = sst "enumerate") then some b else none
  | _ => none
def vKeys (n : String) (p : Py) : Option Py := match vAt p with
  | some (b, m, []) => if decide (m = sst n) then some b else none
  | _ => none

/-- a term that names a thing -/
def isPath : E → Bool
  | .var _ => true
  | .fld _ (.var _) _ => true
  | _ => false
/-- what is walked without a lock -/
def nk (it : It) : Bool := !isK it
def plainTB : Py → Bool
  | .List _ _ | .Dict _ _ _ | .Name _ _ | .Call _ _ _ _ | .ListComp _ _ _ _ | .Subscript _ _ _ | .Attribute _ _ _ | .BinOp _ _ _ _ | .Tuple _ _ _ | .Constant _ _ _ => true
  | _ => false
mutual
/-- e says what the text says: sc the scope, N the names by slot -/
def mE (G : Tabs) (sc : Scope) (N : List Str) : E → Py → Bool
  | .var i, p => match vName p with
    | some x => decide (N[i]? = some x) && visB sc x && nameB x
    | none => false
  | .cst d, p => match vCst p with
    | some c => constB d c
    | none => false
  | .glb x d, p => decide (vGl sc p = some (sst x)) && G.gl.any fun q => q.1 == x && beqD q.2 d
  | .p1 o a, p => match v1 sc o p with
    | some b => mE G sc N a b
    | none => false
  | .p2 o a b, p => match v2 sc o p with
    | some (c, d) => mE G sc N a c && mE G sc N b d
    | none => false
  | .p3 o a b c, p => match v3 o p with
    | some (d, e, f) => mE G sc N a d && mE G sc N b e && mE G sc N c f
    | none => false
  | .tup es, p => match vSeqs p with
    | some (true, xs) => mEs G sc N es xs
    | _ => false
  | .lst es, p => match vSeqs p with
    | some (false, xs) => mEs G sc N es xs
    | _ => false
  | .dct ks es, p => match vDct p with
    | some (kys, xs) => vKs ks kys && (ks.all fun d => (keyOf d).isSome) && decide (kys.length = xs.length) && mEs G sc N es xs
    | none => false
  | .fld cs e f, p => match vAttr p with
    | some (b, g) => decide (g = sst f) && (cs.all fun c => G.fl.contains (c, f)) && mE G sc N e b
    | none => false
  | .and a b, p => match vBool .And p with
    | some (x, y) => mE G sc N a x && mE G sc N b (unB .And y)
    | none => false
  | .or a b, p => match vBool .Or p with
    | some (x, y) => mE G sc N a x && mE G sc N b (unB .Or y)
    | none => false
  | .not a, p => match vNot p with
    | some b => mE G sc N a b
    | none => false
  | .ife c a b, p => match vIf p with
    | some (x, y, z) => mE G sc N c x && mE G sc N a y && mE G sc N b z
    | none => false
  | .chain o p a b c, q => match vChain o p q with
    | some (x, y, z) => mE G sc N a x && mE G sc N b y && mE G sc N c z
    | none => false
  | .call f es, p => match vFn sc p with
    | some (x, xs) => decide (x = sst f) && G.fs.contains f && mEs G sc N es xs
    | none => false
  | .new c es, p => match vFn sc p with
    | some (x, xs) => decide (x = sst c) && G.cs.contains c && mEs G sc N es xs
    | none => false
  | .meth c m e es, p => match vAt p with
    | some (b, g, xs) => decide (g = sst m) && G.ms.contains (c, m) && mE G sc N e b && mEs G sc N es xs
    | none => false
  | .mut o e es, p => match vAt p with
    | some (b, g, xs) => muB o es.length g && mE G sc N e b && mEs G sc N es xs
    | none => false
  | .box e, p => plainTB p && mE G sc N e p
  | .frz e, p => plainTB p && mE G sc N e p
  | .gIn x kvs e, p => match vIn sc x p with
    | some b => (G.tb.any fun q => q.1 == x && beqTs q.2 kvs) && mE G sc N e b
    | none => false
  | .gIdx x kvs e, p => match vGIdx sc x p with
    | some b => (G.tb.any fun q => q.1 == x && beqTs q.2 kvs) && mE G sc N e b
    | none => false
  | .gGet _ _ _ _, _ => false
  | .inL x ts e, p => match vIn sc x p with
    | some b => (G.ls.any fun q => q.1 == x && decide (q.2 = ts)) && mE G sc N e b
    | none => false
  | .isinst _ _, _ => false
  | .comp is it cs e, p => match vComp sc N is p with
    | some (b, i, fs, s2) => mI G sc N it i && mC G s2 N cs fs && mE G s2 N e b
    | none => false
def mEs (G : Tabs) (sc : Scope) (N : List Str) : List E → List Py → Bool
  | [], p => p.isEmpty
  | e :: es, p => match p with
    | x :: xs => mE G sc N e x && mEs G sc N es xs
    | [] => false
/-- the tests of a comprehension: at most one -/
def mC (G : Tabs) (sc : Scope) (N : List Str) : List E → List Py → Bool
  | [], p => p.isEmpty
  | e :: es, p => match p with
    | [x] => mE G sc N e x && es.isEmpty
    | _ => false
def mI (G : Tabs) (sc : Scope) (N : List Str) : It → Py → Bool
  | .rng1 e, p => match vRng sc p with
    | some [b] => mE G sc N e b
    | _ => false
  | .rng2 e f, p => match vRng sc p with
    | some [b, c] => mE G sc N e b && mE G sc N f c
    | _ => false
  | .rng3 _ _ _, _ => false
  | .keys e, p => match vKeys "keys" p with
    | some b => isPath e && mE G sc N e b
    | none => false
  | .vals _, _ => false
  | .enum _, _ => false
  | .seq e, p => mE G sc N e p
end
end KW
/-! KwExpr: the terms' readings. -/
namespace KW
open PySem (Str Addr Value Program World Heap Operator CmpOp binaryOp compareOp PyData Scope Const)
open PySem.Spec PyProof.Rows
open L2 (V Hp HO upd upd_same upd_ne upd_upd SqL SqT Rd RelV Mut TE TT TA TS WX PE PT PW PA PS PSs Cx Inv OpR UnR CallR MtR IxR SlR TruR VK EP rI0)
section
variable {X : Cx} {K : Fr} {W : WX} {C : CallF} {σ : L2.St} {H : Hp} {Q : VK}
/-- a reading is weakened -/
theorem _root_.L2.PE.imp {X : Cx} {e : Py} {t u : TE} (h : PE X e t) (k : ∀ σ H Q, u σ H Q → t σ H Q) : PE X e u := ⟨fun pins s σ H Q I q => h.run pins s σ H Q I (k σ H Q q)⟩
theorem _root_.L2.PT.imp {X : Cx} {e : Py} {t u : TT} (h : PT X e t) (k : ∀ σ H Q, u σ H Q → t σ H Q) : PT X e u := ⟨fun pins s σ H Q I q => h.run pins s σ H Q I (k σ H Q q)⟩
theorem _root_.L2.PW.imp {X : Cx} {e : Py} {t u : TT} (h : PW X e t) (k : ∀ σ H Q, u σ H Q → t σ H Q) : PW X e u := ⟨fun wh pins s σ H Q I q => h.run wh pins s σ H Q I (k σ H Q q)⟩
theorem _root_.L2.PA.imp {X : Cx} {e : List Py} {t u : TA} (h : PA X e t) (k : ∀ σ H Q, u σ H Q → t σ H Q) : PA X e u := ⟨fun pos pins s σ H Q I q => h.run pos pins s σ H Q I (k σ H Q q)⟩

/-! ### names, constants -/
theorem t_var {i : Nat} (h : tE K W C (.var i) σ H Q) : L2.tVar i σ H Q := by
  obtain ⟨M, s, rt, h⟩ := h
  simp only [evalE] at h
  cases e : s.σ[i]? with
  | none => rw [e] at h; exact h.2.elim
  | some o => cases o with
    | none => rw [e] at h; exact h.2.elim
    | some sv =>
      rw [e] at h
      obtain ⟨v, h1, h2⟩ := rt.sl i sv e
      refine ⟨v, h1, h.2 M H v .refl (fun _ => ⟨rfl, .refl⟩) rt ⟨?_, fun c z => (no_own_rv z).elim⟩⟩
      cases h2 with
      | val r => exact .val r
      | own r1 r2 => exact .pk r1 r2
theorem visB_vis {sc : Scope} {x : Str} (h : visB sc x = true) : L2.Vis sc x := by
  unfold visB at h
  split at h
  · rename_i e; exact .inl e
  · rename_i e; exact .inr (.inl e)
  · rename_i e; exact .inr (.inr e)
  · cases h
theorem nameB_ne {x : Str} (h : nameB x = true) : (x == ("__debug__" : Str)) = false ∧ (x == ("__classdict__" : Str)) = false ∧ x ≠ ("__name__" : Str) := by
  unfold nameB at h
  simp only [Bool.and_eq_true, Bool.not_eq_true'] at h
  exact ⟨h.1.1, h.1.2, by simpa using h.2⟩
theorem p_var {i : Nat} {x : Str} {p : PySem.Pos} (hN : X.N[i]? = some x) (hv : visB X.env.scope x = true) (hn : nameB x = true) : PE X (.Name x p) (tE K W C (.var i)) :=
  (L2.pe_var hN (visB_vis hv) (nameB_ne hn).1 (nameB_ne hn).2.1).imp fun _ _ _ h => t_var h
theorem t_val {d : D} {v : V} {M : MM} {s : S} {pu : Bool} (rt : RT K M H σ s) (h : OutR K W (relE K) M H σ s pu (.ok (.val d) s) Q) (r : RD K s.h.length M H d v) : Q v H :=
  h.2 M H v .refl (fun _ => ⟨rfl, .refl⟩) rt ⟨.val r, fun c z => by cases z⟩
theorem okTB_ok {t : T} (h : okTB t = true) : okT t := by
  obtain ⟨h1, h2⟩ := Bool.and_eq_true_iff.mp h
  exact ⟨of_decide_eq_true h1, fun c hc => of_decide_eq_true (List.all_eq_true.mp h2 c hc)⟩
theorem p_cst {d : D} {c : Const} {j : Nat} {p : PySem.Pos} (h : constB d c = true) : PE X (.Constant c j p) (tE K W C (.cst d)) := by
  unfold constB at h
  split at h
  · exact L2.pe_non.imp fun σ H Q ⟨M, s, rt, q⟩ => t_val rt q .non
  · rename_i a b
    obtain rfl : a = b := by simpa using h
    exact L2.pe_bl.imp fun σ H Q ⟨M, s, rt, q⟩ => t_val rt q (.bl _)
  · rename_i a b
    obtain rfl : a = b := by simpa using h
    exact L2.pe_int.imp fun σ H Q ⟨M, s, rt, q⟩ => t_val rt q (.int _)
  · rename_i t x
    obtain ⟨h1, h2⟩ := Bool.and_eq_true_iff.mp h
    obtain rfl := of_decide_eq_true h1
    exact L2.pe_str.imp fun σ H Q ⟨M, s, rt, q⟩ => t_val rt q (.str _ (okTB_ok h2))
  · cases h
theorem glB_gl {x : Str} (h : glB X.env.scope x = true) : L2.Gl X x := by
  unfold glB at h
  exact (of_decide_eq_true h : X.env.scope.names.lookup x = some .globalImplicit)
/-- a constant of the top -/
def GlobOk (K : Fr) (mg : Str → Option Value) (x : String) (d : D) : Prop := ∃ u v, mg (sst x) = some u ∧ RelV v u ∧ ∀ n M H, RD K n M H d v
theorem p_glb {x : String} {d : D} {p : PySem.Pos} (hg : glB X.env.scope (sst x) = true) (hn : nameB (sst x) = true) (ok : GlobOk K X.mg x d) : PE X (.Name (sst x) p) (tE K W C (.glb x d)) := by
  obtain ⟨u, v, h1, h2, h3⟩ := ok
  exact (L2.pe_glob (glB_gl hg) h1 h2 (nameB_ne hn).1).imp fun σ H Q ⟨M, s, rt, q⟩ => t_val rt q (h3 _ _ _)

/-! ### truth -/
theorem tru_at {M : MM} {s : S} {x : RV} {v : V} {b : Bool} (rt : RT K M H σ s) (r : RR K s.h.length M H x v) (h : truth s.h x = some b) : L2.TruV K v H b := by
  have lc : ∀ {xs : List D} {vs : List V}, RDs K s.h.length M H xs vs → (!xs.isEmpty) = !vs.isEmpty := fun r => by cases r <;> rfl
  cases r with
  | own hw hc => cases hc with
    | lst h1 h2 => cases h; exact .inl ⟨_, .inl (.inl h1), lc h2⟩
    | dct h1 h2 h3 h4 => cases h
  | pk hw hc => cases hc with
    | lst h1 h2 => cases h; exact .inl ⟨_, .inl (.inl h1), lc h2⟩
    | dct h1 h2 h3 h4 => cases h
  | val r => cases r with
    | non => cases h; rfl
    | bl b' => cases h; rfl
    | int i =>
      cases h
      show decide (i ≠ 0) = (i != 0)
      by_cases e : i = 0 <;> simp [e]
    | str t ht =>
      cases h
      refine ⟨by rw [mst_len]; exact ht.1, ?_⟩
      rw [mst_len]
      cases t with
      | nil => rfl
      | cons a r => simp; omega
    | tup h1 h2 => cases h; exact .inr (.inl ⟨_, h1, lc h2⟩)
    | lst h1 h2 h3 => cases h; exact .inl ⟨_, .inl h1, lc h3⟩
    | dct h1 h2 h3 h4 h5 => cases h
    | @ref i hi =>
      simp only [truth] at h
      cases q : s.h[i]? with
      | none => rw [q] at h; cases h
      | some c =>
        rw [q] at h
        have rc := rt.hp.cell i c q
        cases rc with
        | lst h1 h2 => cases h; exact .inl ⟨_, .inl (.inl h1), lc h2⟩
        | ins _ _ _ => cases h
        | dct h1 h2 h3 => cases h
theorem OutR.opt {α β : Type} {rel : Hp → MM → Hp → S → α → β → Prop} {M : MM} {s : S} {pu : Bool} {o : Option α} {Q : β → Hp → Prop} (h : OutR K W rel M H σ s pu (opt s o) Q) (rt : RT K M H σ s) : ∃ z, o = some z ∧ ∀ v, rel H M H s z v → Q v H := by
  cases o with
  | none => exact h.2.elim
  | some z => exact ⟨z, rfl, fun v r => h.2 M H v .refl (fun _ => ⟨rfl, .refl⟩) rt r⟩
/-- a test by a value -/
theorem t_truth {e : E} {Q : Bool → Hp → Prop} (h : tT K W C e σ H Q) : tE K W C e σ H fun v H' => ∃ k, L2.TruV K v H' k ∧ Q k H' := by
  obtain ⟨M, s, rt, h⟩ := h
  refine ⟨M, s, rt, h.bind anti_relB (fun z => z) fun x s1 M1 H1 v hx e1 p1 rt1 rl1 h1 => ?_⟩
  obtain ⟨z, ez, hz⟩ := (h1 (pure e) fun z => z).opt rt1
  exact ⟨z, tru_at rt1 rl1.1 ez, hz z rfl⟩
theorem p_test {e : E} {py : Py} (h : PE X py (tE X.K W C e)) (he : ∀ whole, PySem.isTrue py X.env whole = (do let v ← whole; PySem.standAt py.pos; PySem.holding [v] (PySem.truthy v))) : PT X py (tT X.K W C e) :=
  (L2.pt_truth h he).imp fun _ _ _ h => t_truth h
/-- an operation, as a test, whose value is a truth -/
theorem t_test {e : E} {Q : Bool → Hp → Prop} (hb : ∀ s x s', evalE C e s = .ok x s' → ∃ b, x = .val (.bl b)) (h : tT K W C e σ H Q) : tE K W C e σ H fun v H' => ∃ k, v = .bl k ∧ Q k H' := by
  obtain ⟨M, s, rt, h⟩ := h
  refine ⟨M, s, rt, h.bind anti_relB (fun z => z) fun x s1 M1 H1 v hx e1 p1 rt1 rl1 h1 => ?_⟩
  obtain ⟨z, ez, hz⟩ := (h1 (pure e) fun z => z).opt rt1
  obtain ⟨b, rfl⟩ := hb _ _ _ hx
  cases ez
  exact ⟨z, bl_at rl1.1, hz z rfl⟩
theorem tE_mono {e : E} {Q' : VK} (h : tE K W C e σ H Q) (k : ∀ v H, Q v H → Q' v H) : tE K W C e σ H Q' := by
  obtain ⟨M, s, rt, h⟩ := h
  refine ⟨M, s, rt, h.1, ?_⟩
  cases q : evalE C e s with
  | ok x s' => rw [q] at h; exact fun M' H' v a b c d => k _ _ (h.2 M' H' v a b c d)
  | raise x s' => rw [q] at h; exact h.2
  | stuck => rw [q] at h; exact h.2
theorem opt_ok {α : Type} {s s' : S} {o : Option α} {a : α} (h : opt s o = .ok a s') : o = some a ∧ s' = s := by
  cases o with
  | none => cases h
  | some b => cases h; exact ⟨rfl, rfl⟩
theorem bind_is {α β : Type} {r : R α} {f : α → S → R β} {b : β} {s' : S} (h : r.bind f = .ok b s') : ∃ a s1, r = .ok a s1 ∧ f a s1 = .ok b s' := by
  cases r with
  | ok a s1 => exact ⟨a, s1, rfl, h⟩
  | raise _ _ => cases h
  | stuck => cases h
theorem cmp_bl {o : CmpO} {a b : E} (s : S) (x : RV) (s' : S) (h : evalE C (.p2 (.cmp o) a b) s = .ok x s') : ∃ k, x = .val (.bl k) := by
  simp only [evalE] at h
  obtain ⟨u, s1, _, h⟩ := bind_is h
  by_cases g : ((isPk u && !pure b) || !recv2 s1.h (Op2.cmp o) u) = true
  · rw [if_pos g] at h; cases h
  rw [if_neg g] at h
  obtain ⟨v, s2, _, h⟩ := bind_is h
  obtain ⟨h1, _⟩ := opt_ok h
  obtain ⟨k, _, rfl⟩ := omap h1
  exact ⟨k, rfl⟩

/-! ### and, or, not, if -/
theorem t_or {a b : E} (h : tE K W C (.or a b) σ H Q) : L2.tOrT K (tE K W C a) (tE K W C b) σ H Q := by
  obtain ⟨M, s, rt, h⟩ := h
  simp only [evalE, pure] at h
  refine ⟨M, s, rt, fun z => (Bool.and_eq_true_iff.mp (h.1 z)).1, ?_⟩
  cases q : evalE C a s with
  | stuck => rw [q] at h; exact h.2
  | raise x s1 => rw [q] at h; exact h.2
  | ok x s1 =>
    rw [q, bind_ok] at h
    intro M1 H1 v e1 p1 rt1 rl1
    cases e : truth s1.h x with
    | none => rw [e] at h; exact h.2.elim
    | some k =>
      rw [e] at h
      refine ⟨k, tru_at rt1 rl1.1 e, ?_⟩
      cases k with
      | true => exact L2.iteT (h.2 M1 H1 v e1 (fun z => p1 (Bool.and_eq_true_iff.mp z).1) rt1 rl1)
      | false => exact L2.iteF ⟨M1, s1, rt1, h.later anti_relE e1 (fun z => p1 (Bool.and_eq_true_iff.mp z).1) fun z => (Bool.and_eq_true_iff.mp z).2⟩
theorem t_and {a b : E} (h : tE K W C (.and a b) σ H Q) : L2.tAndT K (tE K W C a) (tE K W C b) σ H Q := by
  obtain ⟨M, s, rt, h⟩ := h
  simp only [evalE, pure] at h
  refine ⟨M, s, rt, fun z => (Bool.and_eq_true_iff.mp (h.1 z)).1, ?_⟩
  cases q : evalE C a s with
  | stuck => rw [q] at h; exact h.2
  | raise x s1 => rw [q] at h; exact h.2
  | ok x s1 =>
    rw [q, bind_ok] at h
    intro M1 H1 v e1 p1 rt1 rl1
    cases e : truth s1.h x with
    | none => rw [e] at h; exact h.2.elim
    | some k =>
      rw [e] at h
      refine ⟨k, tru_at rt1 rl1.1 e, ?_⟩
      cases k with
      | false => exact L2.iteF (h.2 M1 H1 v e1 (fun z => p1 (Bool.and_eq_true_iff.mp z).1) rt1 rl1)
      | true => exact L2.iteT ⟨M1, s1, rt1, h.later anti_relE e1 (fun z => p1 (Bool.and_eq_true_iff.mp z).1) fun z => (Bool.and_eq_true_iff.mp z).2⟩
theorem t_not {a : E} (h : tE K W C (.not a) σ H Q) : L2.tNotT K (tE K W C a) σ H Q := by
  obtain ⟨M, s, rt, h⟩ := h
  refine ⟨M, s, rt, ?_⟩
  simp only [evalE, pure] at h
  refine h.bind anti_relE (fun z => z) fun x s1 M1 H1 v hx e1 p1 rt1 rl1 h1 => ?_
  obtain ⟨z, ez, hz⟩ := (h1 (pure a) fun z => z).op rt1
  obtain ⟨k, ek, rfl⟩ := omap ez
  exact ⟨k, tru_at rt1 rl1.1 ek, hz M1 H1 _ .refl rt1 (.val (.bl _)) fun c z => by cases z⟩
theorem t_ife {c a b : E} (h : tE K W C (.ife c a b) σ H Q) : L2.tIf (tT K W C c) (tE K W C a) (tE K W C b) σ H Q := by
  obtain ⟨M, s, rt, h⟩ := h
  refine ⟨M, s, rt, ?_⟩
  simp only [evalE, pure] at h
  refine h.bind (rel1 := relB) anti_relE (fun z => (Bool.and_eq_true_iff.mp (Bool.and_eq_true_iff.mp z).1).1) fun x s1 M1 H1 v hx e1 p1 rt1 rl1 h1 => ?_
  cases rl1
  cases x with
  | true => exact L2.iteT ⟨M1, s1, rt1, h1 (pure a) fun z => (Bool.and_eq_true_iff.mp (Bool.and_eq_true_iff.mp z).1).2⟩
  | false => exact L2.iteF ⟨M1, s1, rt1, h1 (pure b) fun z => (Bool.and_eq_true_iff.mp z).2⟩
/-- as tests -/
theorem tt_and {a b : E} {Q : Bool → Hp → Prop} (h : tT K W C (.and a b) σ H Q) : L2.tAnd (tT K W C a) (tT K W C b) σ H Q := by
  obtain ⟨M, s, rt, h⟩ := h
  simp only [evalE, pure, isTruth] at h
  refine ⟨M, s, rt, fun z => (Bool.and_eq_true_iff.mp (h.1 z)).1, ?_⟩
  simp only [isTruth]
  cases q : evalE C a s with
  | stuck => rw [q] at h; exact h.2
  | raise x s1 => rw [q] at h; exact h.2
  | ok x s1 =>
    rw [q, bind_ok] at h
    rw [bind_ok]
    cases e : truth s1.h x with
    | none => rw [e] at h; exact h.2.elim
    | some k =>
      rw [e] at h
      intro M1 H1 v e1 p1 rt1 rl1
      cases rl1
      cases k with
      | true => exact ⟨M1, s1, rt1, OutR.later anti_relB h e1 (fun z => p1 (Bool.and_eq_true_iff.mp z).1) fun z => (Bool.and_eq_true_iff.mp z).2⟩
      | false =>
        simp only [bind_ok, e] at h
        exact h.2 M1 H1 false e1 (fun z => p1 (Bool.and_eq_true_iff.mp z).1) rt1 rfl
theorem tt_or {a b : E} {Q : Bool → Hp → Prop} (h : tT K W C (.or a b) σ H Q) : L2.tOr (tT K W C a) (tT K W C b) σ H Q := by
  obtain ⟨M, s, rt, h⟩ := h
  simp only [evalE, pure, isTruth] at h
  refine ⟨M, s, rt, fun z => (Bool.and_eq_true_iff.mp (h.1 z)).1, ?_⟩
  simp only [isTruth]
  cases q : evalE C a s with
  | stuck => rw [q] at h; exact h.2
  | raise x s1 => rw [q] at h; exact h.2
  | ok x s1 =>
    rw [q, bind_ok] at h
    rw [bind_ok]
    cases e : truth s1.h x with
    | none => rw [e] at h; exact h.2.elim
    | some k =>
      rw [e] at h
      intro M1 H1 v e1 p1 rt1 rl1
      cases rl1
      cases k with
      | false => exact ⟨M1, s1, rt1, OutR.later anti_relB h e1 (fun z => p1 (Bool.and_eq_true_iff.mp z).1) fun z => (Bool.and_eq_true_iff.mp z).2⟩
      | true =>
        simp only [bind_ok, e] at h
        exact h.2 M1 H1 true e1 (fun z => p1 (Bool.and_eq_true_iff.mp z).1) rt1 rfl
theorem tt_not {a : E} {Q : Bool → Hp → Prop} (h : tT K W C (.not a) σ H Q) : L2.tNot (tT K W C a) σ H Q := by
  obtain ⟨M, s, rt, h⟩ := h
  simp only [evalE, pure, isTruth] at h
  refine ⟨M, s, rt, fun z => h.1 z, ?_⟩
  simp only [isTruth]
  cases q : evalE C a s with
  | stuck => rw [q] at h; exact h.2
  | raise x s1 => rw [q] at h; exact h.2
  | ok x s1 =>
    rw [q] at h
    simp only [bind_ok] at h ⊢
    cases e : truth s1.h x with
    | none => rw [e] at h; exact h.2.elim
    | some k =>
      rw [e] at h
      intro M1 H1 v e1 p1 rt1 rl1
      cases rl1
      exact h.2 M1 H1 (!k) e1 p1 rt1 rfl
end
end KW
/-! KwCall: a call of a def. -/
namespace KW
open PySem (Str Addr Value Program World Heap Operator CmpOp binaryOp compareOp PyData Scope Const)
open PySem.Spec PyProof.Rows
open L2 (V Hp HO upd upd_same upd_ne upd_upd SqL SqT Rd RelV Mut TE TT TA TS WX PE PT PW PA PS PSs Cx Inv OpR UnR CallR MtR IxR SlR TruR VK EP XK rI0)

/-! ### labels -/
/-- as a callee sees it -/
def MM.call (M : MM) : MM := { M with who := fun a => if isLoc (M.who a) = true then some .oth else M.who a }
/-- behind the call -/
def MM.back (M M' : MM) : MM := { M' with who := fun a => if isLoc (M.who a) = true then M.who a else M'.who a }
def noSlot (M : MM) : Prop := ∀ a j, M.who a ≠ some (.pl (.slot j))
def noLoc (M : MM) : Prop := ∀ a, isLoc (M.who a) = false
section
variable {K : Fr} {M M' : MM} {H H' : Hp} {σ : L2.St} {s : S} {n n' : Nat} {h : List Cell}
theorem call_who {a : Addr} (e : isLoc (M.who a) = false) : M.call.who a = M.who a := by simp [MM.call, e]
theorem call_loc {a : Addr} (e : isLoc (M.who a) = true) : M.call.who a = some .oth := by simp [MM.call, e]
theorem back_loc {a : Addr} (e : isLoc (M.who a) = true) : (M.back M').who a = M.who a := by simp [MM.back, e]
theorem back_who {a : Addr} (e : isLoc (M.who a) = false) : (M.back M').who a = M'.who a := by simp [MM.back, e]
theorem call_none {a : Addr} : M.call.who a = none ↔ M.who a = none := by
  constructor
  · intro e
    cases q : isLoc (M.who a) with
    | true => rw [call_loc q] at e; cases e
    | false => rw [call_who q] at e; exact e
  · intro e
    rw [call_who (by rw [e]; rfl)]; exact e
theorem call_pl {a : Addr} {l : Lb} (e : M.call.who a = some l) (h : l ≠ .oth) : M.who a = some l := by
  cases q : isLoc (M.who a) with
  | true => rw [call_loc q] at e; injection e with e; exact absurd e.symm h
  | false => rw [call_who q] at e; exact e
theorem of_pl {a : Addr} {l : Lb} (e : M.who a = some l) (h : isLoc (some l) = false) : M.call.who a = some l := by
  rw [call_who (by rw [e]; exact h)]; exact e
/-- one state under other labels: what is nobody's stays so, what lies at heap places too -/
theorem RH.relab {h : List Cell} (r : RH K M H h) (el : M'.loc = M.loc) (wf : ∀ a l, M'.who a = some l → Mx M'.lk a (H a)) (uq : ∀ a b l, l ≠ .tmp → l ≠ .oth → M'.who a = some l → M'.who b = some l → a = b)
    (hn : ∀ a, M.who a = none → H a ≠ none → M'.who a = none) (hp : ∀ a l, M.who a = some l → isLoc (some l) = false → l ≠ .oth → M'.who a = some l) : RH K M' H h := by
  have kp : Keep h.length M H h.length M' H := ⟨r.wf, fun a o q z => ⟨q, hn a z (by rw [q]; exact fun e => by cases e)⟩, fun i _ => by rw [el], Nat.le_refl _⟩
  refine ⟨wf, fun i hi => by rw [el]; exact hp _ _ (r.lb i hi) rfl (by intro z; cases z), uq, fun i c hc => ?_⟩
  refine (r.cell i c hc).mono kp (List.getElem?_eq_some_iff.mp hc).1 rfl fun p hpp a ha => ⟨hp a _ ha ?_ (by intro z; cases z), rfl⟩
  rcases hpp with ⟨f, rfl⟩ | ⟨k, rfl⟩ <;> rfl
theorem RH.call {h : List Cell} (r : RH K M H h) : RH K M.call H h ∧ noLoc M.call := by
  constructor
  · refine r.relab rfl (fun a l e => ?_) (fun a b l h1 h2 ea eb => ?_) (fun a e _ => call_none.mpr e) fun a l e h _ => of_pl e h
    · cases q : isLoc (M.who a) with
      | true =>
        cases z : M.who a with
        | none => rw [z] at q; cases q
        | some l' => exact r.wf a l' z
      | false => rw [call_who q] at e; exact r.wf a l e
    · exact r.uq a b l h1 h2 (call_pl ea h2) (call_pl eb h2)
  · intro a
    cases q : isLoc (M.who a) with
    | true => rw [call_loc q]; rfl
    | false => rw [call_who q]; exact q
theorem keep_call {n : Nat} (wf : ∀ a l, M.who a = some l → Mx M.lk a (H a)) : Keep n M H n M.call H := ⟨wf, fun a o q z => ⟨q, call_none.mpr z⟩, fun _ _ => rfl, Nat.le_refl _⟩
theorem keep_back {n : Nat} (wf : ∀ a l, M'.who a = some l → Mx M'.lk a (H' a)) (ho : ∀ a, isLoc (M.who a) = true → M'.who a = some .oth) : Keep n M' H' n (M.back M') H' := ⟨wf, fun a o q z => ⟨q, by
    cases e : isLoc (M.who a) with
    | true => rw [ho a e] at z; cases z
    | false => rw [back_who e]; exact z⟩, fun _ _ => rfl, Nat.le_refl _⟩
/-- behind a call -/
theorem RT.back {h' : List Cell} (r : RT K M H σ s) (e : Ext s.h.length M.call H h'.length M' H') (r' : RH K M' H' h') (ns : noSlot M') :
    RT K (M.back M') H' σ ⟨s.σ, h'⟩ ∧ Ext s.h.length M H h'.length (M.back M') H' ∧ Keep h'.length M' H' h'.length (M.back M') H' := by
  have loc : ∀ a, isLoc (M.who a) = true → M'.who a = some .oth ∧ H' a = H a := fun a q => by
    cases z : M.who a with
    | none => rw [z] at q; cases q
    | some l =>
      have mu := r.hp.wf a l z
      cases y : H a with
      | none => rw [y] at mu; exact mu.no.elim
      | some o =>
        obtain ⟨h1, h2⟩ := e.keep a o y (by rw [call_loc q]; exact .inr (.inr rfl))
        exact ⟨by rw [h2, call_loc q], h1⟩
  have kb : Keep h'.length M' H' h'.length (M.back M') H' := keep_back r'.wf fun a q => (loc a q).1
  have hp : RH K (M.back M') H' h' := by
    refine r'.relab rfl (fun a l q => ?_) (fun a b l h1 h2 ea eb => ?_) (fun a q _ => ?_) fun a l q h1 h2 => ?_
    · cases z : isLoc (M.who a) with
      | true => rw [back_loc z] at q; rw [(loc a z).2]; show Mx M'.lk _ _; rw [e.lk]; exact r.hp.wf a l q
      | false => rw [back_who z] at q; exact r'.wf a l q
    · cases za : isLoc (M.who a) with
      | true =>
        rw [back_loc za] at ea
        cases zb : isLoc (M.who b) with
        | true => rw [back_loc zb] at eb; exact r.hp.uq a b l h1 h2 ea eb
        | false =>
          rw [back_who zb] at eb
          rw [ea] at za
          cases l with
          | pl p => cases p with
            | slot j => exact absurd eb (ns b j)
            | fld _ _ => cases za
            | ent _ _ => cases za
          | cell _ => cases za
          | tmp => exact absurd rfl h1
          | oth => exact absurd rfl h2
      | false =>
        rw [back_who za] at ea
        cases zb : isLoc (M.who b) with
        | true =>
          rw [back_loc zb] at eb
          rw [eb] at zb
          cases l with
          | pl p => cases p with
            | slot j => exact absurd ea (ns a j)
            | fld _ _ => cases zb
            | ent _ _ => cases zb
          | cell _ => cases zb
          | tmp => exact absurd rfl h1
          | oth => exact absurd rfl h2
        | false => rw [back_who zb] at eb; exact r'.uq a b l h1 h2 ea eb
    · cases z : isLoc (M.who a) with
      | true => rw [(loc a z).1] at q; cases q
      | false => rw [back_who z]; exact q
    · cases z : isLoc (M.who a) with
      | true => rw [(loc a z).1] at q; injection q with q; exact absurd q.symm h2
      | false => rw [back_who z]; exact q
  have ex : Ext s.h.length M H h'.length (M.back M') H' := by
    refine ⟨fun a o q p => ?_, e.dom, e.loc, e.le, fun a h => ?_, e.lk⟩
    rotate_left
    · cases z : isLoc (M.who a) with
      | true => exact .inl rfl
      | false =>
        rw [back_who z] at h
        rcases e.nl a h with k | k
        · rw [call_who z, z] at k; cases k
        · exact .inr k
    cases z : isLoc (M.who a) with
    | true => rw [back_loc z]; exact ⟨(loc a z).2.trans q, rfl⟩
    | false =>
      rw [back_who z]
      obtain ⟨h1, h2⟩ := e.keep a o q (by rw [call_who z]; exact p)
      exact ⟨h1, h2.trans (call_who z)⟩
  refine ⟨⟨hp, r.len, fun j sv q => ?_⟩, ex, kb⟩
  obtain ⟨v, h1, h2⟩ := r.sl j sv q
  refine ⟨v, h1, h2.mono (ex.kept r.hp.wf) fun a ha => ?_⟩
  have z : isLoc (M.who a) = true := by rw [ha]; rfl
  exact ⟨by rw [back_loc z]; exact ha, (loc a z).2⟩
theorem RDs.keep (k : Keep n M H n' M' H') {xs : List D} {vs : List V} (r : RDs K n M H xs vs) : RDs K n' M' H' xs vs := r.mono k
theorem RXs.mono (k : Keep n M H n' M' H') : ∀ {fs : List (String × D)} {gs : List (Str × V)}, RXs K n M H fs gs → RXs K n' M' H' fs gs
  | _, _, .nil => .nil
  | _, _, .cons a b => .cons (a.mono k) (RXs.mono k b)
end

/-! ### what a def promises -/
def spOf (K : Fr) (C : CallF) (f : String) : L2.Sp := fun vs H Q E => ∃ M ds h, M.lk = none ∧ RH K M H h ∧ noLoc M ∧ RDs K h.length M H ds vs ∧ match C f ds h with
  | .ok x s' => ∀ M' H' v, Ext h.length M H s'.h.length M' H' → RH K M' H' s'.h → noSlot M' → RR K s'.h.length M' H' x v → isPk x = false → Fresh H x v → Q v H'
  | .raise x s' => ∀ M' H' cls d, Ext h.length M H s'.h.length M' H' → RH K M' H' s'.h → noSlot M' → RX K s'.h.length M' H' x cls d → E cls d H'
  | .stuck => False

section
variable {K : Fr} {W : WX} {C : CallF} {σ : L2.St} {H : Hp} {Q : VK}
/-- a call, the arguments at hand -/
theorem sp_call {M : MM} {s : S} {pu : Bool} {f : String} {ds : List D} {vs : List V} (rt : RT K M H σ s) (rs : RDs K s.h.length M H ds vs)
    (h : OutR K W (relE K) M H σ s pu (back s.σ (C f ds s.h)) Q) (hpu : pu = false) : spOf K C f vs H Q (L2.WE W σ) := by
  obtain ⟨r1, r2⟩ := rt.hp.call
  have hlk : M.lk = none := by
    cases z : M.lk with
    | none => rfl
    | some b => have := h.1 (by rw [z]; intro q; cases q); rw [hpu] at this; cases this
  have h := h.2
  refine ⟨M.call, ds, s.h, hlk, r1, r2, rs.mono (keep_call rt.hp.wf), ?_⟩
  cases q : C f ds s.h with
  | stuck => rw [q] at h; exact h
  | ok x s' =>
    rw [q] at h
    intro M' H' v e r' ns rr pk fr
    obtain ⟨t1, t2, t3⟩ := rt.back e r' ns
    refine h (M.back M') H' v t2 (fun z => by rw [hpu] at z; cases z) t1 ⟨?_, fr⟩
    cases rr with
    | val rd => exact .val (rd.mono t3)
    | @own c a hw hc =>
      have ha : H a = none := fr c rfl a rfl
      have z : isLoc (M.who a) = false := by rw [rt.hp.nobody ha]; rfl
      exact .own (by rw [back_who z]; exact hw) (hc.mono t3 rfl)
    | pk _ _ => cases pk
  | raise x s' =>
    rw [q] at h
    intro M' H' cls d e r' ns rx
    obtain ⟨t1, t2, t3⟩ := rt.back e r' ns
    refine h (M.back M') H' cls d t2 t1 ⟨rx.1, ?_⟩
    rcases rx.2 with e | ⟨a, gs, e1, e2, e3⟩
    · exact .inl e
    · exact .inr ⟨a, gs, e1, e2, e3.mono t3⟩
end

/-! ### handing on -/
section
variable {K : Fr} {M : MM} {H : Hp} {σ : L2.St} {s : S} {n : Nat}
/-- a new thing is let be for good -/
theorem RT.freeze {a : Addr} (r : RT K M H σ s) (ha : M.who a = some .tmp) : RT K (M.set a none) H σ s ∧ Keep s.h.length M H s.h.length (M.set a none) H := by
  have ne : ∀ b l, M.who b = some l → l ≠ .tmp → b ≠ a := fun b l q h z => by rw [z, ha] at q; injection q with q; exact h q.symm
  have kp : Keep s.h.length M H s.h.length (M.set a none) H := ⟨r.hp.wf, fun b o q z => ⟨q, by
    rw [MM.set_ne (fun e => by rw [e, ha] at z; cases z)]; exact z⟩, fun _ _ => rfl, Nat.le_refl _⟩
  refine ⟨⟨?_, r.len, fun j sv q => ?_⟩, kp⟩
  · refine r.hp.relab rfl (fun b l q => ?_) (fun b c l h1 h2 eb ec => ?_) (fun b q hb => (kp.k b _ (Option.ne_none_iff_exists'.mp hb).choose_spec q).2) fun b l q h1 h2 => ?_
    · by_cases z : b = a
      · subst z; rw [MM.set_same] at q; cases q
      · rw [MM.set_ne z] at q; exact r.hp.wf b l q
    · by_cases zb : b = a
      · subst zb; rw [MM.set_same] at eb; cases eb
      · by_cases zc : c = a
        · subst zc; rw [MM.set_same] at ec; cases ec
        · rw [MM.set_ne zb] at eb; rw [MM.set_ne zc] at ec; exact r.hp.uq b c l h1 h2 eb ec
    · rw [MM.set_ne (ne b l q (by intro z; rw [z] at h1; cases h1))]; exact q
  · obtain ⟨v, h1, h2⟩ := r.sl j sv q
    exact ⟨v, h1, h2.mono kp fun b hb => ⟨by rw [MM.set_ne (ne b _ hb (by intro z; cases z))]; exact hb, rfl⟩⟩
theorem RC.fz {c : Cont} {a : Addr} (h : RC K n M H c a) (k : Keep n M H n (M.set a none) H) : RD K n (M.set a none) H c.fz (.ref a) := by
  cases h with
  | lst h hs => exact .lst (.inl h) MM.set_same (hs.mono k)
  | dct h hk hn hs => exact .dct h MM.set_same hk hn (hs.mono k)
end
section
variable {K : Fr} {W : WX} {C : CallF} {σ : L2.St} {H : Hp} {Q : VK}
theorem t_D {e : E} (h : tD K W C e σ H Q) : tE K W C e σ H Q := by
  obtain ⟨M, s, rt, h⟩ := h
  refine ⟨M, s, rt, h.1, ?_⟩
  unfold exports at h
  cases q : evalE C e s with
  | stuck => rw [q] at h; exact h.2
  | raise x s1 => rw [q] at h; exact h.2
  | ok x s1 =>
    rw [q, bind_ok] at h
    intro M1 H1 v e1 p1 rt1 rl1
    cases x with
    | val d =>
      cases rl1.1 with
      | val r => exact h.2 M1 H1 v e1 p1 rt1 r
    | pk p c => exact h.2.elim
    | own c =>
      obtain ⟨rr, fr⟩ := rl1
      cases rr with
      | @own _ a hw hc =>
        have ha : H a = none := fr c rfl a rfl
        obtain ⟨t1, t2⟩ := rt1.freeze hw
        have ne : ∀ b o, H b = some o → b ≠ a := fun b o q z => by rw [z, ha] at q; cases q
        refine h.2 (M1.set a none) H1 (.ref a) ⟨fun b o q p => ?_, e1.dom, e1.loc, e1.le, nl_set e1.nl, e1.lk⟩ (fun z => ?_) t1 (hc.fz t2)
        · obtain ⟨h1, h2⟩ := e1.keep b o q p
          exact ⟨h1, by rw [MM.set_ne (ne b o q)]; exact h2⟩
        · obtain ⟨g1, g2⟩ := p1 z
          refine ⟨g1, fun b o q => ?_, g2.loc, g2.lk⟩
          obtain ⟨h1, h2⟩ := g2.keep b o q
          exact ⟨h1, by rw [MM.set_ne (ne b o q)]; exact h2⟩
theorem t_nil {Q : List V → Hp → Prop} (h : tEs K W C [] σ H Q) : L2.tNil σ H Q := by
  obtain ⟨M, s, rt, h⟩ := h
  simp only [evalEs] at h
  exact h.2 M H [] .refl (fun _ => ⟨rfl, .refl⟩) rt .nil
theorem t_cons {e : E} {es : List E} {Q : List V → Hp → Prop} (h : tEs K W C (e :: es) σ H Q) : L2.tCons (tE K W C e) (tEs K W C es) σ H Q := by
  refine t_D ?_
  obtain ⟨M, s, rt, h⟩ := h
  refine ⟨M, s, rt, ?_⟩
  simp only [evalEs, pures] at h
  refine h.bind anti_relEs (fun z => (Bool.and_eq_true_iff.mp z).1) fun d s1 M1 H1 v hx e1 p1 rt1 rl1 h1 => ?_
  have h1 := h1 (pures es) fun z => (Bool.and_eq_true_iff.mp z).2
  refine ⟨M1, s1, rt1, h1.bind anti_relEs (fun z => z) fun ds s2 M2 H2 vs hy e2 p2 rt2 rl2 h2 => ?_⟩
  exact (h2 true fun _ => rfl).2 M2 H2 (v :: vs) .refl (fun _ => ⟨rfl, .refl⟩) rt2 (.cons (RD.mono (e2.kept rt1.hp.wf) rl1) rl2)
end
end KW
/-! KwState: the state changes. -/
namespace KW
open PySem (Str Addr Value Program World Heap Operator CmpOp)
open L2 (V Hp HO upd upd_same upd_ne upd_upd SqL SqT Rd RelV Mut VK)

/-- the cell of a place -/
def plIx : Pl → Option Nat
  | .slot _ => none
  | .fld i _ => some i
  | .ent i _ => some i
/-- behind statements: what is nobody's and what is others' stays -/
structure ExtS (n : Nat) (M : MM) (H : Hp) (n' : Nat) (M' : MM) (H' : Hp) : Prop where
  keep : ∀ a o, H a = some o → (M.who a = none ∨ M.who a = some .oth) → H' a = some o ∧ M'.who a = M.who a
  dom : ∀ a, H' a = none → H a = none
  loc : ∀ i, i < n → M'.loc i = M.loc i
  le : n ≤ n'
  nl : ∀ a, isLoc (M'.who a) = true → isLoc (M.who a) = true ∨ H a = none
  lk : M'.lk = M.lk
section
variable {K : Fr} {n n' n'' : Nat} {M M' M'' : MM} {H H' H'' : Hp} {σ : L2.St} {s : S} {h : List Cell}
theorem ExtS.refl : ExtS n M H n M H := ⟨fun _ _ h _ => ⟨h, rfl⟩, fun _ h => h, fun _ _ => rfl, Nat.le_refl _, fun _ h => .inl h, rfl⟩
theorem Ext.toS (e : Ext n M H n' M' H') : ExtS n M H n' M' H' := ⟨fun a o q p => e.keep a o q (p.elim .inl fun z => .inr (.inr z)), e.dom, e.loc, e.le, e.nl, e.lk⟩
theorem ExtS.trans (a : ExtS n M H n' M' H') (b : ExtS n' M' H' n'' M'' H'') : ExtS n M H n'' M'' H'' where
  keep := fun c o h p => by
    obtain ⟨h1, e1⟩ := a.keep c o h p
    obtain ⟨h2, e2⟩ := b.keep c o h1 (by rw [e1]; exact p)
    exact ⟨h2, e2.trans e1⟩
  dom := fun c h => a.dom c (b.dom c h)
  loc := fun i hi => (b.loc i (Nat.lt_of_lt_of_le hi a.le)).trans (a.loc i hi)
  le := Nat.le_trans a.le b.le
  nl := fun c h => (b.nl c h).elim (a.nl c) fun z => .inr (a.dom c z)
  lk := b.lk.trans a.lk
theorem ExtS.kept (e : ExtS n M H n' M' H') (wf : ∀ a l, M.who a = some l → Mx M.lk a (H a)) : Keep n M H n' M' H' := ⟨wf, fun a o h q => by
    obtain ⟨h1, h2⟩ := e.keep a o h (.inl q)
    exact ⟨h1, h2.trans q⟩, e.loc, e.le⟩
theorem RH.some_of (r : RH K M H h) {a : Addr} {l : Lb} (e : M.who a = some l) : ∃ o, H a = some o := by
  have := r.wf a l e
  cases q : H a with
  | none => rw [q] at this; exact this.no.elim
  | some o => exact ⟨o, rfl⟩
theorem RCell.keep (e : Keep n M H n' M' H') {i : Nat} (hi : i < n) (hc : H' (M.loc i) = H (M.loc i)) {c : Cell} (hp : ∀ p, plIx p = some i → ∀ a, M.who a = some (.pl p) → M'.who a = some (.pl p) ∧ H' a = H a) (h : RCell K n M H i c) : RCell K n' M' H' i c := by
  have el := e.loc i hi
  cases h with
  | ins h hn hf => exact .ins (by rw [el, hc]; exact h) hn (RFs.mono e (fun f _ => hp (.fld i f) rfl) hf)
  | lst h hs => exact .lst (by rw [el, hc]; exact h) (RDs.mono e hs)
  | dct h hn hf => exact .dct (by rw [el]; exact rd_eq h hc) hn (REs.mono e (fun k _ => hp (.ent i k) rfl) hf)

/-! ### reading a place -/
theorem RFs.get {i : Nat} : ∀ {fs : List (String × SV)} {gs : List (Str × V)} {f : String} {sv : SV}, RFs K n M H i fs gs → ffind f fs = some sv → ∃ v, gs.lookup (sst f) = some v ∧ RS K n M H (.fld i f) sv v
  | _, _, _, _, .nil, h => by cases h
  | _, _, f, sv, .cons (f := g) (v := v) a b, h => by
    unfold ffind at h
    rw [List.lookup_cons] at h
    rw [List.lookup_cons]
    by_cases e : f = g
    · subst e
      simp only [beq_self_eq_true] at h ⊢
      injection h with h
      subst h
      exact ⟨v, rfl, a⟩
    · have e1 : (f == g) = false := by simpa using e
      have e2 : (sst f == sst g) = false := by simpa using fun z => e (sst_inj z)
      rw [e1] at h
      rw [e2]
      exact RFs.get b h
theorem REs.get {i : Nat} : ∀ {fs : List (Key × SV)} {gs : List (L2.Key × V)} {k : Key} {sv : SV}, REs K n M H i fs gs → kfind k fs = some sv → ∃ v, RS K n M H (.ent i k) sv v
  | _, _, _, _, .nil, h => by cases h
  | _, _, k, sv, .cons (k := g) (v := v) a b, h => by
    unfold kfind at h
    split at h
    · rename_i e
      have e : g = k := e
      subst e
      injection h with h
      subst h
      exact ⟨v, a⟩
    · exact REs.get b h
/-- a place that holds a list or dict: where it stands -/
theorem RT.getPl (r : RT K M H σ s) {p : Pl} {c : Cont} (e : getPl s p = some (.own c)) : ∃ a, M.who a = some (.pl p) ∧ RC K s.h.length M H c a := by
  have own : ∀ {v : V}, RS K s.h.length M H p (.own c) v → ∃ a, M.who a = some (.pl p) ∧ RC K s.h.length M H c a := fun h => by
    cases h with
    | own h1 h2 => exact ⟨_, h1, h2⟩
  cases p with
  | slot j =>
    simp only [KW.getPl] at e
    split at e
    · rename_i sv q
      injection e with e
      subst e
      obtain ⟨v, _, h2⟩ := r.sl j _ q
      exact own h2
    · cases e
  | fld i f =>
    simp only [KW.getPl] at e
    split at e
    · rename_i cc fs q
      have rc := r.hp.cell i _ q
      cases rc with
      | ins h1 h2 h3 =>
        obtain ⟨v, _, h4⟩ := h3.get e
        exact own h4
    · cases e
  | ent i k =>
    simp only [KW.getPl] at e
    split at e
    · rename_i kvs q
      have rc := r.hp.cell i _ q
      cases rc with
      | dct h1 h2 h3 =>
        obtain ⟨v, h4⟩ := h3.get e
        exact own h4
    · cases e

/-! ### the content of a place changes -/
/-- what a change at place p leaves -/
structure Chg (K : Fr) (p : Pl) (a : Addr) (n : Nat) (M : MM) (H : Hp) (n' : Nat) (M' : MM) (H' : Hp) : Prop where
  kp : Keep n M H n' M' H'
  uq : ∀ a b l, l ≠ .tmp → l ≠ .oth → M.who a = some l → M.who b = some l → a = b
  hw : M.who a = some (.pl p)
  hp : ∀ q, q ≠ p → ∀ b, M.who b = some (.pl q) → M'.who b = some (.pl q) ∧ H' b = H b
theorem RFs.put {i : Nat} {a : Addr} {f : String} {sv' : SV} {c : Cont} (g : Chg K (.fld i f) a n M H n' M' H') (rs : RS K n' M' H' (.fld i f) sv' (.ref a)) {fs : List (String × SV)} {gs : List (Str × V)}
    (r : RFs K n M H i fs gs) : (fs.map (·.1)).Nodup → ffind f fs = some (.own c) → RFs K n' M' H' i (fput f sv' fs) gs := by
  induction r with
  | nil => intro _ h; cases h
  | @cons x sv v fs gs ra rb ih =>
    intro hn h
    have hn2 := List.nodup_cons.mp (show (x :: fs.map (·.1)).Nodup from hn)
    unfold ffind at h
    rw [List.lookup_cons] at h
    unfold fput
    by_cases ef : x = f
    · subst ef
      rw [if_pos rfl]
      simp only [beq_self_eq_true] at h
      injection h with h
      subst h
      cases ra with
      | own h1 h2 =>
        obtain rfl := g.uq _ _ _ (by intro z; cases z) (by intro z; cases z) h1 g.hw
        refine .cons rs (RFs.mono g.kp (fun f' hf' b hb => g.hp _ (fun z => ?_) b hb) rb)
        injection z with _ z
        subst z
        exact hn2.1 hf'
    · rw [if_neg ef]
      have e1 : (f == x) = false := by simpa using fun z => ef z.symm
      rw [e1] at h
      refine .cons (ra.mono g.kp (fun b hb => g.hp _ (fun z => ?_) b hb)) (ih hn2.2 h)
      injection z with _ z
      exact ef z
theorem REs.put {i : Nat} {a : Addr} {k : Key} {sv' : SV} {c : Cont} (g : Chg K (.ent i k) a n M H n' M' H') (rs : RS K n' M' H' (.ent i k) sv' (.ref a)) {fs : List (Key × SV)} {gs : List (L2.Key × V)}
    (r : REs K n M H i fs gs) : (fs.map (·.1)).Nodup → kfind k fs = some (.own c) → REs K n' M' H' i (kput k sv' fs) gs := by
  induction r with
  | nil => intro _ h; cases h
  | @cons x sv v fs gs ra rb ih =>
    intro hn h
    have hn2 := List.nodup_cons.mp (show (x :: fs.map (·.1)).Nodup from hn)
    unfold kfind at h
    unfold kput
    by_cases ef : x = k
    · subst ef
      rw [if_pos rfl] at h
      rw [if_pos rfl]
      injection h with h
      have h : sv = _ := h
      subst h
      cases ra with
      | own h1 h2 =>
        obtain rfl := g.uq _ _ _ (by intro z; cases z) (by intro z; cases z) h1 g.hw
        refine .cons rs (REs.mono g.kp (fun f' hf' b hb => g.hp _ (fun z => ?_) b hb) rb)
        injection z with _ z
        subst z
        exact hn2.1 hf'
    · rw [if_neg ef] at h
      rw [if_neg ef]
      refine .cons (ra.mono g.kp (fun b hb => g.hp _ (fun z => ?_) b hb)) (ih hn2.2 h)
      injection z with _ z
      exact ef z
theorem fput_keys {α : Type} {f : String} {v w : α} : ∀ {fs : List (String × α)}, ffind f fs = some w → (fput f v fs).map (·.1) = fs.map (·.1)
  | [], h => by cases h
  | (x, y) :: r, h => by
    unfold ffind at h
    rw [List.lookup_cons] at h
    unfold fput
    by_cases e : x = f
    · rw [if_pos e, e]; rfl
    · rw [if_neg e]
      have e1 : (f == x) = false := by simpa using fun z => e z.symm
      rw [e1] at h
      rw [List.map_cons, fput_keys h]; rfl
theorem kput_keys {α : Type} {k : Key} {v w : α} : ∀ {fs : List (Key × α)}, kfind k fs = some w → (kput k v fs).map (·.1) = fs.map (·.1)
  | [], h => by cases h
  | (x, y) :: r, h => by
    unfold kfind at h
    unfold kput
    by_cases e : x = k
    · rw [if_pos e]; rfl
    · rw [if_neg e] at h
      rw [if_neg e, List.map_cons, kput_keys h]; rfl

/-- a place's content, or its label, changes: sv' stands there now -/
theorem RT.putPl (r : RT K M H σ s) {p : Pl} {c : Cont} {sv' : SV} {a : Addr} {s' : S} (e : KW.getPl s p = some (.own c)) (g : Chg K p a s.h.length M H s.h.length M' H') (rs : RS K s.h.length M' H' p sv' (.ref a)) (el : M'.loc = M.loc)
    (wf : ∀ a l, M'.who a = some l → Mx M'.lk a (H' a)) (uq : ∀ a b l, l ≠ .tmp → l ≠ .oth → M'.who a = some l → M'.who b = some l → a = b) (hc : ∀ b j, M.who b = some (.cell j) → M'.who b = some (.cell j) ∧ H' b = H b)
    (hput : KW.putPl s p sv' = some s') : RT K M' H' σ s' := by
  have cells : ∀ i c, s.h[i]? = some c → plIx p ≠ some i → RCell K s.h.length M' H' i c := fun i c q ne => by
    have hi := (List.getElem?_eq_some_iff.mp q).1
    refine (r.hp.cell i c q).keep g.kp hi ?_ fun p' hp' b hb => g.hp p' (fun z => ne (by rw [← z]; exact hp')) b hb
    exact (hc _ _ (r.hp.lb i hi)).2
  have lb : ∀ i, i < s.h.length → M'.who (M'.loc i) = some (.cell i) := fun i hi => by rw [el]; exact (hc _ _ (r.hp.lb i hi)).1
  have slots : ∀ j sv, p ≠ .slot j → s.σ[j]? = some (some sv) → ∃ v, σ[j]? = some (some v) ∧ RS K s.h.length M' H' (.slot j) sv v := fun j sv ne q => by
    obtain ⟨v, h1, h2⟩ := r.sl j sv q
    exact ⟨v, h1, h2.mono g.kp fun b hb => g.hp _ (fun z => ne z.symm) b hb⟩
  cases p with
  | slot j =>
    simp only [KW.putPl] at hput
    injection hput with hput
    subst hput
    refine ⟨⟨wf, lb, uq, fun i c q => cells i c q (by intro z; cases z)⟩, by rw [← r.len]; simp, fun j' sv q => ?_⟩
    by_cases ej : j = j'
    · subst ej
      simp only [KW.getPl] at e
      split at e
      · rename_i sv0 q0
        injection e with e
        subst e
        obtain ⟨v, h1, h2⟩ := r.sl j _ q0
        cases h2 with
        | own h3 h4 =>
          obtain rfl := g.uq _ _ _ (by intro z; cases z) (by intro z; cases z) h3 g.hw
          have hj := (List.getElem?_eq_some_iff.mp q0).1
          have q : (s.σ.set j (some sv'))[j]? = _ := q
          rw [List.getElem?_set_self hj] at q
          injection q with q
          injection q with q
          subst q
          exact ⟨_, h1, rs⟩
      · cases e
    · have q : (s.σ.set j (some sv'))[j']? = _ := q
      rw [List.getElem?_set_ne ej] at q
      exact slots j' sv (fun z => ej (by injection z)) q
  | fld i f =>
    simp only [KW.putPl] at hput
    simp only [KW.getPl] at e
    split at e
    · rename_i cc fs q0
      rw [q0] at hput
      injection hput with hput
      subst hput
      have hi := (List.getElem?_eq_some_iff.mp q0).1
      refine ⟨⟨wf, ?_, uq, fun i' c q => ?_⟩, r.len, fun j sv q => ?_⟩
      · simpa using lb
      · have q : (s.h.set i _)[i']? = _ := q
        show RCell K (s.h.set i _).length M' H' i' c
        rw [List.length_set]
        by_cases ei : i = i'
        · subst ei
          rw [List.getElem?_set_self hi] at q
          injection q with q
          subst q
          cases r.hp.cell i _ q0 with
          | ins h1 h2 h3 =>
            refine .ins (by rw [el, (hc _ _ (r.hp.lb i hi)).2]; exact h1) ?_ (h3.put g rs h2 e)
            rw [fput_keys e]
            exact h2
        · rw [List.getElem?_set_ne ei] at q
          exact cells i' c q (fun z => ei (by injection z))
      · show ∃ v, _ ∧ RS K (s.h.set i _).length M' H' _ _ _
        rw [List.length_set]
        exact slots j sv (by intro z; cases z) q
    · cases e
  | ent i k =>
    simp only [KW.putPl] at hput
    simp only [KW.getPl] at e
    split at e
    · rename_i kvs q0
      rw [q0] at hput
      injection hput with hput
      subst hput
      have hi := (List.getElem?_eq_some_iff.mp q0).1
      refine ⟨⟨wf, ?_, uq, fun i' c q => ?_⟩, r.len, fun j sv q => ?_⟩
      · simpa using lb
      · have q : (s.h.set i _)[i']? = _ := q
        show RCell K (s.h.set i _).length M' H' i' c
        rw [List.length_set]
        by_cases ei : i = i'
        · subst ei
          rw [List.getElem?_set_self hi] at q
          injection q with q
          subst q
          cases r.hp.cell i _ q0 with
          | dct h1 h2 h3 =>
            refine .dct (by rw [el]; exact rd_eq h1 (hc _ _ (r.hp.lb i hi)).2) ?_ (h3.put g rs h2.nd e)
            rw [kput_keys e]
            exact h2
        · rw [List.getElem?_set_ne ei] at q
          exact cells i' c q (fun z => ei (by injection z))
      · show ∃ v, _ ∧ RS K (s.h.set i _).length M' H' _ _ _
        rw [List.length_set]
        exact slots j sv (by intro z; cases z) q
    · cases e

/-- one object is written: it was somebody's -/
theorem keep_upd (wf : ∀ a l, M.who a = some l → Mx M.lk a (H a)) {a : Addr} {l : Lb} {o : HO} (hw : M.who a = some l) : Keep n M H n M (upd H a o) :=
  ⟨wf, fun b o' q z => ⟨by rw [upd_ne (fun e => by rw [e, hw] at z; cases z)]; exact q, z⟩, fun _ _ => rfl, Nat.le_refl _⟩
theorem wf_upd (wf : ∀ a l, M.who a = some l → Mx M.lk a (H a)) {a : Addr} {o : HO} (hm : Mut (some o)) : ∀ b l, M.who b = some l → Mx M.lk b ((upd H a o) b) := fun b l q => by
  by_cases e : b = a
  · subst e; rw [upd_same]; exact .inl hm
  · rw [upd_ne e]; exact wf b l q
theorem ext_upd {a : Addr} {l : Lb} {o : HO} (hw : M.who a = some l) (h1 : l ≠ .tmp) (h2 : l ≠ .oth) : Ext n M H n M (upd H a o) := by
  refine ⟨fun b o' q p => ?_, fun b q => ?_, fun _ _ => rfl, Nat.le_refl _, fun _ h => .inl h, rfl⟩
  · have ne : b ≠ a := fun e => by
      subst e
      rcases p with p | p | p <;> rw [hw] at p
      · cases p
      · injection p with p; exact h1 p
      · injection p with p; exact h2 p
    exact ⟨by rw [upd_ne ne]; exact q, rfl⟩
  · by_cases e : b = a
    · subst e; rw [upd_same] at q; cases q
    · rw [upd_ne e] at q; exact q
/-- a place's list or dict is changed -/
theorem RT.wrPl (r : RT K M H σ s) {p : Pl} {c c' : Cont} {a : Addr} {s' : S} {o : HO} (e : KW.getPl s p = some (.own c)) (hw : M.who a = some (.pl p)) (hm : Mut (some o)) (rc : RC K s.h.length M (upd H a o) c' a)
    (hput : KW.putPl s p (.own c') = some s') : RT K M (upd H a o) σ s' ∧ Ext s.h.length M H s'.h.length M (upd H a o) := by
  have hl : s'.h.length = s.h.length := by
    cases p <;> simp only [KW.putPl] at hput
    · injection hput with hput; subst hput; rfl
    all_goals
      split at hput
      · injection hput with hput; subst hput; simp
      · cases hput
  refine ⟨r.putPl e ⟨keep_upd r.hp.wf hw, r.hp.uq, hw, fun q ne b hb => ⟨hb, upd_ne fun z => ?_⟩⟩ (.own hw rc) rfl (wf_upd r.hp.wf hm) r.hp.uq (fun b j hb => ⟨hb, upd_ne fun z => ?_⟩) hput, ?_⟩
  · subst z
    rw [hw] at hb
    injection hb with hb
    injection hb with hb
    exact ne hb.symm
  · subst z
    rw [hw] at hb
    cases hb
  · rw [hl]
    exact ext_upd hw (by intro z; cases z) (by intro z; cases z)
/-- a cell's list is changed -/
theorem RT.wrCell (r : RT K M H σ s) {i : Nat} {c c' : Cell} {o : HO} (e : s.h[i]? = some c) (hm : Mut (some o)) (rc : RCell K s.h.length M (upd H (M.loc i) o) i c') :
    RT K M (upd H (M.loc i) o) σ { s with h := s.h.set i c' } ∧ Ext s.h.length M H (s.h.set i c').length M (upd H (M.loc i) o) := by
  have hi := (List.getElem?_eq_some_iff.mp e).1
  have hw := r.hp.lb i hi
  have kp : Keep s.h.length M H s.h.length M (upd H (M.loc i) o) := keep_upd r.hp.wf hw
  have pl : ∀ p b, M.who b = some (.pl p) → (upd H (M.loc i) o) b = H b := fun p b hb => upd_ne fun z => by rw [z, hw] at hb; cases hb
  refine ⟨⟨⟨wf_upd r.hp.wf hm, ?_, r.hp.uq, fun i' c2 q => ?_⟩, r.len, fun j sv q => ?_⟩, by rw [List.length_set]; exact ext_upd hw (by intro z; cases z) (by intro z; cases z)⟩
  · simpa using r.hp.lb
  · have q : (s.h.set i c')[i']? = _ := q
    show RCell K (s.h.set i c').length _ _ _ _
    rw [List.length_set]
    by_cases ei : i = i'
    · subst ei
      rw [List.getElem?_set_self hi] at q
      injection q with q
      subst q
      exact rc
    · rw [List.getElem?_set_ne ei] at q
      have hi' := (List.getElem?_eq_some_iff.mp q).1
      refine (r.hp.cell i' c2 q).keep kp hi' (upd_ne fun z => ?_) fun p _ b hb => ⟨hb, pl p b hb⟩
      have := r.hp.lb i' hi'
      rw [z, hw] at this
      injection this with this
      injection this with this
      exact ei this
  · obtain ⟨v, h1, h2⟩ := r.sl j sv q
    refine ⟨v, h1, ?_⟩
    show RS K (s.h.set i c').length _ _ _ _ _
    rw [List.length_set]
    exact h2.mono kp fun b hb => ⟨hb, pl _ b hb⟩
end
end KW
/-! KwState2: slots, new cells, freezing. -/
namespace KW
open PySem (Str Addr Value Program World Heap Operator CmpOp)
open L2 (V Hp HO upd upd_same upd_ne upd_upd SqL SqT Rd RelV Mut VK)
section
variable {K : Fr} {n n' n'' : Nat} {M M' M'' : MM} {H H' H'' : Hp} {σ : L2.St} {s : S} {h : List Cell}
/-- a place is given up -/
def MM.drop (M : MM) (p : Pl) : MM := { M with who := fun a => if M.who a = some (.pl p) then some .oth else M.who a }
theorem drop_of {p : Pl} {a : Addr} (h : M.who a ≠ some (.pl p)) : (M.drop p).who a = M.who a := by simp [MM.drop, h]
theorem drop_at {p : Pl} {a : Addr} (h : M.who a = some (.pl p)) : (M.drop p).who a = some .oth := by simp [MM.drop, h]
theorem drop_inv {p : Pl} {a : Addr} {l : Lb} (h : (M.drop p).who a = some l) (hl : l ≠ .oth) : M.who a = some l := by
  by_cases e : M.who a = some (.pl p)
  · rw [drop_at e] at h; injection h with h; exact absurd h.symm hl
  · rw [drop_of e] at h; exact h
theorem drop_some {p : Pl} {a : Addr} {l : Lb} (h : (M.drop p).who a = some l) : ∃ l', M.who a = some l' := by
  by_cases e : M.who a = some (.pl p)
  · exact ⟨_, e⟩
  · rw [drop_of e] at h; exact ⟨_, h⟩
theorem drop_nl {p : Pl} : ∀ b, isLoc ((M.drop p).who b) = true → isLoc (M.who b) = true ∨ H b = none := fun b h => by
  cases e : (M.drop p).who b with
  | none => rw [e] at h; cases h
  | some l =>
    rw [e] at h
    rw [drop_inv e (by intro z; subst z; cases h)]
    exact .inl h
theorem drop_none {p : Pl} {a : Addr} (h : M.who a = none) : (M.drop p).who a = none := by rw [drop_of (by rw [h]; intro z; cases z)]; exact h
/-- a slot is set -/
theorem RT.asgn (r : RT K M H σ s) {j : Nat} {sv : SV} {v : V} (el : M'.loc = M.loc) (wf : ∀ a l, M'.who a = some l → Mx M'.lk a (H a)) (uq : ∀ a b l, l ≠ .tmp → l ≠ .oth → M'.who a = some l → M'.who b = some l → a = b)
    (hn : ∀ a, M.who a = none → M'.who a = none) (hp : ∀ a l, M.who a = some l → l ≠ .tmp → l ≠ .oth → l ≠ .pl (.slot j) → M'.who a = some l) (rs : RS K s.h.length M' H (.slot j) sv v) :
    RT K M' H (σ.set j (some v)) { s with σ := s.σ.set j (some sv) } := by
  have kp : Keep s.h.length M H s.h.length M' H := ⟨r.hp.wf, fun a o q z => ⟨q, hn a z⟩, fun _ _ => by rw [el], Nat.le_refl _⟩
  refine ⟨r.hp.relab el wf uq (fun a z _ => hn a z) (fun a l q h1 h2 => hp a l q (by intro z; subst z; cases h1) h2 (by intro z; subst z; cases h1)), by simp [r.len], fun j' sv' q => ?_⟩
  have q : (s.σ.set j (some sv))[j']? = _ := q
  by_cases ej : j = j'
  · subst ej
    by_cases hj : j < s.σ.length
    · rw [List.getElem?_set_self hj] at q
      injection q with q
      injection q with q
      subst q
      exact ⟨v, by rw [List.getElem?_set_self (by rw [← r.len]; exact hj)], rs⟩
    · rw [List.getElem?_eq_none (by simpa using hj)] at q; cases q
  · rw [List.getElem?_set_ne ej] at q
    obtain ⟨w, h1, h2⟩ := r.sl j' sv' q
    refine ⟨w, by rw [List.getElem?_set_ne ej]; exact h1, h2.mono kp fun b hb => ⟨hp b _ hb (by intro z; cases z) (by intro z; cases z) (fun z => ej (by injection z with z; injection z with z; exact z.symm)), rfl⟩⟩
theorem RT.asgnV (r : RT K M H σ s) {j : Nat} {d : D} {v : V} (rd : RD K s.h.length M H d v) : RT K (M.drop (.slot j)) H (σ.set j (some v)) { s with σ := s.σ.set j (some (.val d)) } ∧ ExtS s.h.length M H s.h.length (M.drop (.slot j)) H := by
  have kp : Keep s.h.length M H s.h.length (M.drop (.slot j)) H := ⟨r.hp.wf, fun a o q z => ⟨q, drop_none z⟩, fun _ _ => rfl, Nat.le_refl _⟩
  refine ⟨r.asgn rfl (fun a l q => ?_) (fun a b l h1 h2 ea eb => r.hp.uq a b l h1 h2 (drop_inv ea h2) (drop_inv eb h2)) (fun a q => drop_none q) (fun a l q _ _ h3 => by rw [drop_of (by rw [q]; intro z; injection z with z; exact h3 z)]; exact q) (.val (rd.mono kp)), ?_⟩
  · obtain ⟨l', q⟩ := drop_some q
    exact r.hp.wf a l' q
  · refine ⟨fun a o q p => ⟨q, ?_⟩, fun _ q => q, fun _ _ => rfl, Nat.le_refl _, drop_nl, rfl⟩
    exact drop_of (by rcases p with p | p <;> rw [p] <;> intro z <;> cases z)
theorem RT.asgnO (r : RT K M H σ s) {j : Nat} {c : Cont} {a : Addr} (ha : M.who a = some .tmp) (rc : RC K s.h.length M H c a) :
    RT K ((M.drop (.slot j)).set a (some (.pl (.slot j)))) H (σ.set j (some (.ref a))) { s with σ := s.σ.set j (some (.own c)) } ∧ ExtS s.h.length M H s.h.length ((M.drop (.slot j)).set a (some (.pl (.slot j)))) H := by
  have sn : ∀ {b}, b ≠ a → ((M.drop (.slot j)).set a (some (.pl (.slot j)))).who b = (M.drop (.slot j)).who b := fun ne => MM.set_ne ne
  have nn : ∀ b, M.who b = none → b ≠ a := fun b q z => by rw [z, ha] at q; cases q
  have kp : Keep s.h.length M H s.h.length ((M.drop (.slot j)).set a (some (.pl (.slot j)))) H := ⟨r.hp.wf, fun b o q z => ⟨q, by rw [sn (nn b z)]; exact drop_none z⟩, fun _ _ => rfl, Nat.le_refl _⟩
  have no : ∀ b, ((M.drop (.slot j)).set a (some (.pl (.slot j)))).who b = some (.pl (.slot j)) → b = a := fun b q => by
    by_cases z : b = a
    · exact z
    · rw [sn z] at q
      have := drop_inv q (by intro z; cases z)
      rw [drop_at this] at q
      cases q
  refine ⟨r.asgn rfl (fun b l q => ?_) (fun b b' l h1 h2 ea eb => ?_) (fun b q => by rw [sn (nn b q)]; exact drop_none q) (fun b l q h1 _ h3 => ?_) (.own MM.set_same (rc.mono kp rfl)), ?_⟩
  · by_cases z : b = a
    · subst z; exact r.hp.wf b _ ha
    · rw [sn z] at q
      obtain ⟨l', q⟩ := drop_some q
      exact r.hp.wf b l' q
  · by_cases el : l = .pl (.slot j)
    · subst el; rw [no b ea, no b' eb]
    · have f : ∀ c, ((M.drop (.slot j)).set a (some (.pl (.slot j)))).who c = some l → M.who c = some l := fun c q => by
        by_cases z : c = a
        · subst z; rw [MM.set_same] at q; injection q with q; exact absurd q.symm el
        · rw [sn z] at q; exact drop_inv q h2
      exact r.hp.uq b b' l h1 h2 (f _ ea) (f _ eb)
  · rw [sn (fun z => by rw [z, ha] at q; injection q with q; exact h1 q.symm), drop_of (by rw [q]; intro z; injection z with z; exact h3 z)]
    exact q
  · refine ⟨fun b o q p => ⟨q, ?_⟩, fun _ q => q, fun _ _ => rfl, Nat.le_refl _, fun b h => ?_, rfl⟩
    rotate_left
    · by_cases z : b = a
      · subst z; rw [ha]; exact .inl rfl
      · rw [sn z] at h; exact drop_nl b h
    have ne : b ≠ a := fun z => by rw [z, ha] at p; rcases p with p | p <;> cases p
    rw [sn ne]
    exact drop_of (by rcases p with p | p <;> rw [p] <;> intro z <;> cases z)
/-- a place is let be for good -/
theorem RT.frzPl (r : RT K M H σ s) {p : Pl} {c : Cont} {s' : S} {a : Addr} (e : KW.getPl s p = some (.own c)) (hw : M.who a = some (.pl p)) (rc : RC K s.h.length M H c a) (hput : KW.putPl s p (.val c.fz) = some s') :
    RT K (M.set a none) H σ s' ∧ Ext s.h.length M H s'.h.length (M.set a none) H ∧ RD K s'.h.length (M.set a none) H c.fz (.ref a) := by
  have hl : s'.h.length = s.h.length := by
    cases p <;> simp only [KW.putPl] at hput
    · injection hput with hput; subst hput; rfl
    all_goals
      split at hput
      · injection hput with hput; subst hput; simp
      · cases hput
  have ne : ∀ b l, M.who b = some l → l ≠ .pl p → b ≠ a := fun b l q h z => by rw [z, hw] at q; injection q with q; exact h q.symm
  have kp : Keep s.h.length M H s.h.length (M.set a none) H := ⟨r.hp.wf, fun b o q z => ⟨q, by
    rw [MM.set_ne (fun e => by rw [e, hw] at z; cases z)]; exact z⟩, fun _ _ => rfl, Nat.le_refl _⟩
  have rd := rc.fz kp
  refine ⟨r.putPl e ⟨kp, r.hp.uq, hw, fun q nq b hb => ⟨?_, rfl⟩⟩ (.val rd) rfl (fun b l q => ?_) (fun b b' l h1 h2 ea eb => ?_) (fun b j hb => ⟨?_, rfl⟩) hput, ?_, by rw [hl]; exact rd⟩
  · rw [MM.set_ne (ne b _ hb (fun z => nq (by injection z)))]; exact hb
  · by_cases z : b = a
    · subst z; rw [MM.set_same] at q; cases q
    · rw [MM.set_ne z] at q; exact r.hp.wf b l q
  · by_cases z : b = a
    · subst z; rw [MM.set_same] at ea; cases ea
    · by_cases z' : b' = a
      · subst z'; rw [MM.set_same] at eb; cases eb
      · rw [MM.set_ne z] at ea; rw [MM.set_ne z'] at eb; exact r.hp.uq b b' l h1 h2 ea eb
  · rw [MM.set_ne (ne b _ hb (by intro z; cases z))]; exact hb
  · rw [hl]
    refine ⟨fun b o q p => ⟨q, ?_⟩, fun _ q => q, fun _ _ => rfl, Nat.le_refl _, nl_set (fun _ h => .inl h), rfl⟩
    rw [MM.set_ne fun z => ?_]
    rw [z, hw] at p
    rcases p with p | p | p <;> cases p
/-- one more cell -/
theorem RT.snoc (r : RT K M H σ s) {c : Cell} (kp : Keep s.h.length M H (s.h.length + 1) M' H') (wf : ∀ a l, M'.who a = some l → Mx M'.lk a (H' a)) (uq : ∀ a b l, l ≠ .tmp → l ≠ .oth → M'.who a = some l → M'.who b = some l → a = b)
    (hl : M'.who (M'.loc s.h.length) = some (.cell s.h.length)) (hp : ∀ a l, M.who a = some l → l ≠ .tmp → l ≠ .oth → l ≠ .cell s.h.length → M'.who a = some l ∧ H' a = H a) (rc : RCell K (s.h.length + 1) M' H' s.h.length c) :
    RT K M' H' σ { s with h := s.h ++ [c] } := by
  refine ⟨⟨wf, fun i hi => ?_, uq, fun i c' q => ?_⟩, r.len, fun j sv q => ?_⟩
  · have hi : i < (s.h ++ [c]).length := hi
    rw [List.length_append] at hi
    by_cases e : i = s.h.length
    · subst e; exact hl
    · have hi' : i < s.h.length := by simp at hi; omega
      rw [kp.loc i hi']
      exact (hp _ _ (r.hp.lb i hi') (by intro z; cases z) (by intro z; cases z) (by intro z; injection z with z; omega)).1
  · have q : (s.h ++ [c])[i]? = some c' := q
    show RCell K (s.h ++ [c]).length M' H' i c'
    rw [List.length_append]
    by_cases hi : i < s.h.length
    · rw [List.getElem?_append_left hi] at q
      refine (r.hp.cell i c' q).keep kp hi (hp _ _ (r.hp.lb i hi) (by intro z; cases z) (by intro z; cases z) (by intro z; injection z with z; omega)).2 fun p _ b hb => hp b _ hb (by intro z; cases z) (by intro z; cases z) (by intro z; cases z)
    · rw [List.getElem?_append_right (by omega)] at q
      by_cases e : i = s.h.length
      · subst e
        simp at q
        subst q
        exact rc
      · rw [List.getElem?_eq_none (by simp; omega)] at q; cases q
  · obtain ⟨v, h1, h2⟩ := r.sl j sv q
    refine ⟨v, h1, ?_⟩
    show RS K (s.h ++ [c]).length M' H' _ _ _
    rw [List.length_append]
    exact h2.mono kp fun b hb => hp b _ hb (by intro z; cases z) (by intro z; cases z) (by intro z; cases z)
/-- a place for one more cell -/
def MM.newCell (M : MM) (n : Nat) (a : Addr) : MM := { lk := M.lk, loc := fun i => if i = n then a else M.loc i, who := fun b => if b = a then some (.cell n) else if M.who b = some (.cell n) then some .oth else M.who b }
theorem newCell_at {n : Nat} {a : Addr} : (M.newCell n a).who a = some (.cell n) := by simp [MM.newCell]
theorem newCell_ne {n : Nat} {a b : Addr} (h : b ≠ a) (h2 : M.who b ≠ some (.cell n)) : (M.newCell n a).who b = M.who b := by simp [MM.newCell, h, h2]
theorem newCell_inv {n : Nat} {a b : Addr} {l : Lb} (h : (M.newCell n a).who b = some l) (hl : l ≠ .oth) (hc : l ≠ .cell n) : M.who b = some l := by
  by_cases e : b = a
  · subst e; rw [newCell_at] at h; injection h with h; exact absurd h.symm hc
  · by_cases e2 : M.who b = some (.cell n)
    · simp [MM.newCell, e, e2] at h; exact absurd h.symm hl
    · rw [newCell_ne e e2] at h; exact h
theorem newCell_cell {n : Nat} {a b : Addr} (h : (M.newCell n a).who b = some (.cell n)) : b = a := by
  by_cases e : b = a
  · exact e
  · by_cases e2 : M.who b = some (.cell n)
    · simp [MM.newCell, e, e2] at h
    · rw [newCell_ne e e2] at h; exact absurd h e2
theorem newCell_some {n : Nat} {a b : Addr} {l : Lb} (h : (M.newCell n a).who b = some l) : b = a ∨ ∃ l', M.who b = some l' := by
  by_cases e : b = a
  · exact .inl e
  · by_cases e2 : M.who b = some (.cell n)
    · exact .inr ⟨_, e2⟩
    · rw [newCell_ne e e2] at h; exact .inr ⟨_, h⟩
theorem newCell_nl {n : Nat} {a : Addr} {M0 : MM} {H0 : Hp} (e : ∀ b, isLoc (M.who b) = true → isLoc (M0.who b) = true ∨ H0 b = none) : ∀ b, isLoc ((M.newCell n a).who b) = true → isLoc (M0.who b) = true ∨ H0 b = none := fun b h => by
  cases q : (M.newCell n a).who b with
  | none => rw [q] at h; cases h
  | some l =>
    rw [q] at h
    refine e b ?_
    rw [newCell_inv q (by intro z; subst z; cases h) (by intro z; subst z; cases h)]
    exact h
theorem newCell_loc {n : Nat} {a : Addr} : (M.newCell n a).loc n = a := by simp [MM.newCell]
theorem newCell_old {n i : Nat} {a : Addr} (h : i < n) : (M.newCell n a).loc i = M.loc i := by
  have : i ≠ n := by omega
  simp [MM.newCell, this]
theorem newCell_uq {n : Nat} {a : Addr} (uq : ∀ a b l, l ≠ .tmp → l ≠ .oth → M.who a = some l → M.who b = some l → a = b) : ∀ b c l, l ≠ .tmp → l ≠ .oth → (M.newCell n a).who b = some l → (M.newCell n a).who c = some l → b = c := fun b c l h1 h2 eb ec => by
  by_cases e : l = .cell n
  · subst e; rw [newCell_cell eb, newCell_cell ec]
  · exact uq b c l h1 h2 (newCell_inv eb h2 e) (newCell_inv ec h2 e)
/-- a new list or dict becomes a cell -/
theorem RT.box (r : RT K M H σ s) {c : Cont} {c' : Cell} {a : Addr} (ha : M.who a = some .tmp) (rc : RCell K (s.h.length + 1) (M.newCell s.h.length a) H s.h.length c') :
    RT K (M.newCell s.h.length a) H σ { s with h := s.h ++ [c'] } ∧ Keep s.h.length M H (s.h.length + 1) (M.newCell s.h.length a) H := by
  have nn : ∀ b, M.who b = none → b ≠ a := fun b q z => by rw [z, ha] at q; cases q
  have kp : Keep s.h.length M H (s.h.length + 1) (M.newCell s.h.length a) H := ⟨r.hp.wf, fun b o q z => ⟨q, by rw [newCell_ne (nn b z) (by rw [z]; intro e; cases e)]; exact z⟩, fun i hi => newCell_old hi, Nat.le_succ _⟩
  refine ⟨r.snoc kp (fun b l q => ?_) (newCell_uq r.hp.uq) (by rw [newCell_loc]; exact newCell_at) (fun b l q h1 h2 h3 => ⟨?_, rfl⟩) rc, kp⟩
  · rcases newCell_some q with e | ⟨l', e⟩
    · subst e; exact r.hp.wf _ _ ha
    · exact r.hp.wf _ _ e
  · rw [newCell_ne (fun z => ?_) (by rw [q]; intro z; injection z with z; exact h3 z)]
    · exact q
    · rw [z, ha] at q; injection q with q; exact h1 q.symm
def cellOf : Cont → Cell
  | .lst xs => .lst xs
  | .dct kvs => .dct (plainEs kvs)
theorem RC.cell {c : Cont} {a : Addr} {n : Nat} (h : RC K n M H c a) (k : Keep n M H (n + 1) (M.newCell n a) H) : RCell K (n + 1) (M.newCell n a) H n (cellOf c) := by
  cases h with
  | lst h hs => exact .lst (by rw [newCell_loc]; exact h) (hs.mono k)
  | @dct _ kvs ks vs h hk hn hs =>
    refine .dct (by rw [newCell_loc]; exact h) ?_ ?_
    · have : (plainEs kvs).map (·.1) = kvs.map (·.1) := by simp
      rw [this]; exact hn
    · subst hk
      clear hn h
      induction kvs generalizing vs with
      | nil => exact .nil
      | cons q r ih =>
        cases hs with
        | cons a b => exact .cons (.val (a.mono k)) (ih b)
end
end KW
/-! KwTerm: the rules of the terms. -/
namespace KW
open PySem (Str Addr Value Program World Heap Operator CmpOp binaryOp compareOp PyData Scope Const Env)
open PySem.Spec PyProof.Rows
open L2 (V Hp HO upd upd_same upd_ne upd_upd SqL SqT Rd RelV Mut TE TT TA TS WX PE PT PW PA PS PSs Cx Inv OpR UnR CallR MtR IxR SlR TruR VK EP XK rI0)

/-- a def at hand -/
def CallOk (X : Cx) (C : CallF) (f : String) (a : Addr) : Prop := ∃ fd ps k, PySem.W.keepIn X.K (.ref a) = true ∧ L2.Binds X.K fd ps [] ∧ L2.FnOk X.prog X.w X.K X.mg X.base (L2.CX X.prog X.w) k a fd ps (spOf X.K C f) ∧ L2.Room (k + 1) X.A
/-- the names of the built-ins that are used -/
def bltNames : List String := ["len", "abs", "int", "str", "ord", "list", "tuple", "sorted", "sum", "all", "any", "min", "max", "isinstance", "set", "range", "enumerate"]
/-- a dict of the top that nobody changes -/
def TabOk (K : Fr) (w : World) (mg : Str → Option Value) (x : String) (kvs : List (T × D)) : Prop := ∃ d es n, mg (sst x) = some (.ref d) ∧ L2.KDict K w d es n ∧ ∀ t : T, match tfind t kvs with
  | some dd => ∃ u v, PySem.W.nsIn K d (mst t) = some (some u) ∧ RelV v u ∧ ∀ n M H, RD K n M H dd v
  | none => PySem.W.nsIn K d (mst t) = some none
/-- a list of texts of the top that nobody changes -/
def LsOk (K : Fr) (mg : Str → Option Value) (x : String) (ts : List T) : Prop := ∃ a, mg (sst x) = some (.ref a) ∧ (∀ t ∈ ts, okT t) ∧ ∀ H, SqL K H a ((ts.map mst).map V.str)
/-- what a body's context has -/
structure Ev (G : Tabs) (X : Cx) (W : WX) (C : CallF) : Prop where
  hu : X.A.units + 65 < PySem.cLine
  calm : X.calm = true
  nd : X.N.Nodup
  tk : L2.Takes X W
  bl : ∀ x ∈ bltNames, X.mg (sst x) = none
  gl : ∀ x d, (G.gl.any fun q => q.1 == x && beqD q.2 d) = true → GlobOk X.K X.mg x d
  tb : ∀ x kvs, (G.tb.any fun q => q.1 == x && beqTs q.2 kvs) = true → TabOk X.K X.w X.mg x kvs
  ls : ∀ x ts, (G.ls.any fun q => q.1 == x && decide (q.2 = ts)) = true → LsOk X.K X.mg x ts
  fs : ∀ f, G.fs.contains f = true → ∃ a, X.mg (sst f) = some (.ref a) ∧ CallOk X C f a
  cs : ∀ c, G.cs.contains c = true → ∃ f, X.mg (sst c) = some (.ref (cA X.K c)) ∧ L2.Mk X.K (cA X.K c) f ∧ CallOk X C (c ++ ".__init__") f
  ms : ∀ c m, G.ms.contains (c, m) = true → ∃ f, L2.Cls X.K (cA X.K c) ∧ L2.Meth X.K (cA X.K c) (sst m) f ∧ CallOk X C (c ++ "." ++ m) f
  fl : ∀ c f, G.fl.contains (c, f) = true → L2.Cls X.K (cA X.K c) ∧ L2.NoAttr X.K (cA X.K c) (sst f)
section
variable {G : Tabs} {X : Cx} {W : WX} {C : CallF} {σ : L2.St} {H : Hp} {Q : VK}
/-- a term's two readings -/
structure P2 (X : Cx) (W : WX) (C : CallF) (e : E) (p : Py) : Prop where
  v : PE X p (tE X.K W C e)
  t : PT X p (tT X.K W C e)
theorem P2.of {e : E} {p : Py} (h : PE X p (tE X.K W C e)) (he : ∀ whole, PySem.isTrue p X.env whole = (do let v ← whole; PySem.standAt p.pos; PySem.holding [v] (PySem.truthy v))) : P2 X W C e p := ⟨h, p_test h he⟩

/-! ### lists of terms -/
theorem noStar_eq {e : Py} (h : noStarB e = true) (es : List Py) (env : Env) : PySem.starEach (e :: es) env = (false, PySem.eval e env) :: PySem.starEach es env := by
  cases e <;> first | rfl | cases h
theorem noStar_any {pos : PySem.Pos} {env : Env} : ∀ {es : List Py}, es.all noStarB = true → (PySem.backTo pos (PySem.starEach es env)).any (·.1) = false
  | [], _ => rfl
  | e :: es, h => by
    obtain ⟨h1, h2⟩ := Bool.and_eq_true_iff.mp (show (noStarB e && es.all noStarB) = true from h)
    rw [noStar_eq h1]
    have := noStar_any (pos := pos) (env := env) h2
    simpa [PySem.backTo] using this
theorem noStar_all {pos : PySem.Pos} {env : Env} {es : List Py} (h : es.all noStarB = true) : (PySem.backTo pos (PySem.starEach es env)).all (fun x => !x.1) = true := by
  have := noStar_any (pos := pos) (env := env) h
  rw [List.any_eq_false] at this
  rw [List.all_eq_true]
  intro x hx
  simpa using this x hx
theorem few_ok {pos : PySem.Pos} {env : Env} {es : List Py} (h : es.all noStarB = true) (hl : es.length < 20) : ((PySem.backTo pos (PySem.starEach es env)).all (fun x => !x.1) && (PySem.backToKw pos (PySem.keywordEach [] env)).all (fun x => x.1.isSome)
      && decide (es.length + ([] : List PySem.Keyword).length + (if ([] : List PySem.Keyword).isEmpty then 0 else 1) < 30)) = true := by
  rw [noStar_all h]
  simp [PySem.keywordEach, PySem.backToKw]
  omega
theorem base_ok {o : Py} (h : baseB o = true) (m : Str) (env : Env) : PySem.attributeBase o m env (PySem.eval o env) = PySem.eval o env := by
  unfold PySem.attributeBase
  split
  · cases h
  · rfl
end
end KW
/-! KwTerm2: operations as terms. -/
namespace KW
open PySem (Str Addr Value Program World Heap Operator CmpOp binaryOp compareOp PyData Scope Const Env)
open PySem.Spec PyProof.Rows
open L2 (V Hp HO upd upd_same upd_ne upd_upd SqL SqT Rd RelV Mut TE TT TA TS WX PE PT PW PA PS PSs Cx Inv OpR UnR CallR MtR IxR SlR TruR VK EP XK rI0)
section
variable {G : Tabs} {X : Cx} {W : WX} {C : CallF} {σ : L2.St} {H : Hp} {Q : VK}
theorem pa_one {b : Py} {t : TE} (hs : noStarB b = true) (h : PE X b t) : PA X [b] (L2.tCons t L2.tNil) := L2.pa_cons h L2.pa_nil (noStar_eq hs _ _)
theorem pa_two {b c : Py} {t u : TE} (hs : noStarB b = true) (hs2 : noStarB c = true) (h : PE X b t) (h2 : PE X c u) : PA X [b, c] (L2.tCons t (L2.tCons u L2.tNil)) := L2.pa_cons h (pa_one hs2 h2) (noStar_eq hs _ _)
theorem all_one {b : Py} (h : [b].all noStarB = true) : noStarB b = true := by simpa using h
theorem all_two {b c : Py} (h : [b, c].all noStarB = true) : noStarB b = true ∧ noStarB c = true := by simpa using h
theorem isT_call {f : Py} {xs : List Py} {kw : List PySem.Keyword} {pos : PySem.Pos} {env : Env} : ∀ whole, PySem.isTrue (.Call f xs kw pos) env whole = (do let v ← whole; PySem.standAt (PySem.Expr.Call f xs kw pos).pos; PySem.holding [v] (PySem.truthy v)) := fun _ => rfl
/-- f(a), f a built-in function -/
theorem p_fn {x : String} {id : String} {o : Op1} {r : List V → Hp → VK → Prop} {a : E} {b : Py} {p pos : PySem.Pos} (ev : Ev G X W C) (hc : CallR X (.builtin id) r) (ok : Ok1 X.K o (fun v H Q => r [v] H Q)) (hx : x ∈ bltNames)
    (hv : PySem.bootBuiltins (sst x) = some (.builtin id)) (hg : glB X.env.scope (sst x) = true) (hn : nameB (sst x) = true) (hs : [b].all noStarB = true) (h : PE X b (tE X.K W C a)) : P2 X W C (.p1 o a) (.Call (.Name (sst x) p) [b] [] pos) := by
  refine .of ((L2.pe_callB hc (glB_gl hg) (ev.bl x hx) hv (pa_one (all_one hs) h) (nameB_ne hn).2.2 (nameB_ne hn).1 (noStar_eq (all_one hs) _ _) rfl).imp fun σ H Q q => ?_) isT_call
  exact t_p1 ok q
theorem p_ty {x : String} {id : String} {o : Op1} {r : List V → Hp → VK → Prop} {a : E} {b : Py} {p pos : PySem.Pos} (ev : Ev G X W C) (hc : CallR X (.type id) r) (ok : Ok1 X.K o (fun v H Q => r [v] H Q)) (hx : x ∈ bltNames)
    (hv : PySem.bootBuiltins (sst x) = some (.type id)) (hg : glB X.env.scope (sst x) = true) (hn : nameB (sst x) = true) (hs : [b].all noStarB = true) (h : PE X b (tE X.K W C a)) : P2 X W C (.p1 o a) (.Call (.Name (sst x) p) [b] [] pos) := by
  refine .of ((L2.pe_callTy hc (glB_gl hg) (ev.bl x hx) hv (pa_one (all_one hs) h) (nameB_ne hn).2.2 (nameB_ne hn).1 (noStar_eq (all_one hs) _ _) rfl).imp fun σ H Q q => ?_) isT_call
  exact t_p1 ok q
theorem p_fn2 {x : String} {id : String} {o : Op2} {r : L2.R2} {r' : List V → Hp → VK → Prop} {a a2 : E} {b b2 : Py} {p pos : PySem.Pos} (ev : Ev G X W C) (hc : CallR X (.builtin id) r') (hr : ∀ v u H Q, r v u H Q → r' [v, u] H Q) (ok : Ok2 X.K o r) (hx : x ∈ bltNames)
    (hv : PySem.bootBuiltins (sst x) = some (.builtin id)) (hg : glB X.env.scope (sst x) = true) (hn : nameB (sst x) = true) (hs : [b, b2].all noStarB = true) (h : PE X b (tE X.K W C a)) (h2 : PE X b2 (tE X.K W C a2)) : P2 X W C (.p2 o a a2) (.Call (.Name (sst x) p) [b, b2] [] pos) := by
  refine .of ((L2.pe_callB hc (glB_gl hg) (ev.bl x hx) hv (pa_two (all_two hs).1 (all_two hs).2 h h2) (nameB_ne hn).2.2 (nameB_ne hn).1 (noStar_eq (all_two hs).1 _ _) ?_).imp fun σ H Q q => ?_) isT_call
  · exact noStar_any (by simpa using (all_two hs).2)
  · obtain ⟨M, s, rt, q⟩ := t_p2 (r := fun v u H Q => r' [v, u] H Q) (fun M H σ s x y vx vy z Q a b c d e => hr _ _ _ _ (ok M H σ s x y vx vy z Q a b c d e)) q
    exact ⟨M, s, rt, q⟩
end
end KW
/-! KwTerm3: one operand. -/
namespace KW
open PySem (Str Addr Value Program World Heap Operator CmpOp binaryOp compareOp PyData Scope Const Env)
open PySem.Spec PyProof.Rows
open L2 (V Hp HO upd upd_same upd_ne upd_upd SqL SqT Rd RelV Mut TE TT TA TS WX PE PT PW PA PS PSs Cx Inv OpR UnR CallR MtR IxR SlR TruR VK EP XK rI0)
section
variable {G : Tabs} {X : Cx} {W : WX} {C : CallF} {σ : L2.St} {H : Hp} {Q : VK}
theorem vfn_one {sc : Scope} {p b : Py} {f : String} (h : (match vFn sc p with
      | some (x, [b]) => if decide (x = sst f) then some b else none
      | _ => none) = some b) : ∃ q r, p = .Call (.Name (sst f) q) [b] [] r ∧ glB sc (sst f) = true ∧ nameB (sst f) = true ∧ [b].all noStarB = true := by
  split at h
  · rename_i x b' e
    split at h
    · rename_i g
      injection h with h
      subst h
      obtain rfl := of_decide_eq_true g
      obtain ⟨q, r, h1, h2, h3, h4⟩ := vFn_eq e
      exact ⟨q, r, h1, h2, h3, h4⟩
    · cases h
  · cases h
theorem call_int {X : Cx} : CallR X (.type "int") (fun xs H Q => ((∃ i, xs = [V.int i] ∧ Q (.int i) H) ∨ ∃ k, xs = [V.bl k] ∧ Q (.int (if k then 1 else 0)) H) ∨ ∃ a n, xs = [V.str a] ∧ PySem.intText? a = some n ∧ a.length ≤ 640 ∧ Q (.int n) H) := L2.CallR.or L2.call_int1 L2.call_int_str
theorem call_lenD {X : Cx} : CallR X (.builtin "len") (fun xs H Q => ∃ a kvs, xs = [V.ref a] ∧ Rd H a (.dK kvs) ∧ Q (.int kvs.length) H) := by
  intro pins s σ H xs us Q I r h
  obtain ⟨a, kvs, rfl, ha, q⟩ := h
  obtain ⟨u, rfl, ru⟩ := L2.vals1 r
  cases ru
  exact L2.d_len I ha fun t s' I' => ⟨.int kvs.length, H, I', ⟨t, rfl⟩, q⟩
theorem call_len {X : Cx} : CallR X (.builtin "len") (rLen X.K) := L2.CallR.or L2.call_len call_lenD
theorem isT_un {b : Py} {pos : PySem.Pos} {env : Env} : ∀ whole, PySem.isTrue (.UnaryOp .USub b pos) env whole = (do let v ← whole; PySem.standAt (PySem.Expr.UnaryOp .USub b pos).pos; PySem.holding [v] (PySem.truthy v)) := fun _ => rfl
theorem p_neg {a : E} {b : Py} {pos : PySem.Pos} (h : PE X b (tE X.K W C a)) : P2 X W C (.p1 .neg a) (.UnaryOp .USub b pos) :=
  .of ((L2.pe_un L2.un_neg h).imp fun σ H Q q => t_p1 ok_neg q) isT_un

/-! ### is None -/
theorem bl_p1 {o : Op1} {a : E} (ho : ∀ h x z, run1 h o x = some z → ∃ b, z = .val (.bl b)) : ∀ s x s', evalE C (.p1 o a) s = .ok x s' → ∃ b, x = .val (.bl b) := fun s x s' h => by
  simp only [evalE] at h
  obtain ⟨u, s1, _, h⟩ := bind_is h
  exact ho _ _ _ (opt_ok h).1
theorem t_isN {a : E} (h : tE X.K W C (.p1 .isNone a) σ H Q) : L2.tOp (fun x y H Q => y = V.non ∧ Q (.bl (decide (x = .non))) H) (tE X.K W C a) (L2.tC .non) σ H Q := by
  obtain ⟨M, s, rt, h⟩ := h
  refine ⟨M, s, rt, ?_⟩
  simp only [evalE, pure] at h
  refine h.bind anti_relE (fun z => z) fun x s1 M1 H1 v hx e1 p1 rt1 rl1 h1 => ?_
  obtain ⟨z, ez, hz⟩ := (h1 _ fun z => z).op rt1
  obtain ⟨b, e, rfl⟩ := omap (show (oIsNone x).map (fun b => RV.val (.bl b)) = some z from ez)
  refine ⟨rfl, ?_⟩
  rw [ok_isNone (K := X.K) (σ := σ) rl1.1 e]
  exact give rt1 (.bl _) hz
theorem t_notN {a : E} (h : tE X.K W C (.p1 .notNone a) σ H Q) : L2.tOp (fun x y H Q => y = V.non ∧ Q (.bl (!decide (x = .non))) H) (tE X.K W C a) (L2.tC .non) σ H Q := by
  obtain ⟨M, s, rt, h⟩ := h
  refine ⟨M, s, rt, ?_⟩
  simp only [evalE, pure] at h
  refine h.bind anti_relE (fun z => z) fun x s1 M1 H1 v hx e1 p1 rt1 rl1 h1 => ?_
  obtain ⟨z, ez, hz⟩ := (h1 _ fun z => z).op rt1
  obtain ⟨b, e, rfl⟩ := omap (show (oIsNone x).map (fun b => RV.val (.bl (!b))) = some z from ez)
  refine ⟨rfl, ?_⟩
  rw [ok_isNone (K := X.K) (σ := σ) rl1.1 e]
  exact give rt1 (.bl _) hz
theorem nb {op : CmpOp} {b : Py} (h : noSetB b = true) : PySem.behindInMarks op b = false := by
  cases b <;> first | rfl | cases h
theorem p_isN {a : E} {b : Py} {j : Nat} {q pos : PySem.Pos} (h : PE X b (tE X.K W C a)) : P2 X W C (.p1 .isNone a) (.Compare b [.Is] [.Constant .none j q] pos) :=
  ⟨(L2.pe_cmpR L2.op_isN h L2.pe_non rfl).imp fun _ _ _ q => t_isN q, (L2.pt_cmpR L2.op_isN h L2.pe_non rfl).imp fun _ _ _ q => t_isN (t_test (bl_p1 fun h x z e => by
    obtain ⟨b, _, rfl⟩ := omap (show (oIsNone x).map (fun b => RV.val (.bl b)) = some z from e)
    exact ⟨b, rfl⟩) q)⟩
theorem p_notN {a : E} {b : Py} {j : Nat} {q pos : PySem.Pos} (h : PE X b (tE X.K W C a)) : P2 X W C (.p1 .notNone a) (.Compare b [.IsNot] [.Constant .none j q] pos) :=
  ⟨(L2.pe_cmpR L2.op_notN h L2.pe_non rfl).imp fun _ _ _ q => t_notN q, (L2.pt_cmpR L2.op_notN h L2.pe_non rfl).imp fun _ _ _ q => t_notN (t_test (bl_p1 fun h x z e => by
    obtain ⟨b, _, rfl⟩ := omap (show (oIsNone x).map (fun b => RV.val (.bl (!b))) = some z from e)
    exact ⟨_, rfl⟩) q)⟩
/-- proved elsewhere -/
def isMore : Op1 → Bool
  | .sorted | .sortedKeys | .listKeys | .sortedSet | .lenSet | .copy | .minL | .isFalse | .notFalse | .rev | .isTup => true
  | _ => false
/-- one operand -/
theorem p_one {o : Op1} {a : E} {py b : Py} (ev : Ev G X W C) (h : v1 X.env.scope o py = some b) (ih : PE X b (tE X.K W C a)) (more : isMore o = true → P2 X W C (.p1 o a) py) : P2 X W C (.p1 o a) py := by
  cases o with
  | len =>
    obtain ⟨q, r, rfl, h2, h3, h4⟩ := vfn_one h
    exact p_fn ev call_len ok_len (by decide) rfl h2 h3 h4 ih
  | abs =>
    obtain ⟨q, r, rfl, h2, h3, h4⟩ := vfn_one h
    exact p_fn ev L2.call_abs ok_abs (by decide) rfl h2 h3 h4 ih
  | ord =>
    obtain ⟨q, r, rfl, h2, h3, h4⟩ := vfn_one h
    exact p_fn ev L2.call_ord ok_ord (by decide) rfl h2 h3 h4 ih
  | sum =>
    obtain ⟨q, r, rfl, h2, h3, h4⟩ := vfn_one h
    exact p_fn ev (L2.cr_sum ev.calm) ok_sum (by decide) rfl h2 h3 h4 ih
  | all =>
    obtain ⟨q, r, rfl, h2, h3, h4⟩ := vfn_one h
    exact p_fn ev (L2.cr_all ev.calm) ok_all (by decide) rfl h2 h3 h4 ih
  | any =>
    obtain ⟨q, r, rfl, h2, h3, h4⟩ := vfn_one h
    exact p_fn ev (L2.cr_any ev.calm) ok_any (by decide) rfl h2 h3 h4 ih
  | int =>
    obtain ⟨q, r, rfl, h2, h3, h4⟩ := vfn_one h
    exact p_ty ev call_int ok_int (by decide) rfl h2 h3 h4 ih
  | str =>
    obtain ⟨q, r, rfl, h2, h3, h4⟩ := vfn_one h
    exact p_ty ev L2.call_str_int ok_str (by decide) rfl h2 h3 h4 ih
  | list =>
    obtain ⟨q, r, rfl, h2, h3, h4⟩ := vfn_one h
    exact p_ty ev L2.call_list_of ok_list (by decide) rfl h2 h3 h4 ih
  | tuple =>
    obtain ⟨q, r, rfl, h2, h3, h4⟩ := vfn_one h
    exact p_ty ev L2.call_tuple_of ok_tuple (by decide) rfl h2 h3 h4 ih
  | neg =>
    simp only [v1] at h
    split at h
    · injection h with h; subst h; exact p_neg ih
    · cases h
  | isNone =>
    simp only [v1] at h
    split at h
    · rename_i e
      injection h with h; subst h
      obtain ⟨q, rfl, _⟩ := vCmp_eq e
      exact p_isN ih
    · cases h
  | notNone =>
    simp only [v1] at h
    split at h
    · rename_i e
      injection h with h; subst h
      obtain ⟨q, rfl, _⟩ := vCmp_eq e
      exact p_notN ih
    · cases h
  | _ => exact more rfl
end
end KW
/-! KwTerm4: two operands. -/
namespace KW
open PySem (Str Addr Value Program World Heap Operator CmpOp binaryOp compareOp PyData Scope Const Env)
open PySem.Spec PyProof.Rows
open L2 (V Hp HO upd upd_same upd_ne upd_upd SqL SqT Rd RelV Mut TE TT TA TS WX PE PT PW PA PS PSs Cx Inv OpR UnR CallR MtR IxR SlR TruR VK EP XK rI0)

/-! ### places, counts -/
theorem pyds_get : ∀ (ys : List D) (j : Nat), (pyds ys)[j]? = (ys[j]?).map pyd
  | [], _ => by simp [pyds]
  | y :: ys, 0 => by simp [pyds]
  | y :: ys, j + 1 => by simp [pyds, pyds_get ys j]
theorem datas_get : ∀ {ys : List D} {j : Nat} {z : D}, isDatas ys = true → ys[j]? = some z → isData z = true
  | [], _, _, _, h => by simp at h
  | y :: ys, 0, z, g, h => by
    simp at h; subst h
    exact (Bool.and_eq_true_iff.mp (show (isData y && isDatas ys) = true from g)).1
  | y :: ys, j + 1, z, g, h => datas_get (Bool.and_eq_true_iff.mp (show (isData y && isDatas ys) = true from g)).2 (by simpa using h)
theorem ok_index {K : Fr} : Ok2 K .index (fun x y H Q => L2.rIndexD K x [y] H Q) := by
  intro M H σ s x y vx vy z Q rt rx ry hz hq
  obtain ⟨xs, h1, hz⟩ := obind (show oIndex s.h x y = some z from hz)
  obtain ⟨d, h2, hz⟩ := obind hz
  obtain ⟨g, hz⟩ := oif hz
  obtain ⟨j, h3, rfl⟩ := omap hz
  obtain ⟨g1, g2⟩ := Bool.and_eq_true_iff.mp g
  obtain ⟨a, vs, rfl, r1, r2⟩ := lst_at rt rx h1
  obtain ⟨p1, p2⟩ := dp_at rt ry h2 g1
  obtain ⟨p3, p4⟩ := list_shape rt.hp.wf g2 r1 r2
  have hd := (datas_of_shaped g2).1
  obtain ⟨hj, hp, hno⟩ := List.findIdx?_eq_some_iff_getElem.mp h3
  have e : xs[j]? = some xs[j] := List.getElem?_eq_getElem hj
  refine ⟨a, vy, pyd d, pyds xs, j, pyd xs[j], rfl, rfl, p3, p1, p4, p2, by rw [pyds_get, e]; rfl, ?_, fun m z' hm hz' => ?_, give rt (.int _) hq⟩
  · rw [← deq_eqv _ _ (datas_get hd e) (isData_of g1)]; exact hp
  · rw [pyds_get] at hz'
    have em : xs[m]? = some xs[m] := List.getElem?_eq_getElem (by omega)
    rw [em] at hz'
    injection hz' with hz'
    rw [← hz', ← deq_eqv _ _ (datas_get hd em) (isData_of g1)]
    simpa using hno m hm
def rCntB (K : Fr) : V → List V → Hp → VK → Prop := fun x xs H Q => ∃ (p : Addr) (bs : List Bool) (b : Bool), x = .ref p ∧ xs = [.bl b] ∧ SqL K H p (bs.map V.bl) ∧ Q (.int (bs.count b : Nat)) H
theorem bl_dps {K : Fr} {H : Hp} : ∀ bs : List Bool, L2.DpAll K H (bs.map V.bl) (bs.map PyData.bool)
  | [] => .nil
  | b :: bs => .cons (.bl b) (bl_dps bs)
theorem bl_plain : ∀ bs : List Bool, PyData.plainAll (bs.map PyData.bool) = true
  | [] => rfl
  | b :: bs => by
    show (PyData.plain (.bool b) && PyData.plainAll (bs.map PyData.bool)) = true
    rw [bl_plain bs]; rfl
theorem bl_count (b : Bool) : ∀ bs : List Bool, (bs.map PyData.bool).countP (fun y => PyData.eqv y (.bool b)) = bs.count b
  | [] => rfl
  | c :: bs => by
    rw [List.map_cons, List.countP_cons, bl_count b bs, List.count_cons]
    cases b <;> cases c <;> rfl
theorem mt_countB {X : Cx} (hu : X.A.units + 65 < PySem.cLine) : MtR X "list.count" (rCntB X.K) := by
  intro pins s σ H x xs v us Q I rx rxs h
  obtain ⟨p, bs, b, rfl, rfl, hs, q⟩ := h
  cases rx
  obtain ⟨u, rfl, ru⟩ := rxs.one
  obtain rfl : u = .bool b := ru
  obtain ⟨its, rv, ⟨o, n, ho, hc, hdn, hd⟩, hlen⟩ := I.list hs
  obtain ⟨as, ra⟩ := L2.Dp.readsAll I _ _ its (bl_dps bs) rv
  obtain ⟨zs, rz⟩ := L2.Dp.reads I (.bool b) (.bl b) (.bool b) (.bl b) rfl
  refine PySem.SeqAt.count_list_data (vs := its.toArray) ⟨o, ho, hc, n, hd⟩ (show PySem.ReadsAll s.heap its.toArray.toList _ as from ra) rz (bl_plain bs) rfl ?_ ?_
  · have : min (PyData.depthAll (bs.map PyData.bool)) (PyData.bool b).depth ≤ 0 := Nat.min_le_right _ _
    omega
  · rw [bl_count]
    exact ⟨.int _, H, I.tok _, ⟨_, rfl⟩, q⟩
theorem ok_count {K : Fr} : Ok2 K .count (fun x y H Q => rCntB K x [y] H Q) := by
  intro M H σ s x y vx vy z Q rt rx ry hz hq
  obtain ⟨xs, h1, hz⟩ := obind (show oCount s.h x y = some z from hz)
  split at hz
  · obtain ⟨bs, h2, rfl⟩ := omap hz
    obtain ⟨a, vs, rfl, r1, r2⟩ := lst_at rt rx h1
    cases bools_at h2 r2
    cases bl_at ry
    exact ⟨a, bs, _, rfl, rfl, .inl r1, give rt (.int _) hq⟩
  · cases hz
section
variable {G : Tabs} {X : Cx} {W : WX} {C : CallF} {σ : L2.St} {H : Hp} {Q : VK}
theorem isT_bin {a b : Py} {o : Operator} {pos : PySem.Pos} {env : Env} : ∀ whole, PySem.isTrue (.BinOp a o b pos) env whole = (do let v ← whole; PySem.standAt (PySem.Expr.BinOp a o b pos).pos; PySem.holding [v] (PySem.truthy v)) := fun _ => rfl
theorem isT_sub {a b : Py} {pos : PySem.Pos} {env : Env} : ∀ whole, PySem.isTrue (.Subscript a b pos) env whole = (do let v ← whole; PySem.standAt (PySem.Expr.Subscript a b pos).pos; PySem.holding [v] (PySem.truthy v)) := fun _ => rfl
theorem p_bin {o : Op2} {op : Operator} {r : L2.R2} {a b : E} {c d : Py} {pos : PySem.Pos} (ho : OpR X (binaryOp op) r) (ok : Ok2 X.K o r) (ha : PE X c (tE X.K W C a)) (hb : PE X d (tE X.K W C b)) : P2 X W C (.p2 o a b) (.BinOp c op d pos) :=
  .of ((L2.pe_op ho ha hb).imp fun _ _ _ q => t_p2 ok q) isT_bin
theorem p_cmp {o : CmpO} {op : CmpOp} {r : L2.R2} {a b : E} {c d : Py} {pos : PySem.Pos} (ho : OpR X (compareOp op) r) (ok : Ok2 X.K (.cmp o) r) (hs : noSetB d = true) (ha : PE X c (tE X.K W C a)) (hb : PE X d (tE X.K W C b)) : P2 X W C (.p2 (.cmp o) a b) (.Compare c [op] [d] pos) :=
  ⟨(L2.pe_cmpR ho ha hb (nb hs)).imp fun _ _ _ q => t_p2 ok q, (L2.pt_cmpR ho ha hb (nb hs)).imp fun σ H Q q => by
    obtain ⟨M, s, rt, h⟩ := t_p2 ok (t_test cmp_bl q)
    exact ⟨M, s, rt, h⟩⟩
theorem plainIx {b : Py} (h : noSliceB b = true) : L2.PlainIx b := fun o i => by cases b <;> first | rfl | cases h
theorem p_idx {a b : E} {c d : Py} {pos : PySem.Pos} (ev : Ev G X W C) (hs : noSliceB d = true) (ha : PE X c (tE X.K W C a)) (hb : PE X d (tE X.K W C b)) : P2 X W C (.p2 .idx a b) (.Subscript c d pos) :=
  .of ((L2.pe_ix (ix_all (by have := ev.hu; omega)) ha hb (plainIx hs)).imp fun _ _ _ q => t_p2 ok_idx q) isT_sub
/-- a method of one argument -/
theorem t_m2 {o : Op2} {T : String} {r : V → List V → Hp → VK → Prop} {a b : E} (ok : Ok2 X.K o (fun x y H Q => r x [y] H Q)) (ty : ∀ (M : MM) (H : Hp) (σ : L2.St) (s : S) (x : RV) (v : V), RT X.K M H σ s → RR X.K s.h.length M H x v → recv2 s.h o x = true → L2.tyV X.K T v H)
    (h : tE X.K W C (.p2 o a b) σ H Q) : L2.tBM X.K T r (tE X.K W C a) (L2.tCons (tE X.K W C b) L2.tNil) σ H Q := by
  obtain ⟨M, s, rt, h⟩ := h
  refine ⟨M, s, rt, ?_⟩
  simp only [evalE, pure] at h
  refine h.bind anti_relE (fun z => (Bool.and_eq_true_iff.mp z).1) fun x s1 M1 H1 v hx e1 p1 rt1 rl1 h1 => ?_
  have h1 := h1 (pure b) fun z => (Bool.and_eq_true_iff.mp z).2
  by_cases g0 : ((isPk x && !pure b) || !recv2 s1.h o x) = true
  · rw [if_pos g0] at h1; exact h1.2.elim
  rw [if_neg g0] at h1
  have g : ¬ (isPk x && !pure b) = true := fun z => g0 (Bool.or_eq_true_iff.mpr (.inl z))
  have g2 : recv2 s1.h o x = true := by
    cases z : recv2 s1.h o x with
    | true => rfl
    | false => exact absurd (Bool.or_eq_true_iff.mpr (.inr (by rw [z]; rfl))) g0
  refine ⟨ty _ _ _ _ _ _ rt1 rl1.1 g2, M1, s1, rt1, h1.bind anti_relE (fun z => z) fun y s2 M2 H2 u hy e2 p2 rt2 rl2 h2 => ?_⟩
  obtain ⟨z, ez, hz⟩ := (h2 _ fun z => z).op rt2
  have rx : RR X.K s2.h.length M2 H2 x v := by
    cases q : isPk x with
    | false => exact rl1.1.mono rt1.hp.wf e2 q
    | true =>
      have pb : pure b = true := by cases z : pure b with
        | true => rfl
        | false => exact absurd (by rw [q, z]; rfl) g
      obtain ⟨es, gr⟩ := p2 pb
      rw [es]
      exact rl1.1.grow rt1.hp.wf gr
  exact ok M2 H2 σ s2 x y v u z Q rt2 rx rl2.1 ez hz
theorem ty_str {o : Op2} (ho : o = .startswith ∨ o = .join) {K : Fr} : ∀ (M : MM) (H : Hp) (σ : L2.St) (s : S) (x : RV) (v : V), RT K M H σ s → RR K s.h.length M H x v → recv2 s.h o x = true → L2.tyV K "str" v H := by
  intro M H σ s x v rt rr h
  have : ∃ t, x = .val (.str t) := by
    rcases ho with rfl | rfl <;> (simp only [recv2] at h; split at h <;> first | exact ⟨_, rfl⟩ | cases h)
  obtain ⟨t, rfl⟩ := this
  obtain ⟨rfl, _⟩ := str_at rr
  rfl
theorem lst_ty {K : Fr} {M : MM} {H : Hp} {σ : L2.St} {s : S} {x : RV} {v : V} (rt : RT K M H σ s) (rr : RR K s.h.length M H x v) (h : (lstOf s.h x).isSome = true) : L2.tyV K "list" v H := by
  obtain ⟨xs, h⟩ := Option.isSome_iff_exists.mp h
  obtain ⟨a, vs, rfl, r1, _⟩ := lst_at rt rr h
  exact .inl ⟨rfl, vs, .inl r1⟩
theorem ty_lst {o : Op2} (ho : o = .index ∨ o = .count) {K : Fr} : ∀ (M : MM) (H : Hp) (σ : L2.St) (s : S) (x : RV) (v : V), RT K M H σ s → RR K s.h.length M H x v → recv2 s.h o x = true → L2.tyV K "list" v H := by
  intro M H σ s x v rt rr h
  exact lst_ty rt rr (by rcases ho with rfl | rfl <;> exact h)
theorem vm_two {sc : Scope} {py b d : Py} {n : String} (h : v2.vm2 py n = some (b, d)) : ∃ p1 p2, py = .Call (.Attribute b (sst n) p1) [d] [] p2 ∧ baseB b = true ∧ p1.endLine = p2.line ∧ [d].all noStarB = true := by
  unfold v2.vm2 at h
  split at h
  · rename_i b' m d' e
    split at h
    · rename_i g
      injection h with h
      injection h with h1 h2
      subst h1 h2
      obtain rfl := of_decide_eq_true g
      obtain ⟨p1, p2, h1, h2, h3, _, h4⟩ := vAt_eq e
      exact ⟨p1, p2, h1, h2, h3, h4⟩
    · cases h
  · cases h
theorem vf_two {sc : Scope} {py b d : Py} {n : String} (h : v2.vf2 sc py n = some (b, d)) : ∃ q r, py = .Call (.Name (sst n) q) [b, d] [] r ∧ glB sc (sst n) = true ∧ nameB (sst n) = true ∧ [b, d].all noStarB = true := by
  unfold v2.vf2 at h
  split at h
  · rename_i x b' d' e
    split at h
    · rename_i g
      injection h with h
      injection h with h1 h2
      subst h1 h2
      obtain rfl := of_decide_eq_true g
      obtain ⟨q, r, h1, h2, h3, h4⟩ := vFn_eq e
      exact ⟨q, r, h1, h2, h3, h4⟩
    · cases h
  · cases h
theorem p_m2 {o : Op2} {T id n : String} {r : V → List V → Hp → VK → Prop} {a b : E} {c d : Py} {p1 p2 : PySem.Pos} (pa : PySem.PlainAttrs T) (slot : PySem.Slot T (sst n) id) (hty : PySem.typeOf (.builtin id) = Pure.pure (Value.type "method_descriptor")) (hm : MtR X id r)
    (ok : Ok2 X.K o (fun x y H Q => r x [y] H Q)) (ty : ∀ (M : MM) (H : Hp) (σ : L2.St) (s : S) (x : RV) (v : V), RT X.K M H σ s → RR X.K s.h.length M H x v → recv2 s.h o x = true → L2.tyV X.K T v H)
    (hb : baseB c = true) (hl : p1.endLine = p2.line) (hs : [d].all noStarB = true) (ha : PE X c (tE X.K W C a)) (hd : PE X d (tE X.K W C b)) : P2 X W C (.p2 o a b) (.Call (.Attribute c (sst n) p1) [d] [] p2) := by
  refine .of ((L2.pe_bm pa slot hty hm ha (pa_one (all_one hs) hd) (base_ok hb _ _) (few_ok hs (by simp)) (by rw [hl]; exact beq_self_eq_true _) (noStar_eq (all_one hs) _ _) rfl).imp fun σ H Q q => ?_) isT_call
  exact t_m2 ok ty q
def cmpOf : CmpO → CmpOp
  | .eq => .Eq
  | .ne => .NotEq
  | .lt => .Lt
  | .le => .LtE
  | .gt => .Gt
  | .ge => .GtE
  | .isIn => .In
  | .notIn => .NotIn
theorem cmpB_eq {o : CmpO} {q : CmpOp} (h : cmpB o q = true) : q = cmpOf o := by
  cases o <;> cases q <;> first | rfl | cases h
theorem op_any {o : CmpO} (ev : Ev G X W C) : ∃ r, OpR X (compareOp (cmpOf o)) r ∧ Ok2 X.K (.cmp o) r := by
  have hu := ev.hu
  cases o with
  | eq => exact ⟨_, L2.op_eqD (by omega), ok_eq⟩
  | ne => exact ⟨_, op_neAll hu, ok_ne⟩
  | lt => exact ⟨_, L2.op_lt, ok_lt⟩
  | le => exact ⟨_, L2.op_le, ok_le⟩
  | gt => exact ⟨_, L2.op_gt, ok_gt⟩
  | ge => exact ⟨_, L2.op_ge, ok_ge⟩
  | isIn => exact ⟨_, op_inAll hu, ok_in⟩
  | notIn => exact ⟨_, op_notInAll hu, ok_notIn⟩
/-- two operands -/
theorem p_two {o : Op2} {a b : E} {py c d : Py} (ev : Ev G X W C) (h : v2 X.env.scope o py = some (c, d)) (ha : PE X c (tE X.K W C a)) (hb : PE X d (tE X.K W C b)) : P2 X W C (.p2 o a b) py := by
  have bin : ∀ {op : Operator} {r : L2.R2} (ho : OpR X (binaryOp op) r) (ok : Ok2 X.K o r) (hop : ∀ op', op2B o op' = true → op' = op), vBin o py = some (c, d) → P2 X W C (.p2 o a b) py := fun {op r} ho ok hop h => by
    unfold vBin at h
    split at h
    · split at h
      · rename_i g
        injection h with h
        injection h with h1 h2
        subst h1 h2
        rw [hop _ g]
        exact p_bin ho ok ha hb
      · cases h
    · cases h
  cases o with
  | add => exact bin op_add ok_add (fun op' g => by cases op' <;> first | rfl | cases g) h
  | sub => exact bin L2.op_sub ok_sub (fun op' g => by cases op' <;> first | rfl | cases g) h
  | mul => exact bin op_mul ok_mul (fun op' g => by cases op' <;> first | rfl | cases g) h
  | fdiv => exact bin L2.op_fdiv ok_div (fun op' g => by cases op' <;> first | rfl | cases g) h
  | mod => exact bin L2.op_mod ok_mod (fun op' g => by cases op' <;> first | rfl | cases g) h
  | cmp o =>
    simp only [v2] at h
    split at h
    · rename_i e
      split at h
      · rename_i g
        injection h with h
        injection h with h1 h2
        subst h1 h2
        obtain ⟨q, rfl, hs⟩ := vCmp_eq e
        obtain rfl := cmpB_eq g
        obtain ⟨r, h1, h2⟩ := op_any (o := o) ev
        exact p_cmp h1 h2 hs ha hb
      · cases h
    · cases h
  | idx =>
    obtain ⟨q, rfl, hs⟩ := vSub_eq h
    exact p_idx ev hs ha hb
  | slFrom =>
    simp only [v2] at h
    split at h
    · injection h with h
      injection h with h1 h2
      subst h1 h2
      exact .of ((L2.pe_slice sl_all ha (L2.po_some hb) L2.po_none).imp fun _ _ _ q => t_slFrom q) isT_sub
    · cases h
  | slTo =>
    simp only [v2] at h
    split at h
    · injection h with h
      injection h with h1 h2
      subst h1 h2
      exact .of ((L2.pe_slice sl_all ha L2.po_none (L2.po_some hb)).imp fun _ _ _ q => t_slTo q) isT_sub
    · cases h
  | startswith =>
    obtain ⟨p1, p2, rfl, h1, h2, h3⟩ := vm_two (sc := X.env.scope) h
    exact p_m2 PySem.F.plainAttrs_str PySem.F.slot_str_startswith PySem.F.type_str_startswith L2.mt_startswith ok_start (ty_str (.inl rfl)) h1 h2 h3 ha hb
  | join =>
    obtain ⟨p1, p2, rfl, h1, h2, h3⟩ := vm_two (sc := X.env.scope) h
    exact p_m2 PySem.F.plainAttrs_str PySem.F.slot_str_join PySem.F.type_str_join L2.mt_join ok_join (ty_str (.inr rfl)) h1 h2 h3 ha hb
  | index =>
    obtain ⟨p1, p2, rfl, h1, h2, h3⟩ := vm_two (sc := X.env.scope) h
    exact p_m2 PySem.F.plainAttrs_list PySem.F.slot_list_index PySem.F.type_list_index (L2.mt_indexD ev.hu) ok_index (ty_lst (.inl rfl)) h1 h2 h3 ha hb
  | count =>
    obtain ⟨p1, p2, rfl, h1, h2, h3⟩ := vm_two (sc := X.env.scope) h
    exact p_m2 PySem.F.plainAttrs_list PySem.F.slot_list_count PySem.F.type_list_count (mt_countB ev.hu) ok_count (ty_lst (.inr rfl)) h1 h2 h3 ha hb
  | min2 =>
    obtain ⟨q, r, rfl, h2, h3, h4⟩ := vf_two h
    exact p_fn2 ev (L2.call_min2 ev.calm) (fun v u H Q ⟨i, j, e1, e2, k⟩ => ⟨i, j, by rw [e1, e2], k⟩) ok_min2 (by decide) rfl h2 h3 h4 ha hb
  | max2 =>
    obtain ⟨q, r, rfl, h2, h3, h4⟩ := vf_two h
    exact p_fn2 ev (L2.call_max2 ev.calm) (fun v u H Q ⟨i, j, e1, e2, k⟩ => ⟨i, j, by rw [e1, e2], k⟩) ok_max2 (by decide) rfl h2 h3 h4 ha hb
end
end KW
/-! KwTerm5: displays, fields, calls, methods, new instances, changes. -/
namespace KW
open PySem (Str Addr Value Program World Heap Operator CmpOp binaryOp compareOp PyData Scope Const Env)
open PySem.Spec PyProof.Rows
open L2 (V Hp HO upd upd_same upd_ne upd_upd SqL SqT Rd RelV Mut TE TT TA TS WX PE PT PW PA PS PSs Cx Inv OpR UnR CallR MtR IxR SlR TruR VK EP XK rI0)
section
variable {G : Tabs} {X : Cx} {W : WX} {C : CallF} {σ : L2.St} {H : Hp} {Q : VK}
/-! ### displays -/
theorem exports_len : ∀ {es : List E} {s : S} {ds : List D} {s' : S}, evalEs C es s = .ok ds s' → ds.length = es.length
  | [], _, _, _, h => by simp only [evalEs] at h; cases h; rfl
  | e :: es, s, ds, s', h => by
    simp only [evalEs] at h
    obtain ⟨d, s1, _, h⟩ := bind_is h
    obtain ⟨ds2, s2, h2, h⟩ := bind_is h
    cases h
    rw [List.length_cons, List.length_cons, exports_len h2]
theorem t_tup {es : List E} (hl : es.length < 1000) (h : tE X.K W C (.tup es) σ H Q) : L2.tTup (tEs X.K W C es) σ H Q := by
  obtain ⟨M, s, rt, h⟩ := h
  refine ⟨M, s, rt, ?_⟩
  simp only [evalE, pure] at h
  refine h.bind anti_relE (fun z => z) fun ds s1 M1 H1 vs hx e1 p1 rt1 rl1 h1 => ?_
  have hl1 := RD.len_eq rl1
  refine ⟨by rw [sizeLine_is, ← hl1, exports_len hx]; show _ ≤ 16777216; omega, give_tup rt1 rl1 fun M' H' v g rt' rr fr => ?_⟩
  exact (h1 true fun _ => rfl).2 M' H' v g.ext (fun _ => ⟨rfl, g⟩) rt' ⟨rr, fr⟩
theorem t_lst {es : List E} (h : tE X.K W C (.lst es) σ H Q) : L2.tLst (tEs X.K W C es) σ H Q := by
  obtain ⟨M, s, rt, h⟩ := h
  refine ⟨M, s, rt, ?_⟩
  simp only [evalE, pure] at h
  refine h.bind anti_relE (fun z => z) fun ds s1 M1 H1 vs hx e1 p1 rt1 rl1 h1 => ?_
  obtain ⟨z, ez, hz⟩ := (h1 _ fun z => z).op rt1
  obtain ⟨rfl, g⟩ := newLst_some ez
  have hl1 := RD.len_eq rl1
  exact ⟨by rw [sizeLine_is, ← hl1]; exact g, give_lst rt1 rl1 hz⟩
theorem isT_tup {xs : List Py} {k : Nat} {pos : PySem.Pos} {env : Env} : ∀ whole, PySem.isTrue (.Tuple xs k pos) env whole = (do let v ← whole; PySem.standAt (PySem.Expr.Tuple xs k pos).pos; PySem.holding [v] (PySem.truthy v)) := fun _ => rfl
theorem isT_lst {xs : List Py} {pos : PySem.Pos} {env : Env} : ∀ whole, PySem.isTrue (.List xs pos) env whole = (do let v ← whole; PySem.standAt (PySem.Expr.List xs pos).pos; PySem.holding [v] (PySem.truthy v)) := fun _ => rfl
theorem p_tup {es : List E} {xs : List Py} {k : Nat} {pos : PySem.Pos} (hl : es.length < 1000) (h : PA X xs (tEs X.K W C es)) : P2 X W C (.tup es) (.Tuple xs k pos) :=
  .of ((L2.pe_tup h).imp fun _ _ _ q => t_tup hl q) isT_tup
theorem p_lst {es : List E} {xs : List Py} {pos : PySem.Pos} (h : PA X xs (tEs X.K W C es)) : P2 X W C (.lst es) (.List xs pos) :=
  .of ((L2.pe_lst h).imp fun _ _ _ q => t_lst q) isT_lst
theorem pa_nil : PA X [] (tEs X.K W C []) := L2.pa_nil.imp fun _ _ _ q => t_nil q
theorem pa_cons {e : E} {es : List E} {x : Py} {xs : List Py} (hs : noStarB x = true) (h : PE X x (tE X.K W C e)) (t : PA X xs (tEs X.K W C es)) : PA X (x :: xs) (tEs X.K W C (e :: es)) :=
  (L2.pa_cons h t (noStar_eq hs _ _)).imp fun _ _ _ q => t_cons q

/-! ### fields -/
theorem t_fld {cs : List String} {e : E} {f : String} (hc : ∀ c, cs.contains c = true → L2.Cls X.K (cA X.K c) ∧ L2.NoAttr X.K (cA X.K c) (sst f)) (h : tE X.K W C (.fld cs e f) σ H Q) : L2.tFld X.K (tE X.K W C e) (sst f) σ H Q := by
  obtain ⟨M, s, rt, h⟩ := h
  refine ⟨M, s, rt, ?_⟩
  simp only [evalE, pure] at h
  refine h.bind anti_relE (fun z => z) fun x s1 M1 H1 v hx e1 p1 rt1 rl1 h1 => ?_
  have h1 := h1 true fun _ => rfl
  split at h1
  · rename_i i
    split at h1
    · rename_i c fs q
      split at h1
      · rename_i gc
        split at h1
        · rename_i sv qf
          cases rl1.1 with
          | val rd =>
            cases rd with
            | ref hi =>
              cases rt1.hp.cell _ _ q with
              | ins c1 c2 c3 =>
                obtain ⟨u, l1, l2⟩ := c3.get qf
                obtain ⟨k1, k2⟩ := hc c gc
                refine ⟨_, _, _, _, u, rfl, c1, k1, k2, l1, h1.2 M1 H1 u .refl (fun _ => ⟨rfl, .refl⟩) rt1 ⟨?_, fun c z => (no_own_rv z).elim⟩⟩
                cases l2 with
                | val r => exact .val r
                | own r1 r2 => exact .pk r1 r2
        · exact h1.2.elim
      · exact h1.2.elim
    · exact h1.2.elim
  · rename_i cl fs
    cases rl1.1 with
    | val rd => cases rd
  · exact h1.2.elim
theorem isT_attr {b : Py} {f : Str} {pos : PySem.Pos} {env : Env} : ∀ whole, PySem.isTrue (.Attribute b f pos) env whole = (do let v ← whole; PySem.standAt (PySem.Expr.Attribute b f pos).pos; PySem.holding [v] (PySem.truthy v)) := fun _ => rfl
theorem p_fld {cs : List String} {e : E} {f : String} {b : Py} {pos : PySem.Pos} (hc : ∀ c, cs.contains c = true → L2.Cls X.K (cA X.K c) ∧ L2.NoAttr X.K (cA X.K c) (sst f)) (hb : baseB b = true) (h : PE X b (tE X.K W C e)) : P2 X W C (.fld cs e f) (.Attribute b (sst f) pos) :=
  .of ((L2.pe_fld h (base_ok hb _ _)).imp fun _ _ _ q => t_fld hc q) isT_attr

/-! ### calls -/
theorem t_call {f : String} {es : List E} (h : tE X.K W C (.call f es) σ H Q) : L2.tCallS (spOf X.K C f) (L2.WE W) (tEs X.K W C es) σ H Q := by
  obtain ⟨M, s, rt, h⟩ := h
  refine ⟨M, s, rt, ?_⟩
  simp only [evalE, pure] at h
  refine h.bind anti_relE (fun z => by cases z) fun ds s1 M1 H1 vs hx e1 p1 rt1 rl1 h1 => ?_
  exact sp_call rt1 rl1 (h1 false fun z => by cases z) rfl
theorem p_call {f : String} {es : List E} {x : Py} {xs : List Py} {p pos : PySem.Pos} (ev : Ev G X W C) (hf : G.fs.contains f = true) (hg : glB X.env.scope (sst f) = true) (hn : nameB (sst f) = true) (hs : (x :: xs).all noStarB = true) (h : PA X (x :: xs) (tEs X.K W C es)) :
    P2 X W C (.call f es) (.Call (.Name (sst f) p) (x :: xs) [] pos) := by
  obtain ⟨a, hm, fd, ps, k, hk, hb, F, hr⟩ := ev.fs f hf
  have hr : L2.Room k X.A := hr.mono (Nat.le_succ k)
  obtain ⟨h1, h2⟩ := Bool.and_eq_true_iff.mp (show (noStarB x && xs.all noStarB) = true from hs)
  exact .of ((L2.pe_callS F hr (glB_gl hg) hm hk hb (L2.passAt ev.tk) h (nameB_ne hn).1 (noStar_eq h1 _ _) (noStar_any h2)).imp fun _ _ _ q => t_call q) isT_call
theorem p_call0 {f : String} {p pos : PySem.Pos} (ev : Ev G X W C) (hf : G.fs.contains f = true) (hg : glB X.env.scope (sst f) = true) (hn : nameB (sst f) = true) : P2 X W C (.call f []) (.Call (.Name (sst f) p) [] [] pos) := by
  obtain ⟨a, hm, fd, ps, k, hk, hb, F, hr⟩ := ev.fs f hf
  have hr : L2.Room k X.A := hr.mono (Nat.le_succ k)
  refine .of ⟨fun pins s σ H Q I q => ?_⟩ isT_call
  have q : spOf X.K C f [] H Q (L2.WE W σ) := t_nil (t_call q)
  refine PySem.wpAny_Call_Name_kw (L2.ld_glob I (glB_gl hg) hm ?_ (nameB_ne hn).1)
  exact PySem.W.callWith_K0 I.kIn hk (L2.run_fnS (us := []) (E := L2.WE W) F hr hb (L2.passAt ev.tk σ) I .nil q)

/-! ### methods -/
theorem meth_tree {o : Py} {m : Str} {xs : List Py} {apos pos : PySem.Pos} {env : Env} (hb : baseB o = true) (hl : apos.endLine = pos.line) (hs : xs.all noStarB = true) (hn : xs.length < 20) :
    PySem.eval (.Call (.Attribute o m apos) xs [] pos) env = (do
      let ov ← PySem.eval o env
      PySem.standAt apos.atName
      let (f, first) ← PySem.holding [ov] (PySem.getMethod ov m (do return (← PySem.importBound o env).getD true))
      PySem.callWith pos f first (PySem.backTo pos (PySem.starEach xs env)) (PySem.backToKw pos (PySem.keywordEach [] env))) := by
  show (do
    let ov ← PySem.attributeBase o m env (PySem.eval o env)
    PySem.standAt apos.atName
    PySem.methodCall o m apos pos env ov (xs.length + 0) (PySem.backTo pos (PySem.starEach xs env)) (PySem.backToKw pos (PySem.keywordEach [] env))) = _
  rw [base_ok hb]
  have few : PySem.methodCallForm (xs.length + 0) (PySem.backTo pos (PySem.starEach xs env)) (PySem.backToKw pos (PySem.keywordEach [] env)) = true := by
    unfold PySem.methodCallForm
    have := noStar_all (pos := pos) (env := env) hs
    simp only [Bool.and_eq_true, decide_eq_true_eq]
    refine ⟨⟨by simpa using this, rfl⟩, ?_⟩
    simp [PySem.keywordEach, PySem.backToKw]
    omega
  have el : (apos.endLine == pos.line) = true := by rw [hl]; exact beq_self_eq_true _
  unfold PySem.methodCall PySem.calleeOf PySem.methodCallPos
  rw [few]
  simp only [el, Bool.not_true, Bool.false_or, if_true, pure_bind]
/-- o.m(..), o of the class at D -/
def tMth (D : Addr) (m : Str) (sp : L2.Sp) (Ex : L2.St → XK) (ta : TE) (t : TA) : TE := fun σ H Q => ta σ H fun x H1 => ∃ a dx fs, x = .ref a ∧ H1 a = some (.ins D dx fs) ∧ fs.lookup m = none ∧ t σ H1 fun vs H2 => sp (x :: vs) H2 Q (Ex σ)
theorem pe_mth {CX : L2.CXT} {k : Nat} {D f : Addr} {m : Str} {fd : PySem.FuncData} {ps : List Str} {sp : L2.Sp} {Ex : L2.St → XK} {o : Py} {xs : List Py} {ta : TE} {t : TA} {apos pos : PySem.Pos} (he : PE X o ta) (c : L2.Cls X.K D) (hm : L2.Meth X.K D m f) (F : L2.FnOk X.prog X.w X.K X.mg X.base CX k f fd ps sp) (hr : L2.Room k X.A)
    (hbd : L2.Binds X.K fd ps []) (hx : ∀ σ, L2.PassesAt CX X σ (Ex σ)) (hb : baseB o = true) (hl : apos.endLine = pos.line) (hs : xs.all noStarB = true) (hn : xs.length < 20) (ha : PA X xs t) (h0 : xs = [] → ∀ σ H Q, t σ H Q → L2.tNil σ H Q) :
    PE X (.Call (.Attribute o m apos) xs [] pos) (tMth D m sp Ex ta t) := by
  refine ⟨fun pins s σ H Q I h => ?_⟩
  refine PySem.W.methodCall_KW (L2.thn (he.run pins s σ H _ I h) fun u s1 ⟨x, H1, I1, rx, a, dx, fs, ex, ea, l, q⟩ => ?_) (meth_tree hb hl hs hn)
  subst ex
  obtain rfl : u = Value.ref a := rx
  refine L2.getmeth_ok I1 ea c hm l ?_
  cases xs with
  | nil =>
    have q := h0 rfl _ _ _ q
    exact PySem.W.callWith_K0 (first := [.ref a]) I1.kIn hm.kp (L2.run_fnS (us := [.ref a]) (vs := [.ref a]) (E := Ex) F hr hbd (hx σ) I1 (.cons rfl .nil) q)
  | cons x xs =>
    obtain ⟨h1, h2⟩ := Bool.and_eq_true_iff.mp (show (noStarB x && xs.all noStarB) = true from hs)
    refine PySem.W.callWith_K (first := [.ref a]) (h₀ := X.base) I1.ok.mod.kin hm.kp (L2.thn (ha.run pos pins s1 σ H1 _ I1 q) fun us s2 ⟨vs, H2, I2, r, q2⟩ => ⟨I2.kIn, ?_⟩) (noStar_eq h1 _ _) (noStar_any h2)
    exact L2.run_fnS (us := .ref a :: us) (vs := .ref a :: vs) (E := Ex) F hr hbd (hx σ) I2 (.cons rfl r) q2
theorem RFs.miss {K : Fr} {n : Nat} {M : MM} {H : Hp} {i : Nat} {f : String} : ∀ {fs : List (String × SV)} {gs : List (Str × V)}, RFs K n M H i fs gs → ffind f fs = none → gs.lookup (sst f) = none
  | _, _, .nil, _ => rfl
  | _, _, .cons (f := g) a b, h => by
    unfold ffind at h
    rw [List.lookup_cons] at h
    rw [List.lookup_cons]
    by_cases e : f = g
    · subst e; simp at h
    · have e1 : (f == g) = false := by simpa using e
      have e2 : (sst f == sst g) = false := by simpa using fun z => e (sst_inj z)
      rw [e1] at h
      rw [e2]
      exact RFs.miss b h
theorem t_meth {c m : String} {e : E} {es : List E} (h : tE X.K W C (.meth c m e es) σ H Q) : tMth (cA X.K c) (sst m) (spOf X.K C (c ++ "." ++ m)) (L2.WE W) (tE X.K W C e) (tEs X.K W C es) σ H Q := by
  obtain ⟨M, s, rt, h⟩ := h
  refine ⟨M, s, rt, ?_⟩
  simp only [evalE, pure] at h
  refine h.bind anti_relE (fun z => by cases z) fun x s1 M1 H1 v hx e1 p1 rt1 rl1 h1 => ?_
  have h1 := h1 false fun z => by cases z
  split at h1
  · split at h1
    · rename_i c' fs q
      split at h1
      · rename_i g
        obtain ⟨rfl, g2⟩ := g
        cases rl1.1 with
        | val rd =>
          cases rd with
          | ref hi =>
            cases rt1.hp.cell _ _ q with
            | ins c1 c2 c3 =>
              refine ⟨_, _, _, rfl, c1, c3.miss (by simpa using g2), M1, s1, rt1, ?_⟩
              refine h1.bind anti_relE (fun z => by cases z) fun ds s2 M2 H2 vs hy e2 p2 rt2 rl2 h2 => ?_
              refine sp_call rt2 (.cons ?_ rl2) (h2 false fun z => by cases z) rfl
              have := RD.mono (e2.kept rt1.hp.wf) (RD.ref (K := X.K) (M := M1) (H := H1) hi)
              exact this
      · exact h1.2.elim
    · exact h1.2.elim
  · exact h1.2.elim
theorem p_meth {c m : String} {e : E} {es : List E} {o : Py} {xs : List Py} {apos pos : PySem.Pos} (ev : Ev G X W C) (hm : G.ms.contains (c, m) = true) (hb : baseB o = true) (hl : apos.endLine = pos.line) (hs : xs.all noStarB = true) (hn : xs.length < 20)
    (h0 : xs = [] → es = []) (he : PE X o (tE X.K W C e)) (h : PA X xs (tEs X.K W C es)) : P2 X W C (.meth c m e es) (.Call (.Attribute o (sst m) apos) xs [] pos) := by
  obtain ⟨f, kc, km, fd, ps, k, hk, hbd, F, hr⟩ := ev.ms c m hm
  have hr : L2.Room k X.A := hr.mono (Nat.le_succ k)
  exact .of ((pe_mth he kc km F hr hbd (L2.passAt ev.tk) hb hl hs hn h fun z σ H Q q => by
    obtain rfl := h0 z
    exact t_nil q).imp fun _ _ _ q => t_meth q) isT_call
end
end KW
/-! KwTerm6: new instances, changes, cells. -/
namespace KW
open PySem (Str Addr Value Program World Heap Operator CmpOp binaryOp compareOp PyData Scope Const Env)
open PySem.Spec PyProof.Rows
open L2 (V Hp HO upd upd_same upd_ne upd_upd SqL SqT Rd RelV Mut TE TT TA TS WX PE PT PW PA PS PSs Cx Inv OpR UnR CallR MtR IxR SlR TruR VK EP XK rI0)
section
variable {G : Tabs} {X : Cx} {W : WX} {C : CallF} {σ : L2.St} {H : Hp} {Q : VK}
/-! ### new instances -/
def noX : XK := fun _ _ _ => False
theorem no_passes {P : Program} {w : World} : L2.Passes (L2.CX X.prog X.w) X noX := fun pins σ H s e s' I c => by
  obtain ⟨a, B, H', cls, d, _, _, _, _, _, _, _, z⟩ := c
  exact z.elim
theorem RT.newIns {K : Fr} {M : MM} {s : S} (r : RT K M H σ s) {c : String} {x dx : Addr} (hx : H x = none) (hd : H dx = none) (ne : dx ≠ x) :
    RT K (M.newCell s.h.length x) (upd (upd H dx (.own x)) x (.ins (cA K c) dx [])) σ { s with h := s.h ++ [.ins c []] } ∧ Ext s.h.length M H (s.h.length + 1) (M.newCell s.h.length x) (upd (upd H dx (.own x)) x (.ins (cA K c) dx [])) := by
  have nx : ∀ b o, H b = some o → b ≠ x ∧ b ≠ dx := fun b o q => ⟨L2.ne_of_none q hx, L2.ne_of_none q hd⟩
  have up : ∀ b o, H b = some o → (upd (upd H dx (.own x)) x (.ins (cA K c) dx [])) b = some o := fun b o q => by
    rw [upd_ne (nx b o q).1, upd_ne (nx b o q).2]; exact q
  have wh : ∀ b l, M.who b = some l → b ≠ x ∧ (upd (upd H dx (.own x)) x (.ins (cA K c) dx [])) b = H b := fun b l q => by
    obtain ⟨o, e⟩ := r.hp.some_of q
    exact ⟨(nx b o e).1, by rw [up b o e, e]⟩
  have kp : Keep s.h.length M H (s.h.length + 1) (M.newCell s.h.length x) (upd (upd H dx (.own x)) x (.ins (cA K c) dx [])) :=
    ⟨r.hp.wf, fun a o q z => ⟨up a o q, by rw [newCell_ne (nx a o q).1 (by rw [z]; intro e; cases e)]; exact z⟩, fun i hi => newCell_old hi, Nat.le_succ _⟩
  refine ⟨r.snoc kp (fun b l q => ?_) (newCell_uq r.hp.uq) (by rw [newCell_loc]; exact newCell_at) (fun b l q h1 h2 h3 => ?_) ?_, ?_⟩
  · rcases newCell_some q with e | ⟨l', e⟩
    · subst e; rw [upd_same]; exact .inl trivial
    · rw [(wh b l' e).2]; exact r.hp.wf _ _ e
  · exact ⟨by rw [newCell_ne (wh b l q).1 (by rw [q]; intro z; injection z with z; exact h3 z)]; exact q, (wh b l q).2⟩
  · exact .ins (gs := []) (dx := dx) (by rw [newCell_loc, upd_same]) .nil .nil
  · refine ⟨fun a o q p => ⟨up a o q, ?_⟩, fun a q => ?_, fun i hi => newCell_old hi, Nat.le_succ _, newCell_nl (fun _ h => .inl h), rfl⟩
    · refine newCell_ne (nx a o q).1 fun z => ?_
      rw [z] at p
      rcases p with p | p | p <;> cases p
    · cases e : H a with
      | none => rfl
      | some o => rw [up a o e] at q; cases q
theorem t_new {c : String} {es : List E} (h : tE X.K W C (.new c es) σ H Q) : L2.tMake (cA X.K c) (spOf X.K C (c ++ ".__init__")) [] noX (tEs X.K W C es) σ H Q := by
  obtain ⟨M, s, rt, h⟩ := h
  refine ⟨M, s, rt, ?_⟩
  simp only [evalE, pure] at h
  refine h.bind anti_relE (fun z => by cases z) fun ds s1 M1 H1 vs hx e1 p1 rt1 rl1 h1 => ?_
  have h1 := h1 false fun z => by cases z
  intro x dx nx ndx ne
  obtain ⟨rt2, e2⟩ := rt1.newIns (c := c) nx ndx ne
  have hself : RD X.K (s1.h.length + 1) (M1.newCell s1.h.length x) (upd (upd H1 dx (.own x)) x (.ins (cA X.K c) dx [])) (.ref s1.h.length) (.ref x) := by
    have := RD.ref (K := X.K) (n := s1.h.length + 1) (M := M1.newCell s1.h.length x) (H := upd (upd H1 dx (.own x)) x (.ins (cA X.K c) dx [])) (i := s1.h.length) (Nat.lt_succ_self _)
    rw [newCell_loc] at this
    exact this
  have e2' : Ext s1.h.length M1 H1 ({ s1 with h := s1.h ++ [Cell.ins c []] } : S).h.length (M1.newCell s1.h.length x) (upd (upd H1 dx (.own x)) x (.ins (cA X.K c) dx [])) := by
    show Ext _ _ _ (s1.h ++ [Cell.ins c []]).length _ _
    rw [List.length_append]; exact e2
  have rs : RDs X.K ({ s1 with h := s1.h ++ [Cell.ins c []] } : S).h.length (M1.newCell s1.h.length x) (upd (upd H1 dx (.own x)) x (.ins (cA X.K c) dx [])) (.ref s1.h.length :: ds) (.ref x :: (vs ++ [])) := by
    refine .cons ?_ ?_
    · show RD _ (s1.h ++ [Cell.ins c []]).length _ _ _ _
      rw [List.length_append]; exact hself
    · rw [List.append_nil]
      exact RDs.mono (e2'.kept rt1.hp.wf) rl1
  have key := sp_call (W := fun _ _ _ _ => False) (Q := fun v H2 => v = .non ∧ Q (.ref x) H2) (pu := false) rt2 rs (f := c ++ ".__init__") (C := C) ?_ rfl
  · exact key
  · show OutR _ _ _ _ _ _ _ _ (back s1.σ (C (c ++ ".__init__") (.ref s1.h.length :: ds) (s1.h ++ [.ins c []]))) _
    refine ⟨fun z => h1.1 z, ?_⟩
    cases q : C (c ++ ".__init__") (.ref s1.h.length :: ds) (s1.h ++ [.ins c []]) with
    | stuck => rw [q] at h1; exact h1.2
    | raise x s' => rw [q] at h1; exact False.elim h1.2
    | ok v0 s' =>
      rw [q] at h1
      simp only [back, calm_ok, bind_ok] at h1
      intro M' H' v e3 _ rt3 rl3
      split at h1
      · have ev : v = .non := by
          cases rl3.1 with
          | val r => cases r; rfl
        subst ev
        refine ⟨rfl, h1.2 M' H' (.ref x) (e2'.trans e3) (fun z => by cases z) rt3 ⟨.val ?_, fun c z => by cases z⟩⟩
        have := RD.mono (e3.kept rt2.hp.wf) (d := .ref s1.h.length) (v := .ref x) (by
          show RD _ (s1.h ++ [Cell.ins c []]).length _ _ _ _
          rw [List.length_append]; exact hself)
        exact this
      · exact h1.2.elim
theorem p_new {c : String} {es : List E} {x : Py} {xs : List Py} {p pos : PySem.Pos} (ev : Ev G X W C) (hc : G.cs.contains c = true) (hg : glB X.env.scope (sst c) = true) (hn : nameB (sst c) = true) (hs : (x :: xs).all noStarB = true) (h : PA X (x :: xs) (tEs X.K W C es)) :
    P2 X W C (.new c es) (.Call (.Name (sst c) p) (x :: xs) [] pos) := by
  obtain ⟨f, hm, mk, fd, ps, k, hk, hb, F, hr⟩ := ev.cs c hc
  obtain ⟨h1, h2⟩ := Bool.and_eq_true_iff.mp (show (noStarB x && xs.all noStarB) = true from hs)
  exact .of ((L2.pe_make mk F hr (glB_gl hg) hm hb .nil (no_passes (P := X.prog) (w := X.w)) h (nameB_ne hn).1 (noStar_eq h1 _ _) (noStar_any h2)).imp fun _ _ _ q => t_new q) isT_call
theorem p_new0 {c : String} {p pos : PySem.Pos} (ev : Ev G X W C) (hc : G.cs.contains c = true) (hg : glB X.env.scope (sst c) = true) (hn : nameB (sst c) = true) : P2 X W C (.new c []) (.Call (.Name (sst c) p) [] [] pos) := by
  obtain ⟨f, hm, mk, fd, ps, k, hk, hb, F, hr⟩ := ev.cs c hc
  exact .of ((L2.pe_make0 mk F hr (glB_gl hg) hm hb .nil (no_passes (P := X.prog) (w := X.w)) (nameB_ne hn).1).imp fun _ _ _ q => t_nil (t_new q)) isT_call

/-! ### cells -/
theorem tE_box {e : E} (h : tE X.K W C (.box e) σ H Q) : tE X.K W C e σ H Q := by
  obtain ⟨M, s, rt, h⟩ := h
  have hlk : M.lk ≠ none → False := fun z => by have := h.1 z; cases this
  refine ⟨M, s, rt, fun z => (hlk z).elim, ?_⟩
  simp only [evalE] at h
  cases q : evalE C e s with
  | stuck => rw [q] at h; exact h.2
  | raise x s1 => rw [q] at h; exact h.2
  | ok x s1 =>
    rw [q, bind_ok] at h
    intro M1 H1 v e1 p1 rt1 rl1
    obtain ⟨rr, fr⟩ := rl1
    have go : ∀ (c : Cont) (c' : Cell), x = .own c → c' = cellOf c → OutR X.K W (relE X.K) M H σ s (pure (.box e)) (.ok (.val (.ref s1.h.length)) { s1 with h := s1.h ++ [c'] }) Q → Q v H1 := fun c c' ex ec h => by
      subst ex
      cases rr with
      | @own _ a hw hc =>
        have ha : H a = none := fr c rfl a rfl
        have nn : ∀ b, M1.who b = none → b ≠ a := fun b q z => by rw [z, hw] at q; cases q
        have kp0 : Keep s1.h.length M1 H1 (s1.h.length + 1) (M1.newCell s1.h.length a) H1 := ⟨rt1.hp.wf, fun b o q z => ⟨q, by rw [newCell_ne (nn b z) (by rw [z]; intro e; cases e)]; exact z⟩, fun i hi => newCell_old hi, Nat.le_succ _⟩
        subst ec
        obtain ⟨t1, t2⟩ := rt1.box (c := c) hw (hc.cell kp0)
        refine h.2 (M1.newCell s1.h.length a) H1 (.ref a) ⟨fun b o q p => ?_, e1.dom, fun i hi => ?_, ?_, newCell_nl e1.nl, e1.lk⟩ (fun z => by cases z) t1 ⟨.val ?_, fun c z => by cases z⟩
        · obtain ⟨h1, h2⟩ := e1.keep b o q p
          refine ⟨h1, ?_⟩
          rw [newCell_ne (L2.ne_of_none q ha) (by rw [h2]; intro z; rw [z] at p; rcases p with p | p | p <;> cases p)]
          exact h2
        · rw [newCell_old (Nat.lt_of_lt_of_le hi e1.le)]; exact e1.loc i hi
        · show _ ≤ (s1.h ++ [_]).length
          rw [List.length_append]
          exact Nat.le_trans e1.le (Nat.le_succ _)
        · have := RD.ref (K := X.K) (n := s1.h.length + 1) (M := M1.newCell s1.h.length a) (H := H1) (i := s1.h.length) (Nat.lt_succ_self _)
          rw [newCell_loc] at this
          show RD _ (s1.h ++ [_]).length _ _ _ _
          rw [List.length_append]
          exact this
    unfold boxIt at h
    split at h
    · exact go (.lst _) _ rfl rfl h
    · exact go (.dct _) _ rfl rfl h
    · exact h.2.elim
theorem tE_frz {e : E} (h : tE X.K W C (.frz e) σ H Q) : tE X.K W C e σ H Q := by
  obtain ⟨M, s, rt, h⟩ := h
  have hlk : M.lk ≠ none → False := fun z => by have := h.1 z; cases this
  refine ⟨M, s, rt, fun z => (hlk z).elim, ?_⟩
  simp only [evalE] at h
  cases q : evalE C e s with
  | stuck => rw [q] at h; exact h.2
  | raise x s1 => rw [q] at h; exact h.2
  | ok x s1 =>
    rw [q, bind_ok] at h
    intro M1 H1 v e1 p1 rt1 rl1
    obtain ⟨rr, fr⟩ := rl1
    unfold frzIt at h
    split at h
    · cases rr with
      | val r => exact h.2 M1 H1 v e1 (fun z => by cases z) rt1 ⟨.val r, fun c z => by cases z⟩
    · cases rr with
      | @own _ a hw hc =>
        have ha : H a = none := fr _ rfl a rfl
        obtain ⟨t1, t2⟩ := rt1.freeze hw
        refine h.2 (M1.set a none) H1 (.ref a) ⟨fun b o q p => ?_, e1.dom, e1.loc, e1.le, nl_set e1.nl, e1.lk⟩ (fun z => by cases z) t1 ⟨.val (hc.fz t2), fun c z => by cases z⟩
        obtain ⟨h1, h2⟩ := e1.keep b o q p
        exact ⟨h1, by rw [MM.set_ne (L2.ne_of_none q ha)]; exact h2⟩
    · split at h
      · rename_i c gp
        split at h
        · rename_i s' gq
          cases rr with
          | pk hw hc =>
            obtain ⟨a', w', rc⟩ := rt1.getPl gp
            obtain rfl := rt1.hp.uq _ _ _ (by intro z; cases z) (by intro z; cases z) w' hw
            obtain ⟨t1, t2, t3⟩ := rt1.frzPl gp hw rc gq
            exact h.2 (M1.set a' none) H1 (.ref a') (e1.trans t2) (fun z => by cases z) t1 ⟨.val t3, fun c z => by cases z⟩
        · exact h.2.elim
      · exact h.2.elim
theorem P2.box {e : E} {py : Py} (h : P2 X W C e py) (he : ∀ whole, PySem.isTrue py X.env whole = (do let v ← whole; PySem.standAt py.pos; PySem.holding [v] (PySem.truthy v))) : P2 X W C (.box e) py := .of (h.v.imp fun _ _ _ q => tE_box q) he
end
end KW
/-! KwTerm7: logic, three operands, tables. -/
namespace KW
open PySem (Str Addr Value Program World Heap Operator CmpOp binaryOp compareOp PyData Scope Const Env wpAny_bind wpAny_mono)
open PySem.Spec PyProof.Rows
open L2 (V Hp HO upd upd_same upd_ne upd_upd SqL SqT Rd RelV Mut TE TT TA TS WX PE PT PW PA PS PSs Cx Inv OpR UnR CallR MtR IxR SlR TruR VK EP XK rI0)
section
variable {G : Tabs} {X : Cx} {W : WX} {C : CallF} {σ : L2.St} {H : Hp} {Q : VK}
theorem pw_pt {op : PySem.BoolOp} {vs : List Py} {pos : PySem.Pos} {t : TT} (h : PT X (.BoolOp op vs pos) t) : PW X (.BoolOp op vs pos) t := ⟨fun wh pins s σ H Q I q => h.run pins s σ H Q I q⟩
theorem pt_pw {op : PySem.BoolOp} {vs : List Py} {pos : PySem.Pos} {t : TT} (h : PW X (.BoolOp op vs pos) t) : PT X (.BoolOp op vs pos) t := ⟨fun pins s σ H Q I q => h.run _ pins s σ H Q I q⟩
theorem un_rest {op : PySem.BoolOp} {y : Py} {r : List Py} {pos : PySem.Pos} {e : E} (h : P2 X W C e (unB op (.BoolOp op (y :: r) pos))) (hop : op = .And ∨ op = .Or) : PE X (.BoolOp op (y :: r) pos) (tE X.K W C e) ∧ PW X (.BoolOp op (y :: r) pos) (tT X.K W C e) := by
  cases r with
  | nil =>
    simp only [unB, if_true] at h
    refine ⟨L2.pe_one h.v, ?_⟩
    rcases hop with rfl | rfl
    · exact L2.pw_and1 h.t
    · exact L2.pw_or1 h.t
  | cons z r =>
    simp only [unB] at h
    exact ⟨h.v, pw_pt h.t⟩
theorem p_and {a b : E} {py x y : Py} (h : vBool .And py = some (x, y)) (ha : P2 X W C a x) (hb : P2 X W C b (unB .And y)) : P2 X W C (.and a b) py := by
  unfold vBool at h
  split at h
  · split at h
    · rename_i g
      obtain rfl := of_decide_eq_true g
      injection h with h
      injection h with h1 h2
      subst h1 h2
      obtain ⟨r1, r2⟩ := un_rest hb (.inl rfl)
      exact ⟨(L2.pe_andT ha.v r1).imp fun _ _ _ q => t_and q, pt_pw ((L2.pw_and ha.t r2).imp fun _ _ _ q => tt_and q)⟩
    · cases h
  · cases h
theorem p_or {a b : E} {py x y : Py} (h : vBool .Or py = some (x, y)) (ha : P2 X W C a x) (hb : P2 X W C b (unB .Or y)) : P2 X W C (.or a b) py := by
  unfold vBool at h
  split at h
  · split at h
    · rename_i g
      obtain rfl := of_decide_eq_true g
      injection h with h
      injection h with h1 h2
      subst h1 h2
      obtain ⟨r1, r2⟩ := un_rest hb (.inr rfl)
      exact ⟨(L2.pe_orT ha.v r1).imp fun _ _ _ q => t_or q, pt_pw ((L2.pw_or ha.t r2).imp fun _ _ _ q => tt_or q)⟩
    · cases h
  · cases h
theorem p_not {a : E} {b : Py} {pos : PySem.Pos} (ha : P2 X W C a b) : P2 X W C (.not a) (.UnaryOp .Not b pos) := ⟨(L2.pe_notT ha.v).imp fun _ _ _ q => t_not q, (L2.pt_not ha.t).imp fun _ _ _ q => tt_not q⟩
def tIfB (t u w : TT) : TT := fun σ H Q => t σ H fun c H1 => if c = true then u σ H1 Q else w σ H1 Q
theorem pt_ife {c a b : Py} {pos : PySem.Pos} {t u w : TT} (hc : PT X c t) (ha : PT X a u) (hb : PT X b w) : PT X (.IfExp c a b pos) (tIfB t u w) := by
  refine ⟨fun pins s σ H Q I h => ?_⟩
  show PySem.wpAny _ _ (do
    if ← PySem.isTrue c X.env (PySem.eval c X.env) then PySem.isTrue a X.env (PySem.eval a X.env) else PySem.isTrue b X.env (PySem.eval b X.env)) _ _ _
  refine wpAny_bind (L2.thn (hc.run pins s σ H _ I h) fun d s1 ⟨H1, I1, q1⟩ => ?_)
  cases d with
  | true => exact ha.run pins s1 σ H1 Q I1 q1
  | false => exact hb.run pins s1 σ H1 Q I1 q1
theorem tt_ife {c a b : E} {Q : Bool → Hp → Prop} (h : tT X.K W C (.ife c a b) σ H Q) : tIfB (tT X.K W C c) (tT X.K W C a) (tT X.K W C b) σ H Q := by
  obtain ⟨M, s, rt, h⟩ := h
  simp only [evalE, pure, isTruth] at h
  refine ⟨M, s, rt, fun z => ?_, ?_⟩
  · have z := h.1 z
    simp only [Bool.and_eq_true] at z
    exact z.1.1
  simp only [isTruth]
  cases q : (evalE C c s).bind fun v s => opt s (truth s.h v) with
  | stuck => rw [q] at h; exact h.2
  | raise x s1 => rw [q] at h; exact h.2
  | ok x s1 =>
    rw [q, bind_ok] at h
    intro M1 H1 v e1 p1 rt1 rl1
    cases rl1
    have pp : (pure c && pure a && pure b) = true → pure c = true ∧ pure a = true ∧ pure b = true := fun z => by
      simp only [Bool.and_eq_true] at z
      exact ⟨z.1.1, z.1.2, z.2⟩
    cases x with
    | true => exact ⟨M1, s1, rt1, OutR.later anti_relB h e1 (fun z => p1 (pp z).1) fun z => (pp z).2.1⟩
    | false => exact ⟨M1, s1, rt1, OutR.later anti_relB h e1 (fun z => p1 (pp z).1) fun z => (pp z).2.2⟩
theorem p_ife {c a b : E} {x y z : Py} {pos : PySem.Pos} (hc : P2 X W C c x) (ha : P2 X W C a y) (hb : P2 X W C b z) : P2 X W C (.ife c a b) (.IfExp x y z pos) :=
  ⟨(L2.pe_ifExp hc.t ha.v hb.v).imp fun _ _ _ q => t_ife q, (pt_ife hc.t ha.t hb.t).imp fun _ _ _ q => tt_ife q⟩

/-! ### chains -/
theorem t_chain {o p : CmpO} {r r' : L2.R2} {a b c : E} (h1 : Ok2 X.K (.cmp o) r) (h2 : Ok2 X.K (.cmp p) r') (h : tE X.K W C (.chain o p a b c) σ H Q) : L2.tChain r r' (tE X.K W C a) (tE X.K W C b) (tE X.K W C c) σ H Q := by
  obtain ⟨M, s, rt, h⟩ := h
  refine ⟨M, s, rt, ?_⟩
  simp only [evalE, pure] at h
  have pp : (pure a && pure b && pure c) = true → pure a = true ∧ pure b = true ∧ pure c = true := fun z => by
    simp only [Bool.and_eq_true] at z
    exact ⟨z.1.1, z.1.2, z.2⟩
  refine h.bind anti_relE (fun z => (pp z).1) fun x s1 M1 H1 v hx e1 p1 rt1 rl1 k1 => ?_
  have k1 := k1 (pure b && pure c) fun z => by rw [(pp z).2.1, (pp z).2.2]; rfl
  refine ⟨M1, s1, rt1, k1.bind anti_relE (fun z => (Bool.and_eq_true_iff.mp z).1) fun y s2 M2 H2 u hy e2 p2 rt2 rl2 k2 => ?_⟩
  have k2 := k2 (pure c) fun z => (Bool.and_eq_true_iff.mp z).2
  by_cases g : (isPk x || isPk y) = true
  · rw [if_pos g] at k2; exact k2.2.elim
  rw [if_neg g] at k2
  have gx : isPk x = false := by cases z : isPk x with
    | true => rw [z] at g; exact absurd rfl g
    | false => rfl
  have gy : isPk y = false := by cases z : isPk y with
    | true => rw [z, Bool.or_true] at g; exact absurd rfl g
    | false => rfl
  have rx := rl1.1.mono rt1.hp.wf e2 gx
  cases q : runCmp s2.h o x y with
  | none => rw [q] at k2; exact k2.2.elim
  | some t =>
    rw [q] at k2
    refine h1 M2 H2 σ s2 x y v u (.val (.bl t)) _ rt2 rx rl2.1 (by show (runCmp s2.h o x y).map _ = _; rw [q]; rfl) fun M3 H3 w g3 rt3 rr3 _ => ?_
    refine ⟨t, bl_at rr3, ?_⟩
    cases t with
    | false =>
      rw [if_neg (by intro z; cases z)]
      exact k2.2 M3 H3 _ g3.ext (fun _ => ⟨rfl, g3⟩) rt3 ⟨.val (.bl _), fun c z => by cases z⟩
    | true =>
      rw [if_pos rfl]
      have k3 := k2.later (pu1 := pure c) anti_relE g3.ext (fun _ => ⟨rfl, g3⟩) fun z => z
      refine ⟨M3, s2, rt3, k3.bind anti_relE (fun z => z) fun z s4 M4 H4 vz hz e4 p4 rt4 rl4 k4 => ?_⟩
      obtain ⟨zz, ez, hzz⟩ := (k4 _ fun z => z).op rt4
      refine h2 M4 H4 σ s4 y z u vz zz Q rt4 ?_ rl4.1 (by show (runCmp s4.h p y z).map _ = _; exact ez) hzz
      exact (rl2.1.mono rt2.hp.wf g3.ext gy).mono rt3.hp.wf e4 gy
theorem bl_chain {o p : CmpO} {a b c : E} : ∀ s x s', evalE C (.chain o p a b c) s = .ok x s' → ∃ k, x = .val (.bl k) := fun s x s' h => by
  simp only [evalE] at h
  obtain ⟨u, s1, _, h⟩ := bind_is h
  obtain ⟨w, s2, _, h⟩ := bind_is h
  split at h
  · cases h
  · split at h
    · obtain ⟨z, s3, _, h⟩ := bind_is h
      obtain ⟨t, _, e⟩ := omap (opt_ok h).1
      exact ⟨t, e.symm⟩
    · cases h; exact ⟨_, rfl⟩
    · cases h
theorem p_chain {o p : CmpO} {a b c : E} {q x y z : Py} (ev : Ev G X W C) (h : vChain o p q = some (x, y, z)) (ha : PE X x (tE X.K W C a)) (hb : PE X y (tE X.K W C b)) (hc : PE X z (tE X.K W C c)) : P2 X W C (.chain o p a b c) q := by
  unfold vChain at h
  split at h
  · split at h
    · rename_i g
      injection h with h
      injection h with h1 h2
      injection h2 with h2 h3
      subst h1 h2 h3
      simp only [Bool.and_eq_true] at g
      obtain rfl := cmpB_eq g.1.1
      obtain rfl := cmpB_eq g.1.2
      obtain ⟨r, i1, i2⟩ := op_any (o := o) ev
      obtain ⟨r', j1, j2⟩ := op_any (o := p) ev
      have hm := nb (op := cmpOf p) g.2
      exact ⟨(L2.pe_chain i1 j1 ha hb hc hm).imp fun _ _ _ q => t_chain i2 j2 q, (L2.pt_chain i1 j1 ha hb hc hm).imp fun σ H Q q => by
        obtain ⟨M, s, rt, k⟩ := t_chain i2 j2 (t_test bl_chain q)
        exact ⟨M, s, rt, k⟩⟩
    · cases h
  · cases h
end
end KW
/-! KwTerm8: lists that are changed. -/
namespace KW
open PySem (Str Addr Value Program World Heap Operator CmpOp binaryOp compareOp PyData Scope Const Env wpAny_bind wpAny_mono)
open PySem.Spec PyProof.Rows
open L2 (V Hp HO upd upd_same upd_ne upd_upd SqL SqT Rd RelV Mut TE TT TA TS WX PE PT PW PA PS PSs Cx Inv OpR UnR CallR MtR IxR SlR TruR VK EP XK rI0)
def isLm : Mu → Bool
  | .popK | .popD => false
  | _ => true
section
variable {K : Fr} {M : MM} {H : Hp} {σ : L2.St} {s s' : S}
theorem muD_no {o : Mu} (h : isLm o = true) (kvs : List (Key × SV)) (ds : List D) : muD kvs o ds = none := by
  cases o <;> first | rfl | cases h
/-- the list that is changed -/
theorem lst_mut {o : Mu} {x z : RV} {vx : V} {ds : List D} (ho : isLm o = true) (rt : RT K M H σ s) (rx : RR K s.h.length M H x vx) (h : runMu s o x ds = .ok z s') :
    ∃ a xs vs d ys, vx = .ref a ∧ H a = some (.lst vs) ∧ RDs K s.h.length M H xs vs ∧ muL xs o ds = some (d, ys) ∧ z = .val d ∧ s'.h.length = s.h.length ∧
      (∀ us, RDs K s.h.length M H ys us → RT K M (upd H a (.lst us)) σ s' ∧ Ext s.h.length M H s'.h.length M (upd H a (.lst us))) ∧ ∀ us, Keep s.h.length M H s.h.length M (upd H a (.lst us)) := by
  unfold runMu at h
  split at h
  · rename_i p c0
    split at h
    · rename_i xs gp
      split at h
      · rename_i d ys gm
        split at h
        · rename_i s2 gq
          injection h with h1 h2
          subst h1 h2
          cases rx with
          | pk hw hc =>
            obtain ⟨a', w', rc⟩ := rt.getPl gp
            obtain rfl := rt.hp.uq _ _ _ (by intro z; cases z) (by intro z; cases z) w' hw
            cases rc with
            | lst r1 r2 =>
              have kp : ∀ us, Keep s.h.length M H s.h.length M (upd H a' (.lst us)) := fun us => keep_upd rt.hp.wf w'
              have hl : s2.h.length = s.h.length := by
                cases p <;> simp only [putPl] at gq
                · injection gq with gq; subst gq; rfl
                all_goals
                  split at gq
                  · injection gq with gq; subst gq; simp
                  · cases gq
              refine ⟨a', xs, _, d, ys, rfl, r1, r2, gm, rfl, hl, fun us ru => ?_, kp⟩
              exact rt.wrPl gp w' trivial (.lst upd_same (ru.mono (kp us))) gq
        · cases h
      · cases h
    · split at h
      · rename_i e
        rw [muD_no ho] at e; cases e
      · cases h
    · cases h
  · rename_i i
    split at h
    · rename_i xs q
      split at h
      · rename_i d ys gm
        injection h with h1 h2
        subst h1 h2
        cases rx with
        | val rd =>
          cases rd with
          | ref hi =>
            have rc := rt.hp.cell _ _ q
            have hw := rt.hp.lb i hi
            cases rc with
            | lst r1 r2 =>
              have kp : ∀ us, Keep s.h.length M H s.h.length M (upd H (M.loc i) (.lst us)) := fun us => keep_upd rt.hp.wf hw
              refine ⟨_, xs, _, d, ys, rfl, r1, r2, gm, rfl, by simp, fun us ru => ?_, kp⟩
              exact rt.wrCell q trivial (.lst upd_same (ru.mono (kp us)))
      · cases h
    · split at h
      · rename_i e
        rw [muD_no ho] at e; cases e
      · cases h
    · cases h
  · cases h
end
/-- a list's method -/
def OkM (K : Fr) (o : Mu) (r : V → List V → Hp → VK → Prop) : Prop := ∀ (M : MM) (H : Hp) (σ : L2.St) (s s' : S) (x z : RV) (vx : V) (ds : List D) (vs : List V) (Q : VK), RT K M H σ s → M.lk = none → RR K s.h.length M H x vx → RDs K s.h.length M H ds vs → runMu s o x ds = .ok z s' →
  (∀ M' H' v, Ext s.h.length M H s'.h.length M' H' → RT K M' H' σ s' → RR K s'.h.length M' H' z v → Fresh H z v → Q v H') → r vx vs H Q
section
variable {K : Fr}
theorem fresh_val {H : Hp} {d : D} {v : V} : Fresh H (.val d) v := fun c z => by cases z
theorem ok_append : OkM K .append L2.rAppend := by
  intro M H σ s s' x z vx ds vs Q rt _ rx rs h hq
  obtain ⟨a, xs, ws, d, ys, rfl, ha, rw_, hm, rfl, hl, go, kp⟩ := lst_mut rfl rt rx h
  cases rs with
  | nil => cases hm
  | cons r1 r2 =>
    cases r2 with
    | cons _ _ => cases hm
    | nil =>
      obtain ⟨g, e⟩ := oif (show (if xs.length < sizeLine then some (D.non, xs ++ [_]) else none) = some (d, ys) from hm)
      injection e with e
      injection e with e1 e2
      subst e1 e2
      have hlen := RD.len_eq rw_
      refine ⟨a, ws, _, rfl, rfl, ha, by rw [sizeLine_is, ← hlen]; exact g, ?_⟩
      obtain ⟨t1, t2⟩ := go _ (rw_.app (.cons r1 .nil))
      exact hq _ _ _ t2 t1 (.val .non) fresh_val
open PySem in
theorem lstR {X : Cx} {pins : List (Addr × Obj)} {σ : L2.St} {H : Hp} {s : Shared} {l : Addr} {xs : List V} (I : Inv X pins σ H s) (hH : Rd H l (.lst xs)) : xs.length ≤ PySem.sizeLine ∧ ∃ (its : List Value) (n : Nat), L2.Vals xs its ∧ xs.length = its.length ∧ s.heap.get? l = some { cls := .type "list", data := .seq its.toArray n } := by
  rcases hH with hH | ⟨o, hH⟩
  · obtain ⟨z, its, n, r, e⟩ := I.hok l _ hH
    exact ⟨z, its, n, r, r.length, e⟩
  · obtain ⟨_, z, its, n, r, e⟩ := I.hok l _ hH
    exact ⟨z, its, n, r, r.length, e⟩
def rExtendR : V → List V → Hp → VK → Prop := fun x vs H Q => ∃ l b xs zs, x = .ref l ∧ vs = [.ref b] ∧ H l = some (.lst xs) ∧ Rd H b (.lst zs) ∧ xs.length + zs.length ≤ PySem.sizeLine ∧ Q .non (upd H l (.lst (xs ++ zs)))
open PySem PyProof.Rows L2 in
theorem mt_extendR {X : Cx} : MtM X "list.extend" rExtendR := by
  intro pins s σ H x vs v us Q I rx rv h
  obtain ⟨l, b, xs, zs, rfl, rfl, hH, hB, hz, q⟩ := h
  cases rx
  obtain ⟨u, rfl, ru⟩ := rv.one
  cases ru
  obtain ⟨z, its, n, r, hl, e⟩ := I.lstM hH
  obtain ⟨z2, its2, n2, r2, hl2, e2⟩ := lstR I hB
  have hsz : its.toArray.size + its2.toArray.size ≤ PySem.sizeLine := by rw [List.size_toArray, List.size_toArray]; omega
  have hlong : ¬ (!its.toArray.isEmpty && Builtin.List.listTooLong (its.toArray.size + its2.toArray.size)) = true := by
    rw [L2.notLongL hsz, Bool.and_false]
    exact Bool.false_ne_true
  refine call_meets F.slot_list_extend ⟨_, e, rfl⟩ F.entry_list_extend (F.args_list_extend_2 _ _)
    (AutoSeq1.list_extend_list_list_0 l its.toArray n b its2.toArray n2 hlong (by rw [List.size_toArray]; omega) (by omega)) ⟨e, e2, ?_⟩
  refine ⟨.non, _, I.lset (its' := its ++ its2) hH e (by simp) (r.append r2) ?_, rfl, q⟩
  rw [List.length_append]
  omega
theorem ok_extend : OkM K .extend rExtendR := by
  intro M H σ s s' x z vx ds vs Q rt _ rx rs h hq
  obtain ⟨a, xs, ws, d, ys, rfl, ha, rw_, hm, rfl, hl, go, kp⟩ := lst_mut rfl rt rx h
  cases rs with
  | nil => cases hm
  | @cons d0 _ _ _ r1 r2 =>
    cases r2 with
    | cons _ _ => cases d0 <;> cases hm
    | nil =>
      cases d0 with
      | lst zs =>
        obtain ⟨g, e⟩ := oif (show (if xs.length + zs.length ≤ sizeLine then some (D.non, xs ++ zs) else none) = some (d, ys) from hm)
        injection e with e
        injection e with e1 e2
        subst e1 e2
        have hlen := RD.len_eq rw_
        cases r1 with
        | @lst b us _ hb _ ru =>
          have hlen2 := RD.len_eq ru
          refine ⟨a, b, ws, us, rfl, rfl, ha, hb, by rw [sizeLine_is, ← hlen, ← hlen2]; exact g, ?_⟩
          obtain ⟨t1, t2⟩ := go _ (rw_.app ru)
          exact hq _ _ _ t2 t1 (.val .non) fresh_val
      | _ => cases hm
theorem ok_pop : OkM K .pop L2.rPop := by
  intro M H σ s s' x z vx ds vs Q rt _ rx rs h hq
  obtain ⟨a, xs, ws, d, ys, rfl, ha, rw_, hm, rfl, hl, go, kp⟩ := lst_mut rfl rt rx h
  cases rs with
  | cons r1 r2 => cases hm
  | nil =>
    have hm : (match xs.getLast? with
      | some d => some (d, xs.dropLast)
      | none => none) = some (d, ys) := hm
    split at hm
    · rename_i d' gl
      injection hm with hm
      injection hm with e1 e2
      subst e1 e2
      rw [List.getLast?_eq_getElem?] at gl
      have hlen := RD.len_eq rw_
      obtain ⟨v, g1, g2⟩ := rw_.get gl
      refine ⟨a, ws, v, rfl, rfl, ha, by rw [← hlen]; exact g1, ?_⟩
      obtain ⟨t1, t2⟩ := go ws.dropLast (by
        rw [List.dropLast_eq_take, List.dropLast_eq_take, ← hlen]
        exact rw_.take _)
      exact hq _ _ _ t2 t1 (.val (by rw [hl]; exact g2.mono (kp _))) fresh_val
    · cases hm
theorem seqIndex_is {n : Nat} {i : Int} {k : Nat} (h : ixN n i = some k) : PySem.seqIndex? i n = some k := by
  unfold ixN at h
  unfold PySem.seqIndex?
  split at h
  · rename_i g
    split at h
    · rename_i g2
      injection h with h
      have e : (if i < 0 then i + n else i) = i := if_neg (by omega)
      simp only [e]
      rw [if_pos (by simp; omega), h]
    · cases h
  · rename_i g
    split at h
    · rename_i g2
      injection h with h
      have e : (if i < 0 then i + n else i) = i + n := if_pos (by omega)
      simp only [e]
      rw [if_pos (by simp; omega), h]
    · cases h
theorem ok_popAt : OkM K .popI L2.rPopAt := by
  intro M H σ s s' x z vx ds vs Q rt _ rx rs h hq
  obtain ⟨a, xs, ws, d, ys, rfl, ha, rw_, hm, rfl, hl, go, kp⟩ := lst_mut rfl rt rx h
  cases rs with
  | nil => cases hm
  | @cons d0 _ _ _ r1 r2 =>
    cases r2 with
    | cons _ _ => cases d0 <;> cases hm
    | nil =>
      cases d0 with
      | int i =>
        obtain ⟨hbd, hm⟩ := oif (show (if -1073741824 < i ∧ i < 1073741824 then (match ixN xs.length i with
          | some j => (xs[j]?).map fun d => (d, xs.eraseIdx j)
          | none => none) else none) = some (d, ys) from hm)
        split at hm
        · rename_i j gj
          obtain ⟨d', g1, g2⟩ := omap hm
          injection g2 with e1 e2
          subst e1 e2
          cases r1
          obtain ⟨v, g3, g4⟩ := rw_.get g1
          have hlen := RD.len_eq rw_
          have hb : -(2 ^ 63) ≤ i ∧ i < 2 ^ 63 := by omega
          refine ⟨a, ws, i, j, v, rfl, rfl, ha, hb.1, hb.2, by rw [← hlen]; exact seqIndex_is gj, g3, ?_⟩
          obtain ⟨t1, t2⟩ := go _ (rw_.erase j)
          exact hq _ _ _ t2 t1 (.val (by rw [hl]; exact g4.mono (kp _))) fresh_val
        · cases hm
      | _ => cases hm
theorem ok_clear : OkM K .clear L2.rClear := by
  intro M H σ s s' x z vx ds vs Q rt _ rx rs h hq
  obtain ⟨a, xs, ws, d, ys, rfl, ha, rw_, hm, rfl, hl, go, kp⟩ := lst_mut rfl rt rx h
  cases rs with
  | cons _ _ => cases hm
  | nil =>
    injection (show some (D.non, ([] : List D)) = some (d, ys) from hm) with e
    injection e with e1 e2
    subst e1 e2
    obtain ⟨t1, t2⟩ := go _ .nil
    exact ⟨a, ws, rfl, rfl, ha, hq _ _ _ t2 t1 (.val .non) fresh_val⟩
end
section
variable {G : Tabs} {X : Cx} {W : WX} {C : CallF} {σ : L2.St} {H : Hp} {Q : VK}
theorem t_mutG {o : Mu} {Ty : V → Hp → Prop} {r : V → List V → Hp → VK → Prop} {e : E} {es : List E} (ok : OkM X.K o r) (ty : ∀ (M : MM) (H : Hp) (σ : L2.St) (s : S) (x : RV) (v : V), RT X.K M H σ s → RR X.K s.h.length M H x v → recvM s.h o x = true → Ty v H)
    (h : tE X.K W C (.mut o e es) σ H Q) : tE X.K W C e σ H fun x H1 => Ty x H1 ∧ tEs X.K W C es σ H1 fun vs H2 => r x vs H2 Q := by
  obtain ⟨M, s, rt, h⟩ := h
  refine ⟨M, s, rt, ?_⟩
  simp only [evalE, pure] at h
  refine h.bind anti_relE (fun z => by cases z) fun x s1 M1 H1 v hx e1 p1 rt1 rl1 h1 => ?_
  have h1 := h1 false fun z => by cases z
  by_cases g0 : ((isPk x && !pures es) || !recvM s1.h o x) = true
  · rw [if_pos g0] at h1; exact h1.2.elim
  rw [if_neg g0] at h1
  have g : ¬ (isPk x && !pures es) = true := fun z => g0 (Bool.or_eq_true_iff.mpr (.inl z))
  have g2 : recvM s1.h o x = true := by
    cases z : recvM s1.h o x with
    | true => rfl
    | false => exact absurd (Bool.or_eq_true_iff.mpr (.inr (by rw [z]; rfl))) g0
  refine ⟨ty _ _ _ _ _ _ rt1 rl1.1 g2, M1, s1, rt1, h1.bind anti_relE (fun z => by cases z) fun ds s2 M2 H2 vs hy e2 p2 rt2 rl2 h2 => ?_⟩
  have h2 := h2 false fun z => by cases z
  have rx : RR X.K s2.h.length M2 H2 x v := by
    cases q : isPk x with
    | false => exact rl1.1.mono rt1.hp.wf e2 q
    | true =>
      have pb : pures es = true := by cases z : pures es with
        | true => rfl
        | false => exact absurd (by rw [q, z]; rfl) g
      obtain ⟨es, gr⟩ := p2 pb
      rw [es]
      exact rl1.1.grow rt1.hp.wf gr
  cases q : runMu s2 o x ds with
  | stuck => rw [q] at h2; exact h2.2.elim
  | raise y s3 =>
    exfalso
    revert q
    unfold runMu
    intro q
    repeat' first | (cases q; done) | split at q
  | ok z s3 =>
    rw [q] at h2
    have lk2 : M2.lk = none := by
      cases z : M2.lk with
      | none => rfl
      | some b => have := h2.1 (by rw [z]; intro q; cases q); cases this
    exact ok M2 H2 σ s2 s3 x z v ds vs Q rt2 lk2 rx rl2 q fun M' H' v' e3 rt3 rr3 fr3 => h2.2 M' H' v' e3 (fun z => by cases z) rt3 ⟨rr3, fr3⟩
theorem t_mut {o : Mu} {T : String} {r : V → List V → Hp → VK → Prop} {e : E} {es : List E} (ok : OkM X.K o r) (ty : ∀ (M : MM) (H : Hp) (σ : L2.St) (s : S) (x : RV) (v : V), RT X.K M H σ s → RR X.K s.h.length M H x v → recvM s.h o x = true → L2.tyV X.K T v H)
    (h : tE X.K W C (.mut o e es) σ H Q) : L2.tBM X.K T r (tE X.K W C e) (tEs X.K W C es) σ H Q := t_mutG (Ty := L2.tyV X.K T) ok ty h
theorem tyM {o : Mu} (ho : isLm o = true) {K : Fr} : ∀ (M : MM) (H : Hp) (σ : L2.St) (s : S) (x : RV) (v : V), RT K M H σ s → RR K s.h.length M H x v → recvM s.h o x = true → L2.tyV K "list" v H := by
  intro M H σ s x v rt rr h
  exact lst_ty rt rr (by cases o <;> first | exact h | cases ho)
theorem p_mut1 {o : Mu} {id n : String} {r : V → List V → Hp → VK → Prop} {e : E} {es : List E} {b x : Py} {p1 p2 : PySem.Pos} (slot : PySem.Slot "list" (sst n) id) (hty : PySem.typeOf (.builtin id) = Pure.pure (Value.type "method_descriptor")) (hm : MtR X id r)
    (ok : OkM X.K o r) (ho : isLm o = true) (hb : baseB b = true) (hl : p1.endLine = p2.line) (hs : [x].all noStarB = true) (he : PE X b (tE X.K W C e)) (ha : PA X [x] (tEs X.K W C es)) : P2 X W C (.mut o e es) (.Call (.Attribute b (sst n) p1) [x] [] p2) := by
  refine .of ((L2.pe_bm PySem.F.plainAttrs_list slot hty hm he ha (base_ok hb _ _) (few_ok hs (by simp)) (by rw [hl]; exact beq_self_eq_true _) (noStar_eq (all_one hs) _ _) rfl).imp fun σ H Q q => ?_) isT_call
  exact t_mut ok (tyM ho) q
theorem p_mut0 {o : Mu} {id n : String} {r : V → List V → Hp → VK → Prop} {e : E} {b : Py} {p1 p2 : PySem.Pos} (slot : PySem.Slot "list" (sst n) id) (hty : PySem.typeOf (.builtin id) = Pure.pure (Value.type "method_descriptor")) (hm : MtR X id r)
    (ok : OkM X.K o r) (ho : isLm o = true) (hb : baseB b = true) (hl : p1.endLine = p2.line) (he : PE X b (tE X.K W C e)) : P2 X W C (.mut o e []) (.Call (.Attribute b (sst n) p1) [] [] p2) := by
  refine .of ((L2.pe_bm0 PySem.F.plainAttrs_list slot hty hm he (base_ok hb _ _) (by rw [hl]; exact beq_self_eq_true _)).imp fun σ H Q q => ?_) isT_call
  obtain ⟨M, s, rt, q⟩ := t_mut ok (tyM ho) q
  refine ⟨M, s, rt, q.1, ?_⟩
  have q := q.2
  cases z : evalE C e s with
  | ok x s' => rw [z] at q; exact fun M' H' v a b c d => ⟨(q M' H' v a b c d).1, t_nil (q M' H' v a b c d).2⟩
  | raise x s' => rw [z] at q; exact q
  | stuck => rw [z] at q; exact q
end
end KW
/-! KwIt: what is walked. -/
namespace KW
open PySem (Str Addr Value Program World Heap Operator CmpOp binaryOp compareOp PyData Scope Const Env wpAny_bind wpAny_mono)
open PySem.Spec PyProof.Rows
open L2 (V Hp HO upd upd_same upd_ne upd_upd SqL SqT Rd RelV Mut TE TT TA TS TI TG PI PG WX PE PT PW PA PS PSs Cx Inv OpR UnR CallR MtR IxR SlR TruR VK EP XK rI0)
theorem lkF {b : Option Addr} (h : b = none) (z : b ≠ none) : False := z h
/-- J walks ds, from where M1 H1 stand; w: what it reads -/
structure Wk (K : Fr) (J : L2.It) (ds : List D) (mu : Bool) (n : Nat) (M1 : MM) (H1 : Hp) (w : Addr → Prop) : Prop where
  at_ : ∀ b, w b → H1 b ≠ none ∧ (mu = false → prot (M1.who b))
  go : ∀ i H, i < ds.length → (∀ b, w b → H b = H1 b) → J.go i H
  stop : ∀ H, (∀ b, w b → H b = H1 b) → J.stop ds.length H
  yld : ∀ i M H σ s x H', i < ds.length → RT K M H σ s → Keep n M1 H1 s.h.length M H → (∀ b, w b → H b = H1 b) → J.yld i H x H' → ∃ M' d, ds[i]? = some d ∧ Grow M H M' H' ∧ RT K M' H' σ s ∧ RD K s.h.length M' H' d x
def tI (K : Fr) (W : WX) (C : CallF) (it : It) : TI := fun σ H R => ∃ M s, M.lk = none ∧ RT K M H σ s ∧ match evalIt C it s with
  | .ok (ds, mu) s' => ∀ M' H' J w, Ext s.h.length M H s'.h.length M' H' → RT K M' H' σ s' → Wk K J ds mu s'.h.length M' H' w → R J H'
  | .raise x s' => ∀ M' H' cls d, Ext s.h.length M H s'.h.length M' H' → RT K M' H' σ s' → RX K s'.h.length M' H' x cls d → W cls d σ H'
  | .stuck => False
section
variable {K : Fr} {M : MM} {H : Hp} {σ : L2.St} {s : S}
theorem wk_list {a : Addr} {vs : List V} {ds : List D} {mu : Bool} (rt : RT K M H σ s) (h : Rd H a (.lst vs)) (rs : RDs K s.h.length M H ds vs) (hp : mu = false → prot (M.who a)) : Wk K (L2.Itl K a) ds mu s.h.length M H (fun b => b = a) := by
  have q : ∀ H', (∀ b, b = a → H' b = H b) → SqL K H' a vs := fun H' e => .inl (rd_eq h (e a rfl))
  have hl := RD.len_eq rs
  refine ⟨fun b e => by subst e; exact ⟨fun z => (by rcases h with h | ⟨o, h⟩ <;> (rw [z] at h; cases h)), hp⟩, fun i H' hi e => ⟨vs, vs[i]'(by omega), q H' e, by simp [← hl, hi]⟩, fun H' e => ⟨vs, q H' e, by omega⟩, fun i M' H' σ' s' x H'' hi rt' kp e y => ?_⟩
  obtain ⟨rfl, y⟩ := y
  have y := y vs (q _ e)
  obtain ⟨v, g1, g2⟩ := rs.get (List.getElem?_eq_getElem hi)
  rw [y] at g1
  injection g1 with g1
  subst g1
  exact ⟨M', _, List.getElem?_eq_getElem hi, .refl, rt', g2.mono kp⟩
theorem sqt_up {a : Addr} {vs : List V} (h : SqT K H a vs) {H' : Hp} (e : H' a = H a) : SqT K H' a vs := by
  rcases h with (h | ⟨o, h⟩) | h
  · exact .inl (.inl (e.trans h))
  · exact .inl (.inr ⟨o, e.trans h⟩)
  · exact .inr h
theorem wk_tup {a : Addr} {vs : List V} {ds : List D} (rt : RT K M H σ s) (h : SqT K H a vs) (rs : RDs K s.h.length M H ds vs) : ∃ w, Wk K (L2.Itt K a) ds false s.h.length M H w := by
  have nm : ∀ o, H a = some o → ¬ Mx M.lk a (some o) → prot (M.who a) := fun o e nm => by
    cases z : M.who a with
    | none => exact .inl rfl
    | some l => exact absurd (by have := rt.hp.wf a l z; rw [e] at this; exact this) nm
  have hl := RD.len_eq rs
  have fin : ∀ w : Addr → Prop, (∀ b, w b → H b ≠ none ∧ prot (M.who b)) → (∀ H', (∀ b, w b → H' b = H b) → SqT K H' a vs) → Wk K (L2.Itt K a) ds false s.h.length M H w := fun w hw q => by
    refine ⟨fun b e => ⟨(hw b e).1, fun _ => (hw b e).2⟩, fun i H' hi e => ⟨vs, vs[i]'(by omega), q H' e, by simp [← hl, hi]⟩, fun H' e => ⟨vs, q H' e, by omega⟩, fun i M' H' σ' s' x H'' hi rt' kp e y => ?_⟩
    obtain ⟨rfl, y⟩ := y
    have y := y vs (q _ e)
    obtain ⟨v, g1, g2⟩ := rs.get (List.getElem?_eq_getElem hi)
    rw [y] at g1
    injection g1 with g1
    subst g1
    exact ⟨M', _, List.getElem?_eq_getElem hi, .refl, rt', g2.mono kp⟩
  rcases h with (h | ⟨o, h⟩) | h
  · exact ⟨_, fin (fun b => b = a) (fun b e => by subst e; exact ⟨by rw [h]; exact (fun z => by cases z), nm _ h Mx.tup⟩) fun H' e => .inl (.inl (by rw [e a rfl]; exact h))⟩
  · exact ⟨_, fin (fun b => b = a) (fun b e => by subst e; exact ⟨by rw [h]; exact (fun z => by cases z), nm _ h Mx.ftup⟩) fun H' e => .inl (.inr ⟨o, by rw [e a rfl]; exact h⟩)⟩
  · exact ⟨_, fin (fun _ => False) (fun b e => e.elim) fun H' e => .inr h⟩
theorem wk_str {t : T} (ht : okT t) : Wk K (L2.Its (mst t)) (t.map fun c => .str [c]) false s.h.length M H (fun _ => False) := by
  have hs : (mst t).cps.size = t.length := by simp [mst]
  refine ⟨fun b e => e.elim, fun i H' hi _ => ?_, fun H' _ => ?_, fun i M' H' σ' s' x H'' hi rt' kp _ y => ?_⟩
  · show i < (mst t).cps.size
    rw [hs]; simpa using hi
  · show (mst t).cps.size ≤ _
    rw [hs]; simp
  · obtain ⟨rfl, c, y1, rfl⟩ := y
    have y2 : t[i]? = some c := by simpa [mst] using y1
    refine ⟨M', .str [c], by rw [List.getElem?_map, y2]; rfl, .refl, rt', ?_⟩
    exact .str [c] ⟨by show 1 ≤ 16777216; decide, fun d hd => by
      obtain rfl := List.mem_singleton.mp hd
      exact ht.2 d (List.mem_of_getElem? y2)⟩
theorem range_get : ∀ (n : Nat) (a : Int) (i : Nat), i < n → (range' a 1 n)[i]? = some (.int (a + i))
  | 0, _, _, h => absurd h (Nat.not_lt_zero _)
  | n + 1, a, 0, _ => by simp [range']
  | n + 1, a, i + 1, h => by
    rw [range', List.getElem?_cons_succ, range_get n (a + 1) i (by omega)]
    congr 2
    push_cast
    omega
theorem range_len : ∀ (n : Nat) (a c : Int), (range' a c n).length = n
  | 0, _, _ => rfl
  | n + 1, a, c => by rw [range', List.length_cons, range_len n]
theorem wk_range {lo : Int} {n : Nat} : Wk K (L2.Itr lo n) (range' lo 1 n) false s.h.length M H (fun _ => False) := by
  refine ⟨fun b e => e.elim, fun i H' hi _ => ?_, fun H' _ => ?_, fun i M' H' σ' s' x H'' hi rt' kp _ y => ?_⟩
  · rw [range_len] at hi; exact hi
  · show n ≤ _
    rw [range_len]; exact Nat.le_refl _
  · obtain ⟨rfl, rfl⟩ := y
    rw [range_len] at hi
    exact ⟨M', _, range_get n lo i hi, .refl, rt', .int _⟩
end
theorem lst_raw {K : Fr} {M : MM} {H : Hp} {σ : L2.St} {s : S} {x : RV} {v : V} {xs : List D} (rt : RT K M H σ s) (r : RR K s.h.length M H x v) (h : lstOf s.h x = some xs) :
    ∃ a vs, v = .ref a ∧ Rd H a (.lst vs) ∧ RDs K s.h.length M H xs vs ∧ (∀ c, x = .own c → M.who a = some .tmp) ∧ ∀ ys, x = .val (.lst ys) → M.who a = none := by
  cases r with
  | own hw hc => cases hc with
    | lst h1 h2 => simp [lstOf] at h; subst h; exact ⟨_, _, rfl, .inl h1, h2, fun _ _ => hw, fun _ e => by cases e⟩
    | dct _ _ _ _ => simp [lstOf] at h
  | pk hw hc => cases hc with
    | lst h1 h2 => simp [lstOf] at h; subst h; exact ⟨_, _, rfl, .inl h1, h2, fun _ e => (by cases e), fun _ e => by cases e⟩
    | dct _ _ _ _ => simp [lstOf] at h
  | val r => cases r with
    | lst h1 h2 h3 => simp [lstOf] at h; subst h; exact ⟨_, _, rfl, h1, h3, fun _ e => (by cases e), fun _ _ => h2⟩
    | @ref i hi =>
      simp only [lstOf] at h
      cases q : s.h[i]? with
      | none => rw [q] at h; cases h
      | some c =>
        rw [q] at h
        have rc := rt.hp.cell i c q
        cases rc with
        | lst h1 h2 => simp at h; subst h; exact ⟨_, _, rfl, .inl h1, h2, fun _ e => (by cases e), fun _ e => by cases e⟩
        | ins _ _ _ => cases h
        | dct _ _ _ => cases h
    | _ => simp [lstOf] at h
section
variable {G : Tabs} {X : Cx} {W : WX} {C : CallF} {tg : Py}
theorem t_one {e : E} {ta : TE} {σ : L2.St} {H : Hp} {Q : List V → Hp → Prop} (h : ta σ H fun v H1 => Q [v] H1) : L2.tCons ta L2.tNil σ H Q := h
/-- range(n) -/
theorem p_rng1 {e : E} {b : Py} {p pos : PySem.Pos} (ev : Ev G X W C) (hg : glB X.env.scope (sst "range") = true) (hs : [b].all noStarB = true) (h : PE X b (tE X.K W C e)) : PI X tg (.Call (.Name (sst "range") p) [b] [] pos) (tI X.K W C (.rng1 e)) := by
  refine ⟨fun pins s σ H R I ⟨M, s0, lk, rt, q⟩ => ?_⟩
  simp only [evalIt] at q
  refine (L2.pi_range1 (X := X) (tg := tg) (glB_gl hg) (ev.bl "range" (by decide)) (pa_one (all_one hs) h) (noStar_eq (all_one hs) _ _)).run pins s σ H R I ⟨M, s0, rt, fun z => (lkF lk z).elim, ?_⟩
  cases z : evalE C e s0 with
  | stuck => rw [z] at q; exact q.elim
  | raise x s1 => rw [z] at q; exact q
  | ok x s1 =>
    rw [z, bind_ok] at q
    intro M1 H1 v e1 p1 rt1 rl1
    split at q
    · rename_i y
      split at y
      · split at y
        · rename_i g
          injection y with y1 y2
          injection y1 with y1 y3
          subst y1 y2 y3
          cases int_at rl1.1
          exact ⟨_, rfl, g.1, g.2, q M1 H1 _ _ e1 rt1 wk_range⟩
        · cases y
      · cases y
    · rename_i y
      split at y
      · split at y <;> cases y
      · cases y
    · exact q.elim
/-- range(a, b) -/
theorem p_rng2 {e f : E} {b c : Py} {p pos : PySem.Pos} (ev : Ev G X W C) (hg : glB X.env.scope (sst "range") = true) (hs : [b, c].all noStarB = true) (h : PE X b (tE X.K W C e)) (h2 : PE X c (tE X.K W C f)) : PI X tg (.Call (.Name (sst "range") p) [b, c] [] pos) (tI X.K W C (.rng2 e f)) := by
  refine ⟨fun pins s σ H R I ⟨M, s0, lk, rt, q⟩ => ?_⟩
  simp only [evalIt] at q
  have h12 := all_two hs
  refine (L2.pi_range2 (X := X) (tg := tg) (glB_gl hg) (ev.bl "range" (by decide)) (pa_two h12.1 h12.2 h h2) (by rw [noStar_eq h12.1, noStar_eq h12.2]; rfl) (noStar_eq h12.2 _ _)).run pins s σ H R I ⟨M, s0, rt, fun z => (lkF lk z).elim, ?_⟩
  cases z : evalE C e s0 with
  | stuck => rw [z] at q; exact q.elim
  | raise x s1 => rw [z] at q; exact q
  | ok x s1 =>
    rw [z, bind_ok] at q
    intro M1 H1 v e1 p1 rt1 rl1
    refine ⟨M1, s1, rt1, fun z => (lkF (e1.lk.trans lk) z).elim, ?_⟩
    cases z2 : evalE C f s1 with
    | stuck => rw [z2] at q; exact q.elim
    | raise x2 s2 => rw [z2] at q; exact fun M' H' cls d a b c => q M' H' cls d (e1.trans a) b c
    | ok y s2 =>
      rw [z2, bind_ok] at q
      intro M2 H2 u e2 p2 rt2 rl2
      split at q
      · rename_i y'
        split at y'
        · split at y'
          · rename_i g
            injection y' with y1 y2
            injection y1 with y1 y3
            subst y1 y2 y3
            cases int_at rl1.1
            cases int_at rl2.1
            exact ⟨_, _, rfl, g, q M2 H2 _ _ (e1.trans e2) rt2 wk_range⟩
          · cases y'
        · cases y'
      · rename_i y'
        split at y'
        · split at y' <;> cases y'
        · cases y'
      · exact q.elim
/-- a list, a tuple, a text -/
theorem p_seq {e : E} {py : Py} (h : PE X py (tE X.K W C e)) : PI X tg py (tI X.K W C (.seq e)) := by
  refine ⟨fun pins s σ H R I ⟨M, s0, lk, rt, q⟩ => ?_⟩
  simp only [evalIt] at q
  cases z : evalE C e s0 with
  | stuck => rw [z] at q; exact q.elim
  | raise x s1 =>
    rw [z] at q
    refine (L2.pi_list (X := X) (tg := tg) h).run pins s σ H R I ⟨M, s0, rt, fun z => (lkF lk z).elim, ?_⟩
    rw [z]; exact q
  | ok x s1 =>
    rw [z, bind_ok] at q
    have str : ∀ t : T, x = .val (.str t) → PySem.wpAny (PySem.model X.prog X.w) X.A (PySem.eval py X.env) (fun v s1 => PySem.wpAny (PySem.model X.prog X.w) X.A (PySem.pyIter v) (L2.PIE X pins σ tg R) X.xe s1) X.xe s := fun t ex => by
      subst ex
      refine (L2.pi_str (X := X) (tg := tg) h).run pins s σ H R I ⟨M, s0, rt, fun z => (lkF lk z).elim, ?_⟩
      rw [z]
      intro M1 H1 v e1 p1 rt1 rl1
      obtain ⟨rfl, ht⟩ := str_at rl1.1
      exact ⟨_, rfl, q M1 H1 _ _ e1 rt1 (wk_str ht)⟩
    have tup : ∀ xs : List D, x = .val (.tup xs) → PySem.wpAny (PySem.model X.prog X.w) X.A (PySem.eval py X.env) (fun v s1 => PySem.wpAny (PySem.model X.prog X.w) X.A (PySem.pyIter v) (L2.PIE X pins σ tg R) X.xe s1) X.xe s := fun xs ex => by
      subst ex
      refine (L2.pi_tup (X := X) (tg := tg) h).run pins s σ H R I ⟨M, s0, rt, fun z => (lkF lk z).elim, ?_⟩
      rw [z]
      intro M1 H1 v e1 p1 rt1 rl1
      obtain ⟨a, vs, rfl, r1, r2⟩ := tup_at (x := .val .non) rl1.1
      obtain ⟨w, hw⟩ := wk_tup rt1 r1 r2
      exact ⟨a, rfl, ⟨vs, r1⟩, q M1 H1 _ _ e1 rt1 hw⟩
    have lst : ∀ (xs : List D) (mu : Bool), lstOf s1.h x = some xs → (mu = false → (∃ c, x = .own c) ∨ ∃ ys, x = .val (.lst ys)) → (∀ M' H' J w, Ext s0.h.length M H s1.h.length M' H' → RT X.K M' H' σ s1 → Wk X.K J xs mu s1.h.length M' H' w → R J H') →
        PySem.wpAny (PySem.model X.prog X.w) X.A (PySem.eval py X.env) (fun v s1 => PySem.wpAny (PySem.model X.prog X.w) X.A (PySem.pyIter v) (L2.PIE X pins σ tg R) X.xe s1) X.xe s := fun xs mu hl hm q => by
      refine (L2.pi_list (X := X) (tg := tg) h).run pins s σ H R I ⟨M, s0, rt, fun z => (lkF lk z).elim, ?_⟩
      rw [z]
      intro M1 H1 v e1 p1 rt1 rl1
      obtain ⟨a, vs, rfl, r1, r2, r3, r4⟩ := lst_raw rt1 rl1.1 hl
      refine ⟨a, rfl, ⟨vs, .inl r1⟩, q M1 H1 _ _ e1 rt1 (wk_list rt1 r1 r2 fun g => ?_)⟩
      rcases hm g with ⟨c, e⟩ | ⟨ys, e⟩
      · exact .inr (.inl (r3 c e))
      · exact .inl (r4 ys e)
    have opts : ∀ {o : Option (List D)} {mu : Bool}, (match (opt s1 (o.map fun xs => (xs, mu)) : KW.R (List D × Bool)) with
        | .ok (ds, mu) s' => ∀ M' H' J w, Ext s0.h.length M H s'.h.length M' H' → RT X.K M' H' σ s' → Wk X.K J ds mu s'.h.length M' H' w → R J H'
        | .raise x s' => ∀ M' H' cls d, Ext s0.h.length M H s'.h.length M' H' → RT X.K M' H' σ s' → RX X.K s'.h.length M' H' x cls d → W cls d σ H'
        | .stuck => False) → ∃ xs, o = some xs ∧ ∀ M' H' J w, Ext s0.h.length M H s1.h.length M' H' → RT X.K M' H' σ s1 → Wk X.K J xs mu s1.h.length M' H' w → R J H' := fun {o mu} q => by
      cases o with
      | none => exact q.elim
      | some xs => exact ⟨xs, rfl, q⟩
    cases x with
    | own c =>
      obtain ⟨xs, h1, q⟩ := opts q
      exact lst xs false h1 (fun _ => .inl ⟨c, rfl⟩) q
    | pk p c =>
      obtain ⟨xs, h1, q⟩ := opts q
      exact lst xs true h1 (fun z => by cases z) q
    | val d =>
      cases d with
      | str t => exact str t rfl
      | tup xs => exact tup xs rfl
      | lst ys =>
        obtain ⟨xs, h1, q⟩ := opts (o := some ys) (mu := false) q
        exact lst xs false h1 (fun _ => .inr ⟨ys, rfl⟩) q
      | ref i =>
        obtain ⟨xs, h1, q⟩ := opts q
        exact lst xs true h1 (fun z => by cases z) q
      | _ =>
        obtain ⟨xs, h1, q⟩ := opts (o := none) (mu := false) q
        cases h1
end
end KW
/-! KwComp: targets, comprehensions. -/
namespace KW
open PySem (Str Addr Value Program World Heap Operator CmpOp binaryOp compareOp PyData Scope Const Env wpAny_bind wpAny_mono)
open PySem.Spec PyProof.Rows
open L2 (V Hp HO upd upd_same upd_ne upd_upd SqL SqT Rd RelV Mut TE TT TA TS TI TG PI PG WX PE PT PW PA PS PSs Cx Inv OpR UnR CallR MtR IxR SlR TruR VK EP XK rI0)
/-- places that are set one after another -/
theorem fset_get {α : Type} (f : Nat → α) : ∀ (is : List Nat) (l : List α) (j : Nat), (is.foldl (fun l i => l.set i (f i)) l)[j]? = if j ∈ is then (if j < l.length then some (f j) else none) else l[j]?
  | [], l, j => by simp
  | i :: is, l, j => by
    rw [List.foldl_cons, fset_get f is, List.length_set]
    by_cases h : j ∈ is
    · simp [h]
    · by_cases e : i = j
      · subst e
        simp [h]
        by_cases g : i < l.length
        · simp [g]
        · simp [g]
      · have e2 : ¬ j = i := fun z => e z.symm
        simp [h, e2, List.getElem?_set_ne e]
theorem fset_len {α : Type} (f : Nat → α) : ∀ (is : List Nat) (l : List α), (is.foldl (fun l i => l.set i (f i)) l).length = l.length
  | [], l => rfl
  | i :: is, l => by rw [List.foldl_cons, fset_len f is, List.length_set]
/-- the slots of the block's own names forgotten -/
def wS (is : List Nat) (σ : List (Option SV)) : List (Option SV) := is.foldl (fun σ i => σ.set i none) σ
theorem wS_get {is : List Nat} {σ : List (Option SV)} {j : Nat} {sv : SV} (h : (wS is σ)[j]? = some (some sv)) : σ[j]? = some (some sv) ∧ j ∉ is := by
  unfold wS at h
  rw [fset_get (fun _ => none)] at h
  split at h
  · split at h <;> cases h
  · rename_i g
    exact ⟨h, g⟩
theorem wS_out {is : List Nat} {σ : List (Option SV)} {j : Nat} (h : j ∉ is) : (wS is σ)[j]? = σ[j]? := by
  unfold wS
  rw [fset_get (fun _ => none), if_neg h]
theorem wS_len {is : List Nat} {σ : List (Option SV)} : (wS is σ).length = σ.length := fset_len (fun _ => none) is σ
/-- the targets that are known -/
def tgIs (is : List Nat) : Prop := (∃ i, is = [i]) ∨ ∃ i j, is = [i, j] ∧ i ≠ j
theorem bindT_wS {is : List Nat} (hi : tgIs is) {d : D} {s s1 : S} (h : bindT is d s = some s1) : bindT is d ⟨wS is s.σ, s.h⟩ = some s1 := by
  rcases hi with ⟨i, rfl⟩ | ⟨i, j, rfl, ne⟩
  · simp only [bindT] at h ⊢
    rw [← h]
    simp [wS]
  · have key : ∀ (l : List (Option SV)) (a b : Option SV), (((l.set i none).set j none).set i a).set j b = (l.set i a).set j b := fun l a b => by
      apply List.ext_getElem?
      intro k
      by_cases e1 : j = k
      · subst e1
        simp only [List.getElem?_set, List.length_set]
        split <;> rfl
      · rw [List.getElem?_set_ne e1, List.getElem?_set_ne e1]
        by_cases e2 : i = k
        · subst e2
          simp only [List.getElem?_set, List.length_set]
          split <;> rfl
        · rw [List.getElem?_set_ne e2, List.getElem?_set_ne e2, List.getElem?_set_ne e1, List.getElem?_set_ne e2]
    cases d with
    | tup xs =>
      cases xs with
      | nil => cases h
      | cons a xs =>
        cases xs with
        | nil => cases h
        | cons b xs =>
          cases xs with
          | nil =>
            injection (show some ({ s with σ := (s.σ.set i (some (.val a))).set j (some (.val b)) } : S) = some s1 from h) with h
            show some ({ h := s.h, σ := (((s.σ.set i none).set j none).set i (some (.val a))).set j (some (.val b)) } : S) = some s1
            rw [key, h]
          | cons c xs =>
            exfalso
            unfold bindT at h
            simp at h
    | _ => cases h
section
variable {K : Fr} {M M' : MM} {H H' : Hp} {σ : L2.St} {s : S}
theorem RT.wiped (r : RT K M H σ s) (is : List Nat) : RT K M H (L2.wipe σ is) ⟨wS is s.σ, s.h⟩ := by
  refine ⟨r.hp, ?_, fun j sv q => ?_⟩
  · show (wS is s.σ).length = _
    rw [wS_len, L2.wipe_length]; exact r.len
  · obtain ⟨h1, h2⟩ := wS_get q
    obtain ⟨v, g1, g2⟩ := r.sl j sv h1
    exact ⟨v, by rw [L2.wipe_out h2]; exact g1, g2⟩
/-- behind a comprehension -/
theorem RT.backT {s0 : S} {M1 : MM} {H1 : Hp} {is : List Nat} (r1 : RT K M1 H1 σ s0) (r : RT K M H (L2.wipe σ is) ⟨wS is s.σ, s.h⟩) (e : Ext s0.h.length M1 H1 s.h.length M H) : RT K M H σ (backT s0.σ is s) := by
  have len : s.σ.length = σ.length := by
    have := r.len
    rw [L2.wipe_length] at this
    rw [← this]
    exact wS_len.symm
  refine ⟨r.hp, ?_, fun j sv q => ?_⟩
  · show (is.foldl (fun σ i => σ.set i (oldVal s0.σ i)) s.σ).length = _
    rw [fset_len]; exact len
  · have q : (is.foldl (fun σ i => σ.set i (oldVal s0.σ i)) s.σ)[j]? = some (some sv) := q
    rw [fset_get] at q
    split at q
    · split at q
      · injection q with q
        unfold oldVal at q
        split at q
        · rename_i d e0
          injection q with q
          subst q
          obtain ⟨v, g1, g2⟩ := r1.sl j _ e0
          cases g2 with
          | val rd => exact ⟨v, g1, .val (rd.mono (e.kept r1.hp.wf))⟩
        · cases q
      · cases q
    · rename_i g
      obtain ⟨v, g1, g2⟩ := r.sl j sv (by show (wS is s.σ)[j]? = _; rw [wS_out g]; exact q)
      rw [L2.wipe_out g] at g1
      exact ⟨v, g1, g2⟩
theorem RT.asgnE (r : RT K M H σ s) {j : Nat} {d : D} {v : V} (rd : RD K s.h.length M H d v) : RT K (M.drop (.slot j)) H (σ.set j (some v)) { s with σ := s.σ.set j (some (.val d)) } ∧ Ext s.h.length M H s.h.length (M.drop (.slot j)) H := by
  obtain ⟨h1, _⟩ := r.asgnV (j := j) rd
  refine ⟨h1, fun a o q p => ⟨q, ?_⟩, fun _ q => q, fun _ _ => rfl, Nat.le_refl _, drop_nl, rfl⟩
  exact drop_of (by rcases p with p | p | p <;> rw [p] <;> intro z <;> cases z)
/-- what is new is written -/
theorem RT.wrTmp (r : RT K M H σ s) {a : Addr} {o : HO} (hw : M.who a = some .tmp) (hm : Mut (some o)) : RT K M (upd H a o) σ s ∧ ∀ n, Keep n M H n M (upd H a o) := by
  have kp : ∀ n, Keep n M H n M (upd H a o) := fun n => keep_upd r.hp.wf hw
  have ne : ∀ b l, M.who b = some l → l ≠ .tmp → (upd H a o) b = H b := fun b l q h => upd_ne fun z => by rw [z, hw] at q; injection q with q; exact h q.symm
  refine ⟨⟨⟨wf_upd r.hp.wf hm, r.hp.lb, r.hp.uq, fun i c q => ?_⟩, r.len, fun j sv q => ?_⟩, kp⟩
  · have hi := (List.getElem?_eq_some_iff.mp q).1
    exact (r.hp.cell i c q).keep (kp _) hi (ne _ _ (r.hp.lb i hi) (by intro z; cases z)) fun p _ b hb => ⟨hb, ne _ _ hb (by intro z; cases z)⟩
  · obtain ⟨v, h1, h2⟩ := r.sl j sv q
    exact ⟨v, h1, h2.mono (kp _) fun b hb => ⟨hb, ne _ _ hb (by intro z; cases z)⟩⟩
end
/-! ### targets -/
def tG (K : Fr) (is : List Nat) : TG := fun v σ H Q => ∃ M d s s1, RT K M H σ s ∧ RD K s.h.length M H d v ∧ bindT is d s = some s1 ∧
  ∀ M' σ', RT K M' H σ' s1 → s1.h = s.h → Ext s.h.length M H s.h.length M' H → (∀ j, j ∉ is → σ'[j]? = σ[j]?) → σ'.length = σ.length → Q σ' H
section
variable {X : Cx}
theorem p_tgt {is : List Nat} {t : Py} (hc : X.calm = true) (hN : X.N.Nodup) (h : tgtB X.env.scope X.N is t = true) : PG X t (tG X.K is) ∧ tgIs is := by
  unfold tgtB at h
  split at h
  · rename_i i x p
    simp only [Bool.and_eq_true, decide_eq_true_eq] at h
    refine ⟨⟨fun pins s σ H v u Q I r q => ?_⟩, .inl ⟨i, rfl⟩⟩
    refine (L2.pg_name hN h.1 (.inl h.2) (.inr h.2)).run pins s σ H v u Q I r ?_
    obtain ⟨M, d, s0, s1, rt, rd, hb, q⟩ := q
    simp only [bindT] at hb
    injection hb with hb
    subst hb
    obtain ⟨t1, t2⟩ := rt.asgnE (j := i) rd
    exact q _ _ t1 rfl t2 (fun j hj => List.getElem?_set_ne fun z => hj (by simp [z])) (by simp)
  · rename_i i j x p y p2 k p3
    simp only [Bool.and_eq_true, decide_eq_true_eq] at h
    obtain ⟨⟨⟨h1, h2⟩, h3, h4⟩, h5⟩ := h
    refine ⟨⟨fun pins s σ H v u Q I r q => ?_⟩, .inr ⟨i, j, rfl, h5⟩⟩
    refine (L2.pg_tup (n := 2) hc (L2.pgs_cons (L2.pg_name hN h1 (.inl h2) (.inr h2)) (L2.pgs_cons (L2.pg_name hN h3 (.inl h4) (.inr h4)) L2.pgs_nil))).run pins s σ H v u Q I r ?_
    obtain ⟨M, d, s0, s1, rt, rd, hb, q⟩ := q
    simp only [bindT] at hb
    split at hb
    · rename_i xs
      split at hb
      · rename_i hl
        injection hb with hb
        subst hb
        cases rd with
        | tup hq hs =>
          cases hs with
          | nil => cases hl
          | cons r1 hs =>
            cases hs with
            | nil => cases hl
            | cons r2 hs =>
              cases hs with
              | cons _ _ => simp at hl
              | nil =>
                obtain ⟨t1, t2⟩ := rt.asgnE (j := i) r1
                obtain ⟨u1, u2⟩ := t1.asgnE (j := j) (r2.mono (t2.kept rt.hp.wf))
                refine ⟨_, _, rfl, hq, rfl, _, _, rfl, ?_⟩
                refine ⟨_, _, rfl, rfl, ?_⟩
                refine q _ _ u1 rfl (t2.trans u2) (fun k hk => ?_) (by simp)
                rw [List.getElem?_set_ne (fun z => hk (by simp [z])), List.getElem?_set_ne (fun z => hk (by simp [z]))]
      · cases hb
    · cases hb
  · cases h
end

/-! ### comprehensions -/
def noW : WX := fun _ _ _ _ => False
/-- the tests -/
def tTs (K : Fr) (C : CallF) (cs : List E) : TT := fun σ H Q => ∃ M s, RT K M H σ s ∧ OutR K noW relB M H σ s (pures cs) (evalCs C cs s) Q
theorem pts_none {X : Cx} {C : CallF} : L2.PTs X [] (tTs X.K C []) := ⟨fun pins s σ H Q I ⟨M, s0, rt, h⟩ => L2.pts_nil.run pins s σ H Q I (by
  simp only [evalCs] at h
  exact h.2 M H true .refl (fun _ => ⟨rfl, .refl⟩) rt rfl)⟩
theorem pts_some {X : Cx} {C : CallF} {c : E} {x : Py} (h : PT X x (tT X.K noW C c)) : L2.PTs X [x] (tTs X.K C [c]) := ⟨fun pins s σ H Q I ⟨M, s0, rt, q⟩ => (L2.pts_one h).run pins s σ H Q I (by
  refine ⟨M, s0, rt, ?_⟩
  simp only [evalCs, pures, Bool.and_true] at q
  refine q.bind anti_relB (fun z => z) fun b s1 M1 H1 v hx e1 p1 rt1 rl1 h1 => ?_
  cases rl1
  have h1 := h1 true fun _ => rfl
  cases b with
  | true => exact h1.2 M1 H1 true .refl (fun _ => ⟨rfl, .refl⟩) rt1 rfl
  | false => exact h1.2 M1 H1 false .refl (fun _ => ⟨rfl, .refl⟩) rt1 rfl)⟩
theorem comp_more {is : List Nat} {fc : S → R Bool} {fe : S → R D} : ∀ {ds : List D} {s : S} {acc xs : List D} {sf : S}, compLoop is fc fe ds s acc = .ok xs sf → acc.length ≤ xs.length
  | [], s, acc, xs, sf, h => by
    simp only [compLoop] at h
    cases h
    simp
  | d :: r, s, acc, xs, sf, h => by
    simp only [compLoop] at h
    split at h
    · cases h
    · obtain ⟨b, s2, _, h⟩ := bind_is h
      split at h
      · obtain ⟨x, s3, _, h⟩ := bind_is h
        have := comp_more h
        simp at this
        omega
      · exact comp_more h
theorem comp_step {is : List Nat} {fc : S → R Bool} {fe : S → R D} {d : D} {r : List D} {s : S} {acc xs : List D} {sf : S} (h : compLoop is fc fe (d :: r) s acc = .ok xs sf) :
    ∃ s1 b s2, bindT is d s = some s1 ∧ fc s1 = .ok b s2 ∧ ((b = true ∧ ∃ x s3, fe s2 = .ok x s3 ∧ compLoop is fc fe r s3 (x :: acc) = .ok xs sf) ∨ (b = false ∧ compLoop is fc fe r s2 acc = .ok xs sf)) := by
  simp only [compLoop] at h
  split at h
  · cases h
  · rename_i s1 e
    obtain ⟨b, s2, h1, h⟩ := bind_is h
    refine ⟨s1, b, s2, e, h1, ?_⟩
    cases b with
    | true =>
      rw [if_pos rfl] at h
      obtain ⟨x, s3, h2, h⟩ := bind_is h
      exact .inl ⟨rfl, x, s3, h2, h⟩
    | false => exact .inr ⟨rfl, h⟩
theorem wipe_eq {σ σ' : L2.St} {is : List Nat} (h : ∀ j, j ∉ is → σ'[j]? = (L2.wipe σ is)[j]?) (hl : σ'.length = (L2.wipe σ is).length) : L2.wipe σ' is = L2.wipe σ is := by
  have at_in : ∀ (τ : L2.St) (vs : List Nat) (j : Nat), j ∈ vs → (L2.wipe τ vs)[j]? = if j < τ.length then some none else none := fun τ vs j => by
    induction vs with
    | nil => intro h; cases h
    | cons v vs ih =>
      intro hj
      unfold L2.wipe
      by_cases e : v = j
      · subst e
        rw [List.getElem?_set]
        simp [L2.wipe_length]
      · rw [List.getElem?_set_ne e]
        exact ih ((List.mem_cons.mp hj).resolve_left fun z => e z.symm)
  apply List.ext_getElem?
  intro j
  by_cases hj : j ∈ is
  · rw [at_in _ _ _ hj, at_in _ _ _ hj, hl, L2.wipe_length]
  · rw [L2.wipe_out hj, h j hj]
section
variable {K : Fr} {W : WX} {C : CallF} {σ : L2.St} {H : Hp} {Q : VK}
theorem comp_core {is : List Nat} {cs : List E} {e : E} {ds xs : List D} {mu : Bool} {s0 sf : S} {M1 : MM} {H1 : Hp} {J : L2.It} {w : Addr → Prop} (hi : tgIs is) (rt1 : RT K M1 H1 σ s0) (wk : Wk K J ds mu s0.h.length M1 H1 w) (pu : mu = true → pures cs = true ∧ pure e = true) (lkp : M1.lk ≠ none → mu = true)
    (hl : compLoop is (fun s => evalCs C cs s) (fun s => exports (evalE C e s)) ds s0 [] = .ok xs sf) (hxs : xs.length ≤ sizeLine)
    (hq : ∀ M' H' v, Ext s0.h.length M1 H1 sf.h.length M' H' → RT K M' H' σ (backT s0.σ is sf) → RR K sf.h.length M' H' (.own (.lst xs)) v → Fresh H1 (.own (.lst xs)) v → (∀ b, w b → H' b = H1 b) → Q v H') : ∀ D, H1 D = none → ∃ W : Nat → Nat → Hp → Prop, (∃ m, W 0 m (upd H1 D (.lst []))) ∧ ∀ i m H, W i m H →
      (J.stop i H ∧ Q (.ref D) H) ∨ (J.go i H ∧ ∃ Nx : Hp → Prop, (∀ H', Nx H' → ∃ m', m' < m ∧ W (i + 1) m' H') ∧ ∀ x H', J.yld i H x H' → tG K is x (L2.wipe σ is) H' fun σ2 H2 => L2.wipe σ2 is = L2.wipe σ is ∧ tTs K C cs σ2 H2 fun b H3 =>
        if b = true then tD K noW C e σ2 H3 fun y H4 => ∃ acc, H4 D = some (.lst acc) ∧ acc.length < PySem.sizeLine ∧ Nx (upd H4 D (.lst (acc ++ [y]))) else Nx H3) := by
    intro D hD
    have nw : ∀ b, w b → b ≠ D := fun b wb e => (wk.at_ b wb).1 (by rw [e]; exact hD)
    -- what holds at turn i
    let Pv : Nat → Hp → Prop := fun i H' => ∃ M' s' acc accV, RT K M' H' (L2.wipe σ is) ⟨wS is s'.σ, s'.h⟩ ∧ Ext s0.h.length M1 H1 s'.h.length M' H' ∧ M'.who D = some .tmp ∧ H' D = some (.lst accV) ∧ RDs K s'.h.length M' H' acc.reverse accV ∧
      (∀ b, w b → H' b = H1 b ∧ (mu = false → prot (M'.who b))) ∧ compLoop is (fun s => evalCs C cs s) (fun s => exports (evalE C e s)) (ds.drop i) s' acc = .ok xs sf
    refine ⟨fun i m H' => m = ds.length - i ∧ i ≤ ds.length ∧ Pv i H', ⟨ds.length, by simp, Nat.zero_le _, ?_⟩, ?_⟩
    · obtain ⟨t1, t2⟩ := (rt1.wiped is).tmp (o := .lst []) hD trivial
      refine ⟨M1.set D (some .tmp), s0, [], [], t1, t2.ext, MM.set_same, upd_same, .nil, fun b wb => ⟨upd_ne (nw b wb), fun z => ?_⟩, by rw [List.drop_zero]; exact hl⟩
      rw [MM.set_ne (nw b wb)]
      exact (wk.at_ b wb).2 z
    · rintro i m H' ⟨rfl, hle, M', s', acc, accV, rt', ex, hwD, hHD, ra, hwt, hc⟩
      by_cases hlt : i < ds.length
      · refine .inr ⟨wk.go i H' hlt fun b wb => (hwt b wb).1, fun H'' => Pv (i + 1) H'', fun H'' p => ⟨ds.length - (i + 1), by omega, rfl, hlt, p⟩, fun x H2 hy => ?_⟩
        obtain ⟨M2, d, hd, g2, rt2, rd2⟩ := wk.yld i M' H' _ _ x H2 hlt rt' (ex.kept rt1.hp.wf) (fun b wb => (hwt b wb).1) hy
        rw [List.drop_eq_getElem_cons hlt] at hc
        have ed : ds[i] = d := by rw [List.getElem?_eq_getElem hlt] at hd; exact Option.some.inj hd
        rw [ed] at hc
        obtain ⟨s1, b, s2, hb, hfc, hrest⟩ := comp_step hc
        refine ⟨M2, d, _, s1, rt2, rd2, bindT_wS hi hb, fun M3 σ3 rt3 hh3 ex3 out3 len3 => ?_⟩
        refine ⟨wipe_eq out3 len3, M3, s1, rt3, fun z => (pu (lkp (by rw [← ex.lk, ← g2.lk, ← ex3.lk]; exact z))).1, ?_⟩
        rw [hfc]
        have hh3 : s1.h = s'.h := hh3
        intro M4 H4 v e4 p4 rt4 rl4
        cases rl4
        have D0 : ∀ {Ma : MM} {Ha : Hp} {na nb : Nat} {Mb : MM} {Hb : Hp}, Ext na Ma Ha nb Mb Hb → Ma.who D = some .tmp → Ha D = some (.lst accV) → Mb.who D = some .tmp ∧ Hb D = some (.lst accV) := fun ex hw hH => by
          obtain ⟨k1, k2⟩ := ex.keep D _ hH (by rw [hw]; exact .inr (.inl rfl))
          exact ⟨k2.trans hw, k1⟩
        have d2 := D0 (g2.ext (n := s'.h.length)) hwD hHD
        have d3 := D0 ex3 d2.1 d2.2
        have d4 := D0 e4 d3.1 d3.2
        have wt : ∀ {Ma : MM} {Ha : Hp} {na nb : Nat} {Mb : MM} {Hb : Hp}, Ext na Ma Ha nb Mb Hb → (mu = true → ∀ b o, Ha b = some o → Hb b = some o) → (∀ b, w b → Ha b = H1 b ∧ (mu = false → prot (Ma.who b))) → ∀ b, w b → Hb b = H1 b ∧ (mu = false → prot (Mb.who b)) := fun {Ma Ha na nb Mb Hb} ex gr hw b wb => by
          obtain ⟨k1, k2⟩ := hw b wb
          cases qb : H1 b with
          | none => exact absurd qb (wk.at_ b wb).1
          | some o =>
            rw [qb] at k1
            cases hm : mu with
            | true => exact ⟨gr hm b o k1, fun z => by cases z⟩
            | false =>
              obtain ⟨l1, l2⟩ := ex.keep b o k1 (k2 hm)
              exact ⟨l1, fun _ => by rw [l2]; exact k2 hm⟩
        have w2 := wt (g2.ext (n := s'.h.length)) (fun _ b o z => (g2.keep b o z).1) hwt
        have w3 := wt ex3 (fun _ b o z => z) w2
        have w4 := wt e4 (fun z b o y => ((p4 (pu z).1).2.keep b o y).1) w3
        have ex4 : Ext s0.h.length M1 H1 s2.h.length M4 H4 := by
          have a1 := ex.trans (g2.ext (n := s'.h.length))
          have a2 := a1.trans ex3
          rw [hh3] at e4
          exact a2.trans e4
        have kp4 : Keep s'.h.length M' H' s2.h.length M4 H4 := by
          have a1 := (g2.ext (n := s'.h.length)).trans ex3
          rw [hh3] at e4
          exact (a1.trans e4).kept rt'.hp.wf
        have we := wipe_eq out3 len3
        rcases hrest with ⟨rfl, y, s3, hfe, hrec⟩ | ⟨rfl, hrec⟩
        · rw [if_pos rfl]
          refine ⟨M4, s2, rt4, fun z => (pu (lkp (by rw [← ex4.lk]; exact z))).2, ?_⟩
          rw [hfe]
          intro M5 H5 u e5 p5 rt5 rl5
          have d5 := D0 e5 d4.1 d4.2
          have hlen : accV.length < sizeLine := by
            have := comp_more hrec
            have h3 := RD.len_eq ra
            rw [List.length_reverse] at h3
            rw [List.length_cons] at this
            have : xs.length ≤ sizeLine := hxs
            omega
          refine ⟨accV, d5.2, by rw [sizeLine_is]; exact hlen, ?_⟩
          obtain ⟨t1, t2⟩ := rt5.wrTmp (o := .lst (accV ++ [u])) d5.1 trivial
          refine ⟨M5, s3, y :: acc, accV ++ [u], ?_, ?_, d5.1, upd_same, ?_, ?_, hrec⟩
          · have := t1.wiped is
            rw [we] at this
            exact this
          · have a := ex4.trans e5
            refine ⟨fun b o z p => ?_, fun b z => ?_, a.loc, a.le, a.nl, a.lk⟩
            · obtain ⟨k1, k2⟩ := a.keep b o z p
              exact ⟨by rw [upd_ne (L2.ne_of_none z hD)]; exact k1, k2⟩
            · by_cases eb : b = D
              · rw [eb]; exact hD
              · rw [upd_ne eb] at z; exact a.dom b z
          · rw [List.reverse_cons]
            have kp5 := e5.kept rt4.hp.wf
            exact (((ra.mono kp4).mono kp5).mono (t2 _)).app (.cons (RD.mono (t2 _) rl5) .nil)
          · have w5 := wt e5 (fun z b o y => ((p5 (pu z).2).2.keep b o y).1) w4
            exact fun b wb => ⟨by rw [upd_ne (nw b wb)]; exact (w5 b wb).1, (w5 b wb).2⟩
        · rw [if_neg (by intro z; cases z)]
          refine ⟨M4, s2, acc, accV, ?_, ex4, d4.1, d4.2, ra.mono kp4, w4, hrec⟩
          have := rt4.wiped is
          rw [we] at this
          exact this
      · have ei : i = ds.length := by omega
        subst ei
        refine .inl ⟨wk.stop H' fun b wb => (hwt b wb).1, ?_⟩
        rw [List.drop_length] at hc
        simp only [compLoop] at hc
        injection hc with hc1 hc2
        subst hc1 hc2
        have hlen : (backT s0.σ is s').h.length = s'.h.length := rfl
        exact hq M' H' (.ref D) ex (rt1.backT rt' ex) (.own hwD (.lst hHD ra)) (fun c _ a z => by
          injection z with z
          subst z
          exact hD) (fun b wb => (hwt b wb).1)
theorem t_comp {is : List Nat} {it : It} {cs : List E} {e : E} (hi : tgIs is) (h : tE K W C (.comp is it cs e) σ H Q) : L2.tLc (tI K W C it) (tG K is) (tTs K C cs) (tD K noW C e) is σ H Q := by
  obtain ⟨M, s, rt, h⟩ := h
  simp only [evalE, pure] at h
  have lk : M.lk = none := by
    cases z : M.lk with
    | none => rfl
    | some b => have := h.1 (by rw [z]; intro q; cases q); cases this
  have h := h.2
  refine ⟨M, s, lk, rt, ?_⟩
  cases q : evalIt C it s with
  | stuck => rw [q] at h; exact h
  | raise x s1 => rw [q] at h; exact h
  | ok p s0 =>
    obtain ⟨ds, mu⟩ := p
    rw [q, bind_ok] at h
    intro M1 H1 J w e1 rt1 wk
    by_cases g : (mu && !(pures cs && pure e)) = true
    · rw [if_pos g] at h; exact h.elim
    rw [if_neg g] at h
    have pu : mu = true → pures cs = true ∧ pure e = true := fun z => by
      subst z
      simp only [Bool.true_and, Bool.not_eq_true', Bool.and_eq_true] at g
      simpa using g
    cases hl : compLoop is (fun s => evalCs C cs s) (fun s => exports (evalE C e s)) ds s0 [] with
    | stuck => rw [hl] at h; exact h.elim
    | raise x s1 => rw [hl] at h; exact h.elim
    | ok xs sf =>
      rw [hl, calm_ok, bind_ok] at h
      cases hz : newLst xs with
      | none => rw [hz] at h; exact h.elim
      | some z =>
        obtain ⟨rfl, hxs⟩ := newLst_some hz
        rw [hz] at h
        refine comp_core hi rt1 wk pu (fun z => (lkF (e1.lk.trans lk) z).elim) hl hxs fun M' H' v e2 rt2 rr fr _ => ?_
        exact h M' H' v (e1.trans e2) (fun z => by cases z) rt2 ⟨rr, fun c e a z => e1.dom a (fr c e a z)⟩
end
end KW
/-! KwKeys: a dict's keys walked, the dict locked meanwhile. -/
namespace KW
open PySem (Str Addr Value Program World Heap Operator CmpOp binaryOp compareOp PyData Scope Const Env wpAny_bind wpAny_mono)
open PySem.Spec PyProof.Rows
open L2 (V Hp HO upd upd_same upd_ne upd_upd SqL SqT Rd RelV Mut TE TT TA TS TI TG PI PG WX PE PT PW PA PS PSs Cx Inv OpR UnR CallR MtR IxR SlR TruR VK EP XK rI0)
/-- one object is replaced by another that is read alike -/
structure Sw (H H' : Hp) : Prop where
  rdT : ∀ a vs, Rd H a (.tup vs) → Rd H' a (.tup vs)
  rdK : ∀ a gs, Rd H a (.dK gs) → Rd H' a (.dK gs)
  rdL : ∀ a vs, Rd H a (.lst vs) → Rd H' a (.lst vs)
  lst : ∀ a vs, H a = some (.lst vs) → H' a = some (.lst vs)
  ins : ∀ a c d fs, H a = some (.ins c d fs) → H' a = some (.ins c d fs)
section
variable {K : Fr} {n : Nat} {M M' : MM} {H H' : Hp} {σ : L2.St} {s : S}
mutual
theorem RD.sw (w : Sw H H') (hw : M'.who = M.who) (hl : M'.loc = M.loc) : ∀ {d : D} {v : V}, RD K n M H d v → RD K n M' H' d v
  | _, _, .non => .non
  | _, _, .bl b => .bl b
  | _, _, .int i => .int i
  | _, _, .str t h => .str t h
  | _, _, .tup h hs => .tup (h.elim (fun h => .inl (w.rdT _ _ h)) .inr) (RDs.sw w hw hl hs)
  | _, _, .lst h h2 hs => .lst (w.rdL _ _ h) (by rw [hw]; exact h2) (RDs.sw w hw hl hs)
  | _, _, .dct h h2 hk hn hs => .dct (w.rdK _ _ h) (by rw [hw]; exact h2) hk hn (RDs.sw w hw hl hs)
  | _, _, .ref h => by rw [← hl]; exact .ref h
theorem RDs.sw (w : Sw H H') (hw : M'.who = M.who) (hl : M'.loc = M.loc) : ∀ {d : List D} {v : List V}, RDs K n M H d v → RDs K n M' H' d v
  | _, _, .nil => .nil
  | _, _, .cons a b => .cons (RD.sw w hw hl a) (RDs.sw w hw hl b)
end
theorem RC.sw (w : Sw H H') (hw : M'.who = M.who) (hl : M'.loc = M.loc) {c : Cont} {a : Addr} (h : RC K n M H c a) : RC K n M' H' c a := by
  cases h with
  | lst h hs => exact .lst (w.lst _ _ h) (hs.sw w hw hl)
  | dct h hk hn hs => exact .dct (w.rdK _ _ h) hk hn (hs.sw w hw hl)
theorem RS.sw (w : Sw H H') (hw : M'.who = M.who) (hl : M'.loc = M.loc) {p : Pl} {sv : SV} {v : V} (h : RS K n M H p sv v) : RS K n M' H' p sv v := by
  cases h with
  | val h => exact .val (h.sw w hw hl)
  | own h hc => exact .own (by rw [hw]; exact h) (hc.sw w hw hl)
theorem RFs.sw (w : Sw H H') (hw : M'.who = M.who) (hl : M'.loc = M.loc) {i : Nat} : ∀ {fs : List (String × SV)} {gs : List (Str × V)}, RFs K n M H i fs gs → RFs K n M' H' i fs gs
  | _, _, .nil => .nil
  | _, _, .cons a b => .cons (a.sw w hw hl) (RFs.sw w hw hl b)
theorem REs.sw (w : Sw H H') (hw : M'.who = M.who) (hl : M'.loc = M.loc) {i : Nat} : ∀ {fs : List (Key × SV)} {gs : List (L2.Key × V)}, REs K n M H i fs gs → REs K n M' H' i fs gs
  | _, _, .nil => .nil
  | _, _, .cons a b => .cons (a.sw w hw hl) (REs.sw w hw hl b)
theorem RCell.sw (w : Sw H H') (hw : M'.who = M.who) (hl : M'.loc = M.loc) {i : Nat} {c : Cell} (h : RCell K n M H i c) : RCell K n M' H' i c := by
  cases h with
  | ins h hn hf => exact .ins (by rw [hl]; exact w.ins _ _ _ _ h) hn (hf.sw w hw hl)
  | lst h hs => exact .lst (by rw [hl]; exact w.lst _ _ h) (hs.sw w hw hl)
  | dct h hn hf => exact .dct (by rw [hl]; exact w.rdK _ _ h) hn (hf.sw w hw hl)
theorem RR.sw (w : Sw H H') (hw : M'.who = M.who) (hl : M'.loc = M.loc) {x : RV} {v : V} (h : RR K n M H x v) : RR K n M' H' x v := by
  cases h with
  | val h => exact .val (h.sw w hw hl)
  | own h hc => exact .own (by rw [hw]; exact h) (hc.sw w hw hl)
  | pk h hc => exact .pk (by rw [hw]; exact h) (hc.sw w hw hl)
theorem RH.sw {h : List Cell} (r : RH K M H h) (w : Sw H H') (hw : M'.who = M.who) (hl : M'.loc = M.loc) (wf : ∀ a l, M'.who a = some l → Mx M'.lk a (H' a)) : RH K M' H' h :=
  ⟨wf, fun i hi => by rw [hl, hw]; exact r.lb i hi, fun a b l h1 h2 e1 e2 => r.uq a b l h1 h2 (by rw [← hw]; exact e1) (by rw [← hw]; exact e2), fun i c q => (r.cell i c q).sw w hw hl⟩
theorem RT.sw (r : RT K M H σ s) (w : Sw H H') (hw : M'.who = M.who) (hl : M'.loc = M.loc) (wf : ∀ a l, M'.who a = some l → Mx M'.lk a (H' a)) : RT K M' H' σ s := by
  refine ⟨⟨wf, fun i hi => by rw [hl, hw]; exact r.hp.lb i hi, fun a b l h1 h2 e1 e2 => r.hp.uq a b l h1 h2 (by rw [← hw]; exact e1) (by rw [← hw]; exact e2), fun i c q => (r.hp.cell i c q).sw w hw hl⟩, r.len, fun j sv q => ?_⟩
  obtain ⟨v, h1, h2⟩ := r.sl j sv q
  exact ⟨v, h1, h2.sw w hw hl⟩
theorem sw_lock {d : Addr} {o : PySem.Obj} {gs : List (L2.Key × V)} (h : H d = some (.dK gs)) : Sw H (upd H d (.frz o (.dK gs))) := by
  refine ⟨fun a u r => ?_, fun a u r => ?_, fun a u r => ?_, fun a vs r => ?_, fun a c dx fs r => ?_⟩
  · refine rd_eq r (upd_ne fun e => ?_)
    subst e
    rcases r with r | ⟨o', r⟩ <;> (rw [h] at r; cases r)
  · by_cases e : a = d
    · subst e
      rcases r with r | ⟨o', r⟩
      · rw [h] at r; cases r
        exact .inr ⟨o, upd_same⟩
      · rw [h] at r; cases r
    · exact rd_eq r (upd_ne e)
  · refine rd_eq r (upd_ne fun e => ?_)
    subst e
    rcases r with r | ⟨o', r⟩ <;> (rw [h] at r; cases r)
  · rw [upd_ne (fun e => by rw [e, h] at r; cases r)]; exact r
  · rw [upd_ne (fun e => by rw [e, h] at r; cases r)]; exact r
theorem sw_unlock {d : Addr} {o : PySem.Obj} {gs : List (L2.Key × V)} (h : H d = some (.frz o (.dK gs))) : Sw H (upd H d (.dK gs)) := by
  refine ⟨fun a u r => ?_, fun a u r => ?_, fun a u r => ?_, fun a vs r => ?_, fun a c dx fs r => ?_⟩
  · refine rd_eq r (upd_ne fun e => ?_)
    subst e
    rcases r with r | ⟨o', r⟩ <;> (rw [h] at r; cases r)
  · by_cases e : a = d
    · subst e
      rcases r with r | ⟨o', r⟩
      · rw [h] at r; cases r
      · rw [h] at r; cases r
        exact .inl upd_same
    · exact rd_eq r (upd_ne e)
  · refine rd_eq r (upd_ne fun e => ?_)
    subst e
    rcases r with r | ⟨o', r⟩ <;> (rw [h] at r; cases r)
  · rw [upd_ne (fun e => by rw [e, h] at r; cases r)]; exact r
  · rw [upd_ne (fun e => by rw [e, h] at r; cases r)]; exact r
theorem Sw.refl : Sw H H := ⟨fun _ _ r => r, fun _ _ r => r, fun _ _ r => r, fun _ _ r => r, fun _ _ _ _ r => r⟩
end
/-! ### a term that names a thing -/
def pathT (K : Fr) : E → TE
  | .var i => L2.tVar i
  | .fld _ (.var i) f => L2.tFld K (L2.tVar i) (sst f)
  | _ => fun _ _ _ => False
section
variable {G : Tabs} {X : Cx} {W : WX} {C : CallF} {σ : L2.St} {H : Hp} {Q : VK}
theorem p_path {e : E} {p : Py} (hp : isPath e = true) (h : mE G X.env.scope X.N e p = true) : PE X p (pathT X.K e) := by
  have var : ∀ (i : Nat) (p : Py), mE G X.env.scope X.N (.var i) p = true → PE X p (L2.tVar i) := fun i p h => by
    simp only [mE] at h
    split at h
    · rename_i x e
      obtain ⟨q, rfl⟩ := vName_eq e
      simp only [Bool.and_eq_true, decide_eq_true_eq] at h
      exact L2.pe_var h.1.1 (visB_vis h.1.2) (nameB_ne h.2).1 (nameB_ne h.2).2.1
    · cases h
  unfold isPath at hp
  split at hp
  · exact var _ _ h
  · rename_i cs i f
    simp only [mE] at h
    split at h
    · rename_i b g q
      obtain ⟨h12, h3⟩ := Bool.and_eq_true_iff.mp h
      obtain ⟨h1, h2⟩ := Bool.and_eq_true_iff.mp h12
      obtain rfl := of_decide_eq_true h1
      unfold vAttr at q
      split at q
      · split at q
        · rename_i hb
          injection q with q
          injection q with q1 q2
          subst q1 q2
          exact L2.pe_fld (var i _ (by simpa only [mE] using h3)) (base_ok hb _ _)
        · cases q
      · cases q
    · cases h
  · cases hp
theorem path_no {s : S} {e : E} (hp : isPath e = true) {x : Exc} {s' : S} (h : evalE C e s = .raise x s') : False := by
  have slot : ∀ {i : Nat} {x : Exc} {s' : S}, evalE C (.var i) s = .raise x s' → False := fun {i x s'} h => by
    simp only [evalE] at h
    split at h <;> cases h
  unfold isPath at hp
  split at hp
  · exact slot h
  · rename_i cs i f
    unfold evalE at h
    cases q : evalE C (.var i) s with
    | stuck => rw [q] at h; cases h
    | raise y s1 => exact slot q
    | ok y s1 =>
      rw [q, bind_ok] at h
      repeat' first | (cases h; done) | split at h
  · cases hp
theorem path_at {M : MM} {s s' : S} {e : E} {x : RV} (rt : RT X.K M H σ s) (hp : isPath e = true) (fl : ∀ c f, G.fl.contains (c, f) = true → L2.Cls X.K (cA X.K c) ∧ L2.NoAttr X.K (cA X.K c) (sst f)) {p : Py} (hm : mE G X.env.scope X.N e p = true) (h : evalE C e s = .ok x s') :
    s' = s ∧ (∃ v, RR X.K s.h.length M H x v ∧ ∀ H' Q, Sw H H' → Q v H' → pathT X.K e σ H' Q) ∧ ∀ c, x ≠ .own c := by
  have slot : ∀ {i : Nat} {x : RV} {s' : S}, evalE C (.var i) s = .ok x s' → s' = s ∧ (∃ v, σ[i]? = some (some v) ∧ RR X.K s.h.length M H x v) ∧ ∀ c, x ≠ .own c := fun {i x s'} h => by
    simp only [evalE] at h
    cases e : s.σ[i]? with
    | none => rw [e] at h; cases h
    | some o => cases o with
      | none => rw [e] at h; cases h
      | some sv =>
        rw [e] at h
        injection h with h1 h2
        subst h1 h2
        obtain ⟨v, g1, g2⟩ := rt.sl i sv e
        refine ⟨rfl, ⟨v, g1, ?_⟩, fun c z => no_own_rv z⟩
        cases g2 with
        | val r => exact .val r
        | own r1 r2 => exact .pk r1 r2
  unfold isPath at hp
  split at hp
  · obtain ⟨h1, ⟨v, h2, h3⟩, h4⟩ := slot h
    exact ⟨h1, ⟨v, h3, fun H' Q _ q => ⟨v, h2, q⟩⟩, h4⟩
  · rename_i cs i f
    simp only [evalE] at h
    obtain ⟨y, s1, h1, h2⟩ := bind_is h
    obtain ⟨rfl, ⟨v, g2, g3⟩, _⟩ := slot (i := i) (by simp only [evalE]; exact h1)
    have hcs : ∀ c, cs.contains c = true → G.fl.contains (c, f) = true := fun c hc => by
      simp only [mE] at hm
      split at hm
      · obtain ⟨h12, _⟩ := Bool.and_eq_true_iff.mp hm
        obtain ⟨_, h2⟩ := Bool.and_eq_true_iff.mp h12
        exact List.all_eq_true.mp h2 c (by simpa using hc)
      · cases hm
    split at h2
    · rename_i j
      split at h2
      · rename_i c fs q
        split at h2
        · rename_i gc
          split at h2
          · rename_i sv qf
            injection h2 with h3 h4
            subst h3 h4
            cases g3 with
            | val rd =>
              cases rd with
              | ref hi =>
                cases rt.hp.cell _ _ q with
                | ins c1 c2 c3 =>
                  obtain ⟨u, l1, l2⟩ := c3.get qf
                  obtain ⟨k1, k2⟩ := fl c f (hcs c gc)
                  refine ⟨rfl, ⟨u, ?_, fun H' Q w q => ⟨_, g2, _, _, _, _, u, rfl, w.ins _ _ _ _ c1, k1, k2, l1, q⟩⟩, fun c z => no_own_rv z⟩
                  cases l2 with
                  | val r => exact .val r
                  | own r1 r2 => exact .pk r1 r2
          · cases h2
        · cases h2
      · cases h2
    · rename_i cl fs
      cases g3 with
      | val rd => cases rd
    · cases h2
  · cases hp

/-! ### the walk -/
theorem RG.at_ {K : Fr} {n : Nat} {M : MM} {P : Key → SV → V → Prop} : ∀ {fs : List (Key × SV)} {gs : List (L2.Key × V)}, RG K n M H P fs gs → ∀ {i : Nat} {k : L2.Key} {v : V}, gs[i]? = some (k, v) → ∃ k' sv, fs[i]? = some (k', sv) ∧ k = mkey k' ∧ P k' sv v
  | _, _, .nil, i, _, _, h => by simp at h
  | _, _, .cons p r, 0, k, v, h => by
    simp at h
    obtain ⟨rfl, rfl⟩ := h
    exact ⟨_, _, rfl, rfl, p⟩
  | _, _, .cons p r, i + 1, k, v, h => by
    obtain ⟨k', sv, h1, h2, h3⟩ := RG.at_ r (i := i) (by simpa using h)
    exact ⟨k', sv, by simpa using h1, h2, h3⟩
theorem RG.len {K : Fr} {n : Nat} {M : MM} {P : Key → SV → V → Prop} : ∀ {fs : List (Key × SV)} {gs : List (L2.Key × V)}, RG K n M H P fs gs → fs.length = gs.length
  | _, _, .nil => rfl
  | _, _, .cons _ r => by rw [List.length_cons, List.length_cons, RG.len r]
theorem key_rd {K : Fr} {n : Nat} {M : MM} {k : Key} (h : okK k) : RD K n M H (keyD k) (L2.kV (mkey k)) := by
  cases k with
  | inl i => exact .int i
  | inr t => exact .str t h
theorem wk_keys {K : Fr} {n n0 : Nat} {M M0 : MM} {H0 : Hp} {P : Key → SV → V → Prop} {d : Addr} {o : PySem.Obj} {fs : List (Key × SV)} {gs : List (L2.Key × V)} {mu : Bool} (h : H d = some (.frz o (.dK gs))) (ko : KOk (fs.map (·.1))) (rg : RG K n0 M0 H0 P fs gs) (hp : mu = false → prot (M.who d)) :
    Wk K (L2.Itk d o gs) (fs.map fun e => keyD e.1) mu n M H (fun b => b = d) := by
  have hl := rg.len
  refine ⟨fun b e => by subst e; exact ⟨by rw [h]; exact (fun z => by cases z), hp⟩, fun i H' hi e => ⟨by rw [e d rfl]; exact h, by simpa [← hl] using hi⟩, fun H' e => ⟨by rw [e d rfl]; exact h, by simp [← hl]⟩, fun i M' H' σ' s' x H'' hi rt' kp e y => ?_⟩
  obtain ⟨rfl, k, v, y1, rfl⟩ := y
  obtain ⟨k', sv, z1, rfl, _⟩ := rg.at_ y1
  have hm : k' ∈ fs.map (·.1) := List.mem_map.mpr ⟨_, List.mem_of_getElem? z1, rfl⟩
  exact ⟨M', keyD k', by rw [List.getElem?_map, z1]; rfl, .refl, rt', key_rd (ko.ok k' hm)⟩
theorem pe_orLock {X : Cx} {e : Py} {t : TE} (h : PE X e t) : PE X e (fun σ H Q => L2.tLockE t σ H Q ∨ t σ H Q) := ⟨fun pins s σ H Q I q => q.elim (fun q => (L2.pe_lock h).run pins s σ H Q I q) (fun q => h.run pins s σ H Q I q)⟩
theorem vKeys_eq {n : String} {p b : Py} (h : vKeys n p = some b) : ∃ p1 p2, p = .Call (.Attribute b (sst n) p1) [] [] p2 ∧ baseB b = true ∧ p1.endLine = p2.line := by
  unfold vKeys at h
  split at h
  · rename_i b' m e
    split at h
    · rename_i g
      injection h with h
      subst h
      obtain rfl := of_decide_eq_true g
      obtain ⟨p1, p2, h1, h2, h3, _, _⟩ := vAt_eq e
      exact ⟨p1, p2, h1, h2, h3⟩
    · cases h
  · cases h
/-- e.keys() walked -/
theorem pi_keysE {tg : Py} {e0 : E} {p b : Py} (hp : isPath e0 = true) (hk : vKeys "keys" p = some b) (h : mE G X.env.scope X.N e0 b = true) : PI X tg p (L2.iKeysM (pathT X.K e0)) := by
  obtain ⟨p1, p2, rfl, h1, h2⟩ := vKeys_eq hk
  exact L2.pi_keysM (p_path hp h) (base_ok h1 _ _) (by rw [h2]; exact beq_self_eq_true _)
theorem backT_h {σ0 : List (Option SV)} {is : List Nat} {s : S} : (backT σ0 is s).h = s.h := rfl
/-- a comprehension over the keys of a dict: the reading, locked or not -/
theorem t_keysComp {is : List Nat} {cs : List E} {e0 e : E} {p : Py} (hi : tgIs is) (hp : isPath e0 = true) (fl : ∀ c f, G.fl.contains (c, f) = true → L2.Cls X.K (cA X.K c) ∧ L2.NoAttr X.K (cA X.K c) (sst f)) (hm : mE G X.env.scope X.N e0 p = true) (h : tE X.K W C (.comp is (.keys e0) cs e) σ H Q) :
    L2.tLockE (L2.tLc (L2.iKeysM (pathT X.K e0)) (tG X.K is) (tTs X.K C cs) (tD X.K noW C e) is) σ H Q ∨ L2.tLc (L2.iKeysM (pathT X.K e0)) (tG X.K is) (tTs X.K C cs) (tD X.K noW C e) is σ H Q := by
  obtain ⟨M, s, rt, h⟩ := h
  simp only [evalE, evalIt, pure] at h
  have lk : M.lk = none := by
    cases z : M.lk with
    | none => rfl
    | some b => have := h.1 (by rw [z]; intro q; cases q); cases this
  have h := h.2
  cases q : evalE C e0 s with
  | stuck => rw [q] at h; exact h.elim
  | raise x s1 =>
    exact (path_no hp q).elim
  | ok x s' =>
    obtain ⟨rfl, ⟨v, rr, pt⟩, nown⟩ := path_at rt hp fl hm q
    rw [q, bind_ok] at h
    cases hd : dctOf s'.h x with
    | none => rw [hd] at h; exact h.elim
    | some qd =>
      rw [hd] at h
      obtain ⟨a, gs, rfl, ra, ko, rg⟩ := dct_at rt rr hd
      simp only [Option.map_some, opt, bind_ok] at h
      generalize hmu : muOf x = mu at h
      by_cases g : (mu && !(pures cs && pure e)) = true
      · rw [if_pos g] at h; exact h.elim
      rw [if_neg g] at h
      have pu : mu = true → pures cs = true ∧ pure e = true := fun z => by
        rw [z] at g
        simp only [Bool.true_and, Bool.not_eq_true', Bool.and_eq_true] at g
        simpa using g
      have nobody : mu = false → M.who a = none := fun z => by
        cases rr with
        | own _ _ => exact absurd rfl (nown _)
        | pk _ _ => rw [z] at hmu; cases hmu
        | val r => cases r with
          | dct _ hw _ _ _ => exact hw
          | ref _ => rw [z] at hmu; cases hmu
          | _ => cases hd
      cases hl : compLoop is (fun s => evalCs C cs s) (fun s => exports (evalE C e s)) (qd.2.map fun e => keyD e.1) s' [] with
      | stuck => rw [hl] at h; exact h.elim
      | raise x s1 => rw [hl] at h; exact h.elim
      | ok xs sf =>
        rw [hl, calm_ok, bind_ok] at h
        cases hz : newLst xs with
        | none => rw [hz] at h; exact h.elim
        | some z =>
          obtain ⟨rfl, hxs⟩ := newLst_some hz
          rw [hz] at h
          rcases ra with ra | ⟨od, ra⟩
          · left
            refine ⟨a, .dK gs, ra, trivial, fun od => ?_⟩
            refine pt _ _ (sw_lock ra) ⟨a, od, gs, rfl, upd_same, ?_⟩
            have rt1 : RT X.K { M with lk := if mu = true then some a else none } (upd H a (.frz od (.dK gs))) σ s' := by
              refine rt.sw (sw_lock ra) rfl rfl fun b l hb => ?_
              by_cases eb : b = a
              · subst eb
                rw [upd_same]
                cases hmm : mu with
                | true => exact .inr ⟨rfl, od, _, rfl, trivial⟩
                | false => have := nobody hmm; rw [this] at hb; cases hb
              · rw [upd_ne eb]
                have := rt.hp.wf b l hb
                rw [lk] at this
                exact .inl this.off
            refine comp_core (Q := fun v H' => H' a = some (.frz od (.dK gs)) ∧ Q v (upd H' a (.dK gs))) hi rt1 (wk_keys upd_same ko rg fun z => .inl (nobody z)) pu (fun z => ?_) hl hxs fun M' H' v e2 rt2 rr2 fr hw => ?_
            · cases hmm : mu with
              | true => rfl
              | false => rw [hmm] at z; exact absurd rfl z
            · have ha : H' a = some (.frz od (.dK gs)) := (hw a rfl).trans upd_same
              refine ⟨ha, ?_⟩
              have wa : M'.who a = M.who a ∨ prot (M.who a) → True := fun _ => trivial
              have rt3 : RT X.K { M' with lk := none } (upd H' a (.dK gs)) σ (backT s'.σ is sf) := by
                refine rt2.sw (sw_unlock ha) rfl rfl fun b l hb => ?_
                by_cases eb : b = a
                · subst eb; rw [upd_same]; exact .inl trivial
                · rw [upd_ne eb]
                  rcases rt2.hp.wf b l hb with z | ⟨z, _⟩
                  · exact .inl z
                  · rw [e2.lk] at z
                    split at z
                    · injection z with z; exact absurd z.symm eb
                    · cases z
              refine h { M' with lk := none } _ v ?_ (fun z => by cases z) rt3 ⟨RR.sw (M := M') (M' := { M' with lk := none }) (sw_unlock ha) rfl rfl rr2, fun c e0 b z => ?_⟩
              · refine ⟨fun b o hb pb => ?_, fun b hb => ?_, e2.loc, e2.le, fun b hb => ?_, lk.symm⟩
                · by_cases eb : b = a
                  · subst eb
                    rw [ra] at hb; cases hb
                    exact ⟨upd_same, (e2.keep b _ upd_same pb).2⟩
                  · obtain ⟨k1, k2⟩ := e2.keep b o (by rw [upd_ne eb]; exact hb) pb
                    exact ⟨by rw [upd_ne eb]; exact k1, k2⟩
                · by_cases eb : b = a
                  · subst eb; rw [upd_same] at hb; cases hb
                  · rw [upd_ne eb] at hb
                    have := e2.dom b hb
                    rw [upd_ne eb] at this
                    exact this
                · rcases e2.nl b hb with k | k
                  · exact .inl k
                  · by_cases eb : b = a
                    · subst eb; rw [upd_same] at k; cases k
                    · rw [upd_ne eb] at k; exact .inr k
              · have := fr c e0 b z
                by_cases eb : b = a
                · subst eb; rw [upd_same] at this; cases this
                · rw [upd_ne eb] at this; exact this
          · right
            refine pt _ _ .refl ⟨a, od, gs, rfl, ra, ?_⟩
            have hwn : M.who a = none := by
              cases z : M.who a with
              | none => rfl
              | some l =>
                have := rt.hp.wf a l z
                rw [lk, ra] at this
                exact this.off.elim
            refine comp_core hi rt (wk_keys ra ko rg fun z => .inl hwn) pu (fun z => (lkF lk z).elim) hl hxs fun M' H' v e2 rt2 rr2 fr hw => ?_
            exact h M' H' v e2 (fun z => by cases z) rt2 ⟨rr2, fr⟩
end
end KW
/-! KwDict: dicts: entries put, taken out, asked; copies. -/
namespace KW
open PySem (Str Addr Value Program World Heap Operator CmpOp binaryOp compareOp PyData Scope Const Env wpAny_bind wpAny_mono)
open PySem.Spec PyProof.Rows
open L2 (V Hp HO upd upd_same upd_ne upd_upd SqL SqT Rd RelV Mut TE TT TA TS TI TG PI PG WX PE PT PW PA PS PSs Cx Inv OpR UnR CallR MtR IxR SlR TruR VK EP XK rI0)
/-! ### entries -/
theorem putK_cons (p : L2.Key × V) (r : List (L2.Key × V)) (k : L2.Key) (v : V) : L2.putK (p :: r) k v = if p.1 = k then (p.1, v) :: r.map (fun kv => if kv.1 = k then (kv.1, v) else kv) else p :: L2.putK r k v := by
  unfold L2.putK
  by_cases e : p.1 = k
  · simp [e]
  · simp only [List.any_cons, decide_eq_false e, Bool.false_or, List.map_cons, if_neg e]
    split <;> rfl
theorem repl_id {k : L2.Key} {v : V} : ∀ {r : List (L2.Key × V)}, k ∉ r.map (·.1) → r.map (fun kv => if kv.1 = k then (kv.1, v) else kv) = r
  | [], _ => rfl
  | p :: r, h => by
    rw [List.map_cons] at h
    have h1 : ¬ p.1 = k := fun z => h (by rw [z]; exact List.mem_cons_self)
    rw [List.map_cons, if_neg h1, repl_id fun z => h (List.mem_cons_of_mem _ z)]
theorem kput_mem {α : Type} {k : Key} {v : α} : ∀ {fs : List (Key × α)} {j : Key}, j ∈ (kput k v fs).map (·.1) → j = k ∨ j ∈ fs.map (·.1)
  | [], j, h => by simp [kput] at h; exact .inl h
  | q :: r, j, h => by
    unfold kput at h
    split at h
    · exact .inr h
    · rcases List.mem_cons.mp (show j ∈ q.1 :: (kput k v r).map (·.1) from h) with z | z
      · exact .inr (by rw [z]; exact List.mem_cons_self)
      · exact (kput_mem z).imp id fun z => List.mem_cons_of_mem _ z
theorem kput_ok {α : Type} {k : Key} {v : α} (hk : okK k) : ∀ {fs : List (Key × α)}, KOk (fs.map (·.1)) → KOk ((kput k v fs).map (·.1))
  | [], _ => ⟨by simp [kput], fun j hj => by simp [kput] at hj; subst hj; exact hk⟩
  | q :: r, h => by
    have hn := List.nodup_cons.mp (show (q.1 :: r.map (·.1)).Nodup from h.nd)
    have hr : KOk (r.map (·.1)) := ⟨hn.2, fun j hj => h.ok j (List.mem_cons_of_mem _ hj)⟩
    unfold kput
    split
    · exact h
    · rename_i ne
      have ih := kput_ok (v := v) hk hr
      refine ⟨List.nodup_cons.mpr ⟨fun z => ?_, ih.nd⟩, fun j hj => ?_⟩
      · rcases kput_mem z with z | z
        · exact ne z
        · exact hn.1 z
      · rcases List.mem_cons.mp hj with z | z
        · subst z; exact h.ok _ List.mem_cons_self
        · exact ih.ok j z
theorem kdel_ok {α : Type} {k : Key} {fs : List (Key × α)} (h : KOk (fs.map (·.1))) : KOk ((kdel k fs).map (·.1)) :=
  ⟨h.nd.sublist (List.filter_sublist.map _), fun j hj => h.ok j (by
    obtain ⟨q, h1, h2⟩ := List.mem_map.mp hj
    exact List.mem_map.mpr ⟨q, (List.mem_filter.mp h1).1, h2⟩)⟩
section
variable {K : Fr} {n n' : Nat} {M M' : MM} {H H' : Hp} {σ : L2.St} {s : S}
theorem RG.put {P : Key → SV → V → Prop} {k : Key} {sv : SV} {v : V} (p : P k sv v) : ∀ {fs : List (Key × SV)} {gs : List (L2.Key × V)}, RG K n M H P fs gs → (fs.map (·.1)).Nodup → RG K n M H P (kput k sv fs) (L2.putK gs (mkey k) v)
  | _, _, .nil, _ => .cons p .nil
  | _, _, .cons (k := k0) (fs := fs) (gs := gs) a b, h => by
    have hn := List.nodup_cons.mp (show (k0 :: fs.map (·.1)).Nodup from h)
    rw [putK_cons]
    unfold kput
    by_cases e : k0 = k
    · subst e
      rw [if_pos rfl, if_pos rfl]
      rw [repl_id]
      · exact .cons p b
      · rw [b.keys]
        intro z
        obtain ⟨q, h1, h2⟩ := List.mem_map.mp z
        exact hn.1 (List.mem_map.mpr ⟨q, h1, mkey_inj h2⟩)
    · rw [if_neg e, if_neg fun z => e (mkey_inj z)]
      exact .cons a (RG.put p b hn.2)
theorem RG.del {P : Key → SV → V → Prop} {k : Key} : ∀ {fs : List (Key × SV)} {gs : List (L2.Key × V)}, RG K n M H P fs gs → RG K n M H P (kdel k fs) (L2.dropK gs (mkey k))
  | _, _, .nil => .nil
  | _, _, .cons (k := k0) a b => by
    unfold kdel L2.dropK
    rw [List.filter_cons, List.filter_cons]
    by_cases e : k0 = k
    · subst e
      simp only [decide_true, Bool.not_true, ne_eq, not_true_eq_false, decide_false, Bool.false_eq_true, if_false]
      exact RG.del b
    · have e2 : ¬ mkey k0 = mkey k := fun z => e (mkey_inj z)
      simp only [decide_eq_false e, Bool.not_false, if_true, ne_eq, e2, not_false_eq_true, decide_true]
      exact .cons a (RG.del b)
theorem RG.mono {P P' : Key → SV → V → Prop} (hp : ∀ k sv v, P k sv v → P' k sv v) : ∀ {fs : List (Key × SV)} {gs : List (L2.Key × V)}, RG K n M H P fs gs → RG K n' M' H' P' fs gs
  | _, _, .nil => .nil
  | _, _, .cons a b => .cons (hp _ _ _ a) (RG.mono hp b)
theorem plain_put {k : Key} {d : D} : ∀ kvs : List (Key × D), plainEs (kput k d kvs) = kput k (.val d) (plainEs kvs)
  | [] => rfl
  | q :: r => by
    simp only [plainEs, List.map_cons, kput]
    by_cases e : q.1 = k
    · rw [if_pos e, if_pos e]; rfl
    · rw [if_neg e, if_neg e, List.map_cons]
      have := plain_put (k := k) (d := d) r
      simp only [plainEs] at this
      rw [this]
theorem plain_del {k : Key} : ∀ kvs : List (Key × D), plainEs (kdel k kvs) = kdel k (plainEs kvs)
  | [] => rfl
  | q :: r => by
    have ih := plain_del (k := k) r
    unfold kdel at ih ⊢
    simp only [plainEs, List.map_cons, List.filter_cons] at ih ⊢
    split
    · rw [List.map_cons, ih]
    · exact ih
theorem plain_un {kvs : List (Key × D)} : (plainEs kvs).map (fun q => (q.1, unSV q.2)) = kvs := by
  induction kvs with
  | nil => rfl
  | cons q r ih => simp only [plainEs, List.map_cons] at ih ⊢; rw [ih]; rfl
theorem plain_keys (kvs : List (Key × D)) : (plainEs kvs).map (·.1) = kvs.map (·.1) := by simp [plainEs]
/-- plain entries, as a dict's content -/
theorem rg_zip : ∀ {kvs : List (Key × D)} {gs : List (L2.Key × V)}, RG K n M H (fun _ sv v => RD K n M H (unSV sv) v) (plainEs kvs) gs → gs = (kvs.map fun q => mkey q.1).zip (gs.map (·.2)) ∧ RDs K n M H (kvs.map (·.2)) (gs.map (·.2))
  | [], _, .nil => ⟨rfl, .nil⟩
  | q :: r, _, .cons (v := v) (gs := gs) a b => by
    obtain ⟨h1, h2⟩ := rg_zip (kvs := r) b
    exact ⟨by rw [List.map_cons, List.map_cons, List.zip_cons_cons, ← h1], .cons (by simpa using a) h2⟩
theorem rc_dct {kvs : List (Key × D)} {gs : List (L2.Key × V)} {a : Addr} (h : Rd H a (.dK gs)) (ko : KOk (kvs.map (·.1))) (r : RG K n M H (fun _ sv v => RD K n M H (unSV sv) v) (plainEs kvs) gs) : RC K n M H (.dct kvs) a := by
  obtain ⟨h1, h2⟩ := rg_zip r
  exact .dct (by rw [← h1]; exact h) rfl ko h2
theorem rc_rg {kvs : List (Key × D)} {a : Addr} (h : RC K n M H (.dct kvs) a) : ∃ gs, Rd H a (.dK gs) ∧ KOk (kvs.map (·.1)) ∧ RG K n M H (fun _ sv v => RD K n M H (unSV sv) v) (plainEs kvs) gs := by
  cases h with
  | dct h hk hn hs => subst hk; exact ⟨_, h, hn, flat_rg hs⟩
theorem rd_mut {a : Addr} {u : HO} (h : Rd H a u) (m : Mut (H a)) : H a = some u := by
  rcases h with h | ⟨o, h⟩
  · exact h
  · rw [h] at m; exact m.elim
theorem RT.mut (r : RT K M H σ s) (lk : M.lk = none) {a : Addr} {l : Lb} {u : HO} (hw : M.who a = some l) (h : Rd H a u) : H a = some u := by
  have := r.hp.wf a l hw
  rw [lk] at this
  exact rd_mut h this.off
theorem rg_len {P : Key → SV → V → Prop} {fs : List (Key × SV)} {gs : List (L2.Key × V)} (h : RG K n M H P fs gs) : fs.length = gs.length := h.len

/-! ### o[k] = v -/
theorem REs.setE {i : Nat} {k : Key} {sv : SV} {v : V} (kp : Keep n M H n' M' H') (hp : ∀ q, q ≠ .ent i k → plIx q = some i → ∀ b, M.who b = some (.pl q) → M'.who b = some (.pl q) ∧ H' b = H b) (rs : RS K n' M' H' (.ent i k) sv v) {fs : List (Key × SV)} {gs : List (L2.Key × V)} (r : REs K n M H i fs gs) :
    (fs.map (·.1)).Nodup → REs K n' M' H' i (kput k sv fs) (L2.putK gs (mkey k) v) := by
  induction r with
  | nil => intro _; exact .cons rs .nil
  | @cons x sv0 v0 fs gs ra rb ih =>
    intro hn
    have hn2 := List.nodup_cons.mp (show (x :: fs.map (·.1)).Nodup from hn)
    rw [putK_cons]
    unfold kput
    by_cases ef : x = k
    · subst ef
      rw [if_pos rfl, if_pos rfl]
      rw [repl_id]
      · refine .cons rs (REs.mono kp (fun f' hf' b hb => hp _ (fun z => ?_) rfl b hb) rb)
        injection z with _ z
        subst z
        exact hn2.1 hf'
      · rw [rb.rg.keys]
        intro z
        obtain ⟨q, h1, h2⟩ := List.mem_map.mp z
        exact hn2.1 (List.mem_map.mpr ⟨q, h1, mkey_inj h2⟩)
    · rw [if_neg ef, if_neg fun z => ef (mkey_inj z)]
      refine .cons (ra.mono kp (fun b hb => hp _ (fun z => ?_) rfl b hb)) (ih hn2.2)
      injection z with _ z
      exact ef z
end
section
variable {K : Fr} {W : WX} {C : CallF} {M M' : MM} {H H' : Hp} {σ : L2.St} {s s1 : S} {D : L2.Ends} {n n' : Nat}
theorem rr_D {d : KW.D} {x : RV} {v : V} (r : RR K s.h.length M H x v) (h : expo x = some d) (rt : RT K M H σ s) : ∃ M', RT K M' H σ s ∧ M'.lk = M.lk ∧ M'.loc = M.loc ∧ RD K s.h.length M' H d v ∧ (∀ p a, M.who a = some (.pl p) → M'.who a = some (.pl p)) ∧ (∀ a, M.who a = none → M'.who a = none) ∧ (∀ a, M.who a = some .oth → M'.who a = some .oth) ∧
    (∀ a, isLoc (M'.who a) = true → isLoc (M.who a) = true) ∧ (∀ i a, M.who a = some (.cell i) → M'.who a = some (.cell i)) := by
  cases x with
  | val d0 =>
    injection h with h
    subst h
    cases r with
    | val r => exact ⟨M, rt, rfl, rfl, r, fun _ _ h => h, fun _ h => h, fun _ h => h, fun _ h => h, fun _ _ h => h⟩
  | own c =>
    injection h with h
    subst h
    cases r with
    | @own _ a hw hc =>
      obtain ⟨t1, t2⟩ := rt.freeze hw
      have ne : ∀ b l, M.who b = some l → l ≠ .tmp → b ≠ a := fun b l q h z => by rw [z, hw] at q; injection q with q; exact h q.symm
      refine ⟨M.set a none, t1, rfl, rfl, hc.fz t2, fun p b q => ?_, fun b q => ?_, fun b q => ?_, fun b q => ?_, fun i b q => ?_⟩
      · rw [MM.set_ne (ne b _ q (by intro z; cases z))]; exact q
      · by_cases z : b = a
        · subst z; exact MM.set_same
        · rw [MM.set_ne z]; exact q
      · rw [MM.set_ne (ne b _ q (by intro z; cases z))]; exact q
      · by_cases z : b = a
        · subst z; rw [MM.set_same] at q; cases q
        · rw [MM.set_ne z] at q; exact q
      · rw [MM.set_ne (ne b _ q (by intro z; cases z))]; exact q
  | pk p c => cases h
end
section
variable {K : Fr} {n : Nat} {M : MM} {H : Hp}
theorem key_ok {d : D} {k : Key} {v : V} (r : RD K n M H d v) (h : keyOf d = some k) : v = L2.kV (mkey k) ∧ okK k := by
  cases r with
  | int i => simp at h; subst h; exact ⟨rfl, trivial⟩
  | str t ht => simp at h; subst h; exact ⟨rfl, ht⟩
  | _ => simp at h
end
end KW
/-! KwDict2: entries taken out, asked; displays; copies. -/
namespace KW
open PySem (Str Addr Value Program World Heap Operator CmpOp binaryOp compareOp PyData Scope Const Env wpAny_bind wpAny_mono)
open PySem.Spec PyProof.Rows
open L2 (V Hp HO upd upd_same upd_ne upd_upd SqL SqT Rd RelV Mut TE TT TA TS TI TG PI PG WX PE PT PW PA PS PSs Cx Inv OpR UnR CallR MtR IxR SlR TruR VK EP XK rI0)
section
variable {K : Fr} {n n' : Nat} {M M' : MM} {H H' : Hp} {σ : L2.St} {s s' : S}
theorem upd_self {a : Addr} {o : HO} (h : H a = some o) : upd H a o = H := by
  funext b
  by_cases e : b = a
  · subst e; rw [upd_same, h]
  · rw [upd_ne e]
theorem REs.del {i : Nat} {k : Key} : ∀ {fs : List (Key × SV)} {gs : List (L2.Key × V)}, REs K n M H i fs gs → REs K n M H i (kdel k fs) (L2.dropK gs (mkey k))
  | _, _, .nil => .nil
  | _, _, .cons (k := k0) a b => by
    unfold kdel L2.dropK
    rw [List.filter_cons, List.filter_cons]
    by_cases e : k0 = k
    · subst e
      simp only [decide_true, Bool.not_true, ne_eq, not_true_eq_false, decide_false, Bool.false_eq_true, if_false]
      exact REs.del b
    · have e2 : ¬ mkey k0 = mkey k := fun z => e (mkey_inj z)
      simp only [decide_eq_false e, Bool.not_false, if_true, ne_eq, e2, not_false_eq_true, decide_true]
      exact .cons a (REs.del b)
/-- what d.pop(k), d.pop(k, x) ask -/
def rPop (K : Fr) : V → V → Option V → Hp → VK → Prop := fun x y z H Q => ∃ a kvs k, x = .ref a ∧ H a = some (.dK kvs) ∧ y = L2.kV k ∧ (∀ v, L2.valV kvs k = some v → Q v (upd H a (.dK (L2.dropK kvs k)))) ∧ (L2.valV kvs k = none → ∃ u, z = some u ∧ Q u H)
theorem pop_core {x z : RV} {vx vy : V} {o : Mu} {kd : D} {k : Key} {ds : List D} {Q : VK} {zv : Option V} (ho : o = .popK ∧ zv = none ∧ ds = [kd] ∨ o = .popD ∧ ∃ d v, zv = some v ∧ ds = [kd, d] ∧ RD K s.h.length M H d v) (rt : RT K M H σ s) (lk : M.lk = none) (rx : RR K s.h.length M H x vx) (ry : RD K s.h.length M H kd vy) (hk : keyOf kd = some k) (h : runMu s o x ds = .ok z s')
    (hq : ∀ M' H' v, Ext s.h.length M H s'.h.length M' H' → RT K M' H' σ s' → RR K s'.h.length M' H' z v → Fresh H z v → Q v H') : rPop K vx vy zv H Q := by
  have noL : ∀ xs, muL xs o ds = none := fun xs => by
    rcases ho with ⟨rfl, _, rfl⟩ | ⟨rfl, d, v, _, rfl, _⟩ <;> rfl
  have isD : ∀ {kvs : List (Key × SV)} {q : SV × List (Key × SV)}, muD kvs o ds = some q → (∃ v, kfind k kvs = some v ∧ q = (v, kdel k kvs)) ∨ (kfind k kvs = none ∧ ∃ d v, zv = some v ∧ q = (.val d, kvs) ∧ RD K s.h.length M H d v) := fun {kvs q} e => by
    rcases ho with ⟨rfl, _, rfl⟩ | ⟨rfl, d, v, hz, rfl, rd⟩
    · simp only [muD, hk, Option.bind_some] at e
      obtain ⟨v, h1, rfl⟩ := omap e
      exact .inl ⟨v, h1, rfl⟩
    · simp only [muD, hk, Option.map_some] at e
      injection e with e
      cases q2 : kfind k kvs with
      | some v => rw [q2] at e; exact .inl ⟨v, rfl, e.symm⟩
      | none => rw [q2] at e; exact .inr ⟨rfl, d, v, hz, e.symm, rd⟩
  obtain ⟨rfl, okk⟩ := key_ok ry hk
  unfold runMu at h
  split at h
  · rename_i p c0
    split at h
    · rename_i xs gp
      rw [noL] at h; cases h
    · rename_i kvs gp
      split at h
      · rename_i d ys gm
        split at h
        · rename_i s2 gq
          injection h with h1 h2
          subst h1 h2
          cases rx with
          | pk hw hc =>
            obtain ⟨a, w', rc⟩ := rt.getPl gp
            obtain rfl := rt.hp.uq _ _ _ (by intro z; cases z) (by intro z; cases z) w' hw
            obtain ⟨gs, r1, r2, r3⟩ := rc_rg rc
            have hH := rt.mut lk w' r1
            have f := r3.find k
            refine ⟨_, gs, mkey k, rfl, hH, rfl, fun v hv => ?_, fun hv => ?_⟩
            · rcases isD gm with ⟨sv, e1, e2⟩ | ⟨e1, _⟩
              · injection e2 with e2 e3
                subst e2 e3
                rw [e1] at f
                obtain ⟨w0, f1, f2⟩ := f
                rw [f1] at hv
                injection hv with hv
                subst hv
                have kp := keep_upd (o := .dK (L2.dropK gs (mkey k))) (n := s.h.length) rt.hp.wf w'
                have ey : (kdel k (plainEs kvs)).map (fun q => (q.1, unSV q.2)) = kdel k kvs := by rw [← plain_del]; exact plain_un
                rw [ey] at gq
                have rcn : RC K s.h.length M (upd H a (.dK (L2.dropK gs (mkey k)))) (.dct (kdel k kvs)) a := by
                  refine rc_dct (.inl upd_same) (kdel_ok r2) ?_
                  rw [plain_del]
                  exact (RG.mono (n' := s.h.length) (M' := M) (H' := upd H a (.dK (L2.dropK gs (mkey k)))) (P' := fun _ sv w0 => RD K s.h.length M (upd H a (.dK (L2.dropK gs (mkey k)))) (unSV sv) w0) (fun _ _ _ p => RD.mono kp p) r3).del
                obtain ⟨t1, t2⟩ := rt.wrPl (o := .dK (L2.dropK gs (mkey k))) gp w' trivial rcn gq
                have hl : s2.h.length = s.h.length := Nat.le_antisymm (by
                  cases p <;> simp only [putPl] at gq
                  · injection gq with gq; subst gq; exact Nat.le_refl _
                  all_goals
                    split at gq
                    · injection gq with gq; subst gq; simp
                    · cases gq) t2.le
                exact hq _ _ _ t2 t1 (.val (by rw [hl]; exact f2.mono kp)) fresh_val
              · rw [e1] at f; rw [f] at hv; cases hv
            · rcases isD gm with ⟨sv, e1, e2⟩ | ⟨e1, d0, v0, hz, e2, rd0⟩
              · rw [e1] at f
                obtain ⟨w0, f1, f2⟩ := f
                rw [f1] at hv; cases hv
              · injection e2 with e2 e3
                subst e2 e3
                rw [plain_un] at gq
                obtain ⟨t1, t2⟩ := rt.wrPl (o := .dK gs) gp w' trivial (by rw [upd_self hH]; exact rc) gq
                rw [upd_self hH] at t1 t2
                have hl : s2.h.length = s.h.length := Nat.le_antisymm (by
                  cases p <;> simp only [putPl] at gq
                  · injection gq with gq; subst gq; exact Nat.le_refl _
                  all_goals
                    split at gq
                    · injection gq with gq; subst gq; simp
                    · cases gq) t2.le
                exact ⟨v0, hz, hq _ _ _ t2 t1 (.val (by rw [hl]; exact rd0)) fresh_val⟩
        · cases h
      · cases h
    · cases h
  · rename_i i
    split at h
    · rename_i xs q
      rw [noL] at h; cases h
    · rename_i kvs q
      split at h
      · rename_i d ys gm
        injection h with h1 h2
        subst h1 h2
        cases rx with
        | val rd =>
          cases rd with
          | ref hi =>
            have hw := rt.hp.lb i hi
            cases rt.hp.cell _ _ q with
            | @dct _ gs c1 c2 c3 =>
              have hH := rt.mut lk hw c1
              have f := c3.rg.find k
              refine ⟨_, gs, mkey k, rfl, hH, rfl, fun v hv => ?_, fun hv => ?_⟩
              · rcases isD gm with ⟨sv, e1, e2⟩ | ⟨e1, _⟩
                · injection e2 with e2 e3
                  subst e2 e3
                  rw [e1] at f
                  obtain ⟨w0, f1, f2⟩ := f
                  rw [f1] at hv
                  injection hv with hv
                  subst hv
                  have kp := keep_upd (o := .dK (L2.dropK gs (mkey k))) (n := s.h.length) rt.hp.wf hw
                  obtain ⟨t1, t2⟩ := rt.wrCell (o := .dK (L2.dropK gs (mkey k))) (c' := .dct (kdel k kvs)) q trivial (.dct (.inl upd_same) (kdel_ok c2) (REs.mono kp (fun j _ b hb => ⟨hb, upd_ne fun z => by rw [z, hw] at hb; cases hb⟩) c3).del)
                  cases f2 with
                  | val f2 => exact hq _ _ _ t2 t1 (.val (by rw [List.length_set]; exact f2.mono kp)) fresh_val
                · rw [e1] at f; rw [f] at hv; cases hv
              · rcases isD gm with ⟨sv, e1, e2⟩ | ⟨e1, d0, v0, hz, e2, rd0⟩
                · rw [e1] at f
                  obtain ⟨w0, f1, f2⟩ := f
                  rw [f1] at hv; cases hv
                · injection e2 with e2 e3
                  injection e2 with e2
                  subst e2 e3
                  obtain ⟨t1, t2⟩ := rt.wrCell (o := .dK gs) (c' := .dct ys) q trivial (by rw [upd_self hH]; exact .dct c1 c2 c3)
                  rw [upd_self hH] at t1 t2
                  exact ⟨v0, hz, hq _ _ _ t2 t1 (.val (by rw [List.length_set]; exact rd0)) fresh_val⟩
      · cases h
    · cases h
  · cases h
theorem ok_popK : OkM K .popK (fun x vs H Q => ∃ y, vs = [y] ∧ rPop K x y none H Q) := by
  intro M H σ s s' x z vx ds vs Q rt lk rx rs h hq
  have : ∃ kd k, ds = [kd] ∧ keyOf kd = some k := by
    have key : ∀ kvs q, muD kvs .popK ds = some q → ∃ kd k, ds = [kd] ∧ keyOf kd = some k := fun kvs q e => by
      unfold muD at e
      split at e <;> first | cases ‹Mu.popK = _› | skip
      · obtain ⟨k, h1, _⟩ := obind e; exact ⟨_, k, rfl, h1⟩
      · cases e
    have noL : ∀ xs, muL xs .popK ds = none := fun xs => by unfold muL; split <;> first | rfl | (rename_i e; cases e)
    unfold runMu at h
    split at h
    · split at h
      · rw [noL] at h; cases h
      · split at h
        · rename_i e; exact key _ _ e
        · cases h
      · cases h
    · split at h
      · rw [noL] at h; cases h
      · split at h
        · rename_i e; exact key _ _ e
        · cases h
      · cases h
    · cases h
  obtain ⟨kd, k, rfl, hk⟩ := this
  cases rs with
  | cons r1 r2 =>
    cases r2 with
    | nil => exact ⟨_, rfl, pop_core (.inl ⟨rfl, rfl, rfl⟩) rt lk rx r1 hk h hq⟩
theorem ok_popD : OkM K .popD (fun x vs H Q => ∃ y z, vs = [y, z] ∧ rPop K x y (some z) H Q) := by
  intro M H σ s s' x z vx ds vs Q rt lk rx rs h hq
  have : ∃ kd zd k, ds = [kd, zd] ∧ keyOf kd = some k := by
    have key : ∀ kvs q, muD kvs .popD ds = some q → ∃ kd zd k, ds = [kd, zd] ∧ keyOf kd = some k := fun kvs q e => by
      unfold muD at e
      split at e <;> first | cases ‹Mu.popD = _› | skip
      · obtain ⟨k, h1, _⟩ := omap e; exact ⟨_, _, k, rfl, h1⟩
      · cases e
    have noL : ∀ xs, muL xs .popD ds = none := fun xs => by unfold muL; split <;> first | rfl | (rename_i e; cases e)
    unfold runMu at h
    split at h
    · split at h
      · rw [noL] at h; cases h
      · split at h
        · rename_i e; exact key _ _ e
        · cases h
      · cases h
    · split at h
      · rw [noL] at h; cases h
      · split at h
        · rename_i e; exact key _ _ e
        · cases h
      · cases h
    · cases h
  obtain ⟨kd, zd, k, rfl, hk⟩ := this
  cases rs with
  | cons r1 r2 =>
    cases r2 with
    | cons r2 r3 =>
      cases r3 with
      | nil => exact ⟨_, _, rfl, pop_core (.inr ⟨rfl, _, _, rfl, rfl, r2⟩) rt lk rx r1 hk h hq⟩
end
section
variable {G : Tabs} {X : Cx} {W : WX} {C : CallF} {σ : L2.St} {H : Hp} {Q : VK}
theorem tE_mono2 {e : E} {Q Q' : VK} (h : tE X.K W C e σ H Q) (k : ∀ v H, Q v H → Q' v H) : tE X.K W C e σ H Q' := tE_mono h k
/-- a dict -/
theorem isD_ty {o : Mu} (ho : o = .popK ∨ o = .popD) {K : Fr} : ∀ (M : MM) (H : Hp) (σ : L2.St) (s : S) (x : RV) (v : V), RT K M H σ s → RR K s.h.length M H x v → recvM s.h o x = true → ∃ a, v = .ref a ∧ L2.IsD H a := by
  intro M H σ s x v rt rr h
  have h : (dctOf s.h x).isSome = true := by rcases ho with rfl | rfl <;> exact h
  obtain ⟨q, h⟩ := Option.isSome_iff_exists.mp h
  obtain ⟨a, gs, rfl, r1, _, _⟩ := dct_at rt rr h
  exact ⟨a, rfl, .inl ⟨gs, r1⟩⟩
theorem m1_of {o e : Py} {m : Str} {apos cpos : PySem.Pos} (hb : baseB o = true) (hl : apos.endLine = cpos.line) (hs : [e].all noStarB = true) : L2.M1 X o m apos e cpos :=
  ⟨base_ok hb _ _, few_ok hs (by simp), by rw [hl]; exact beq_self_eq_true _, by rw [noStar_eq (all_one hs)]; rfl⟩
theorem m2_of {o e f : Py} {m : Str} {apos cpos : PySem.Pos} (hb : baseB o = true) (hl : apos.endLine = cpos.line) (hs : [e, f].all noStarB = true) : L2.M2 X o m apos e f cpos :=
  ⟨base_ok hb _ _, few_ok hs (by simp), by rw [hl]; exact beq_self_eq_true _, by rw [noStar_eq (all_two hs).1, noStar_eq (all_two hs).2]; rfl⟩
theorem t_one1 {e : E} {Q : List V → Hp → Prop} (h : tEs X.K W C [e] σ H Q) : tE X.K W C e σ H fun v H1 => Q [v] H1 := tE_mono2 (t_cons h) fun v H1 q => t_nil q
theorem p_popK {e a : E} {b x : Py} {p1 p2 : PySem.Pos} (hb : baseB b = true) (hl : p1.endLine = p2.line) (hs : [x].all noStarB = true) (he : PE X b (tE X.K W C e)) (ha : PE X x (tE X.K W C a)) : P2 X W C (.mut .popK e [a]) (.Call (.Attribute b (sst "pop") p1) [x] [] p2) := by
  refine .of ((L2.pe_dpop1 he ha (m1_of hb hl hs)).imp fun σ H Q q => ?_) isT_call
  refine tE_mono2 (t_mutG ok_popK (isD_ty (.inl rfl)) q) fun v H1 ⟨⟨d, e1, e2⟩, q⟩ => ⟨d, e1, e2, tE_mono2 (t_one1 q) fun y H2 ⟨y', e3, a', kvs, k, e4, e5, e6, q1, q2⟩ => ?_⟩
  injection e3 with e3
  subst e3
  subst e1
  injection e4 with e4
  subst e4
  cases z : L2.valV kvs k with
  | some v => exact ⟨kvs, k, v, e5, e6, z, q1 v z⟩
  | none =>
    obtain ⟨u, e7, _⟩ := q2 z
    cases e7
theorem p_popD {e a c : E} {b x y : Py} {p1 p2 : PySem.Pos} (hb : baseB b = true) (hl : p1.endLine = p2.line) (hs : [x, y].all noStarB = true) (he : PE X b (tE X.K W C e)) (ha : PE X x (tE X.K W C a)) (hc : PE X y (tE X.K W C c)) : P2 X W C (.mut .popD e [a, c]) (.Call (.Attribute b (sst "pop") p1) [x, y] [] p2) := by
  refine .of ((L2.pe_dpop2 he ha hc (m2_of hb hl hs)).imp fun σ H Q q => ?_) isT_call
  refine tE_mono2 (t_mutG ok_popD (isD_ty (.inr rfl)) q) fun v H1 ⟨⟨d, e1, e2⟩, q⟩ => ⟨d, e1, e2, tE_mono2 (t_cons q) fun y H2 q => tE_mono2 (t_one1 q) fun z H3 ⟨y', z', e3, a', kvs, k, e4, e5, e6, q1, q2⟩ => ?_⟩
  injection e3 with e3 e7
  injection e7 with e7
  subst e3 e7
  subst e1
  injection e4 with e4
  subst e4
  refine ⟨kvs, k, e5, e6, q1, fun z => ?_⟩
  obtain ⟨u, e7, q⟩ := q2 z
  injection e7 with e7
  subst e7
  exact q
/-! ### d.get(k, x) -/
theorem t_dget {a b c : E} (h : tE X.K W C (.p3 .dget a b c) σ H Q) : L2.tDGet2 (tE X.K W C a) (tE X.K W C b) (tE X.K W C c) σ H Q := by
  obtain ⟨M, s, rt, h⟩ := h
  refine ⟨M, s, rt, ?_⟩
  simp only [evalE, pure] at h
  have pp : (pure a && pure b && pure c) = true → pure a = true ∧ pure b = true ∧ pure c = true := fun z => by
    simp only [Bool.and_eq_true] at z
    exact ⟨z.1.1, z.1.2, z.2⟩
  refine h.bind anti_relE (fun z => (pp z).1) fun x s1 M1 H1 v hx e1 p1 rt1 rl1 k1 => ?_
  have k1 := k1 (pure b && pure c) fun z => by rw [(pp z).2.1, (pp z).2.2]; rfl
  by_cases g0 : ((isPk x && !(pure b && pure c)) || !recv3 s1.h .dget x) = true
  · rw [if_pos g0] at k1; exact k1.2.elim
  rw [if_neg g0] at k1
  have g : ¬ (isPk x && !(pure b && pure c)) = true := fun z => g0 (Bool.or_eq_true_iff.mpr (.inl z))
  have g2 : (dctOf s1.h x).isSome = true := by
    cases z : (dctOf s1.h x).isSome with
    | true => rfl
    | false => exact absurd (Bool.or_eq_true_iff.mpr (.inr (by show (!(dctOf s1.h x).isSome) = true; rw [z]; rfl))) g0
  obtain ⟨q, hq⟩ := Option.isSome_iff_exists.mp g2
  obtain ⟨ad, gs0, rfl, r1, _, _⟩ := dct_at rt1 rl1.1 hq
  refine ⟨ad, rfl, .inl ⟨gs0, r1⟩, M1, s1, rt1, k1.bind anti_relE (fun z => (Bool.and_eq_true_iff.mp z).1) fun y s2 M2 H2 u hy e2 p2 rt2 rl2 k2 => ?_⟩
  have k2 := k2 (pure c) fun z => (Bool.and_eq_true_iff.mp z).2
  by_cases gy : ((isPk y && !pure c) || !recv3b .dget y) = true
  · rw [if_pos gy] at k2; exact k2.2.elim
  rw [if_neg gy] at k2
  have gy : ¬ (isPk y && !pure c) = true := fun z => gy (Bool.or_eq_true_iff.mpr (.inl z))
  have rx : RR X.K s2.h.length M2 H2 x (.ref ad) := by
    cases q : isPk x with
    | false => exact rl1.1.mono rt1.hp.wf e2 q
    | true =>
      have pb : (pure b && pure c) = true := by cases z : (pure b && pure c) with
        | true => rfl
        | false => exact absurd (by rw [q, z]; rfl) g
      obtain ⟨es, gr⟩ := p2 (Bool.and_eq_true_iff.mp pb).1
      rw [es]
      exact rl1.1.grow rt1.hp.wf gr
  have e0 : ((evalE C c s2).bind fun z s => opt s (run3 s.h .dget x y z)) = (exports (evalE C c s2)).bind fun zd s => opt s (oGetD s.h x y zd) := by
    unfold exports
    cases evalE C c s2 with
    | stuck => rfl
    | raise _ _ => rfl
    | ok z s3 =>
      simp only [bind_ok]
      show opt s3 ((expo z).bind fun zd => oGetD s3.h x y zd) = _
      cases expo z <;> rfl
  rw [e0] at k2
  refine (t_D (K := X.K) (W := W) (C := C) (e := c) (σ := σ) (H := H2) ⟨M2, s2, rt2, k2.bind (rel1 := relD X.K) (pu1 := pure c) anti_relE (fun z => z) fun zd s3 M3 H3 w hz e3 p3 rt3 rl3 k3 => ?_⟩)
  obtain ⟨zz, ez, hzz⟩ := (k3 (pure c) fun z => z).op rt3
  obtain ⟨qd, f1, f2⟩ := obind (show (dctOf s3.h x).bind (fun q => match y with
    | .val d => (keyOf d).map fun k => (entOf q k).getD (.val zd)
    | _ => none) = some zz from ez)
  have rx3 : RR X.K s3.h.length M3 H3 x (.ref ad) := by
    cases q : isPk x with
    | false => exact rx.mono rt2.hp.wf e3 q
    | true =>
      have pb : (pure b && pure c) = true := by cases z : (pure b && pure c) with
        | true => rfl
        | false => exact absurd (by rw [q, z]; rfl) g
      obtain ⟨es, gr⟩ := p3 (Bool.and_eq_true_iff.mp pb).2
      rw [es]
      exact rx.grow rt2.hp.wf gr
  obtain ⟨a', gs, ea, r1, _, r2⟩ := dct_at rt3 rx3 f1
  injection ea with ea
  subst ea
  cases y with
  | own _ => cases f2
  | pk _ _ => cases f2
  | val d =>
    obtain ⟨k, f3, rfl⟩ := omap f2
    have ry : RR X.K s3.h.length M3 H3 (.val d) u := rl2.1.mono rt2.hp.wf e3 rfl
    cases key_at ry f3
    have fd := r2.find k
    cases q : entOf qd k with
    | none =>
      have q2 : kfind k qd.2 = none := by
        unfold entOf at q
        exact Option.map_eq_none_iff.mp q
      rw [q2] at fd
      rw [q] at hzz
      exact ⟨none, .inl ⟨gs, mkey k, r1, rfl, fd.symm⟩, hzz M3 H3 w .refl rt3 (.val rl3) fresh_val⟩
    | some z2 =>
      obtain ⟨v2, h5, h6⟩ := ent_at q r2
      rw [q] at hzz
      exact ⟨some v2, .inl ⟨gs, mkey k, r1, rfl, h5.symm⟩, hzz M3 H3 v2 .refl rt3 h6 fun c e => absurd e (ent_fresh q c)⟩
theorem p_dget {a b c : E} {p d e f : Py} (ev : Ev G X W C) (h : v3 .dget p = some (d, e, f)) (ha : PE X d (tE X.K W C a)) (hb : PE X e (tE X.K W C b)) (hc : PE X f (tE X.K W C c)) : P2 X W C (.p3 .dget a b c) p := by
  simp only [v3] at h
  split at h
  · rename_i b' m e' f' q
    split at h
    · rename_i g
      injection h with h
      injection h with h1 h
      injection h with h2 h3
      subst h1 h2 h3
      obtain rfl := of_decide_eq_true g
      obtain ⟨p1, p2, rfl, g1, g2, _, g4⟩ := vAt_eq q
      have hu := ev.hu
      exact .of ((L2.pe_dget2 (by omega) ha hb hc (m2_of g1 g2 g4)).imp fun _ _ _ q => t_dget q) isT_call
    · cases h
  · cases h
end
/-! ### displays -/
def vOf : D → V
  | .int i => .int i
  | .str t => .str (mst t)
  | _ => .non
section
variable {G : Tabs} {X : Cx} {W : WX} {C : CallF} {σ : L2.St} {H : Hp} {Q : VK}
theorem p_key {d : D} {k : Py} (h : (match vCst k with
    | some c => constB d c
    | none => false) = true) (hk : (keyOf d).isSome = true) : PE X k (L2.tC (vOf d)) := by
  split at h
  · rename_i c e
    obtain ⟨j, q, rfl⟩ := vCst_eq e
    unfold constB at h
    split at h
    · cases hk
    · cases hk
    · obtain rfl := of_decide_eq_true h
      exact L2.pe_int
    · obtain ⟨h1, h2⟩ := Bool.and_eq_true_iff.mp h
      obtain rfl := of_decide_eq_true h1
      exact L2.pe_str
    · cases h
  · cases h
def trsOf (K : Fr) (W : WX) (C : CallF) (ks : List D) (es : List E) : List (TE × TE) := (ks.zip es).map fun q => (L2.tC (vOf q.1), tE K W C q.2)
theorem p_pairs {pos : PySem.Pos} : ∀ {ks : List D} {es : List E} {kys : List (Option Py)} {xs : List Py}, vKs ks kys = true → (∀ d ∈ ks, (keyOf d).isSome = true) → mEs G X.env.scope X.N es xs = true → kys.length = xs.length → (∀ e ∈ es, ∀ p, mE G X.env.scope X.N e p = true → P2 X W C e p) → L2.PPs X pos kys xs (trsOf X.K W C ks es)
  | [], es, kys, xs, h, _, hm, hl, hx => by
    cases kys with
    | cons _ _ => simp [vKs] at h
    | nil =>
      have : xs = [] := List.eq_nil_of_length_eq_zero hl.symm
      subst this
      exact L2.pps_nil
  | d :: ks, es, kys, xs, h, hk, hm, hl, hx => by
    cases kys with
    | nil => simp [vKs] at h
    | cons k kys =>
      cases k with
      | none => simp [vKs] at h
      | some k =>
        cases xs with
        | nil => cases hl
        | cons x xs =>
          cases es with
          | nil => simp [mEs] at hm
          | cons e es =>
            simp only [mEs] at hm
            obtain ⟨m1, m2⟩ := Bool.and_eq_true_iff.mp hm
            simp only [vKs] at h
            obtain ⟨g1, g2⟩ := Bool.and_eq_true_iff.mp h
            exact L2.pps_cons (p_key g1 (hk d List.mem_cons_self)) (hx e List.mem_cons_self x m1).v (p_pairs g2 (fun d hd => hk d (List.mem_cons_of_mem _ hd)) m2 (by simpa using hl) fun e he => hx e (List.mem_cons_of_mem _ he))
theorem t_pairs : ∀ {ks : List D} {es : List E} {σ : L2.St} {H : Hp} {Q : List (V × V) → Hp → Prop}, ks.length = es.length → tEs X.K W C es σ H (fun vs H3 => Q ((ks.map vOf).zip vs) H3) → L2.tPairs (trsOf X.K W C ks es) σ H Q
  | [], es, σ, H, Q, hl, h => by
    have : es = [] := List.eq_nil_of_length_eq_zero hl.symm
    subst this
    exact t_nil h
  | d :: ks, es, σ, H, Q, hl, h => by
    cases es with
    | nil => cases hl
    | cons e es =>
      refine tE_mono (t_cons h) fun v H1 q => ?_
      exact t_pairs (ks := ks) (es := es) (Q := fun ps H3 => Q ((vOf d, v) :: ps) H3) (by simpa using hl) q
theorem keys_V : ∀ {ds : List D} {ks : List Key} {vs : List V}, ds.mapM keyOf = some ks → vs.length = ds.length → (ds.map vOf).zip vs = ((ks.map mkey).zip vs).map fun kv => (L2.kV kv.1, kv.2)
  | [], ks, vs, h, _ => by
    simp at h; subst h; rfl
  | d :: ds, ks, vs, h, hl => by
    rw [List.mapM_cons] at h
    cases e : keyOf d with
    | none => rw [e] at h; cases h
    | some k =>
      rw [e] at h
      cases e2 : List.mapM keyOf ds with
      | none => rw [e2] at h; cases h
      | some r =>
        rw [e2] at h
        injection h with h
        subst h
        cases vs with
        | nil => cases hl
        | cons v vs =>
          have ih := keys_V (vs := vs) e2 (by simpa using hl)
          rw [List.map_cons, List.zip_cons_cons, ih, List.map_cons, List.zip_cons_cons, List.map_cons]
          congr 2
          cases d <;> simp at e <;> subst e <;> rfl
theorem merge_rg {K : Fr} {n : Nat} {M : MM} {H : Hp} : ∀ {ks : List Key} {ds : List D} {vs : List V} {l : List (Key × D)} {gs : List (L2.Key × V)}, ks.length = ds.length → RDs K n M H ds vs → (∀ k ∈ ks, okK k) → KOk (l.map (·.1)) → RG K n M H (fun _ sv v => RD K n M H (unSV sv) v) (plainEs l) gs →
    KOk (((ks.zip ds).foldl (fun l q => kput q.1 q.2 l) l).map (·.1)) ∧ RG K n M H (fun _ sv v => RD K n M H (unSV sv) v) (plainEs ((ks.zip ds).foldl (fun l q => kput q.1 q.2 l) l)) (L2.mergeK gs ((ks.map mkey).zip vs))
  | [], _, _, _, _, _, _, _, ko, r => ⟨ko, r⟩
  | k :: ks, [], _, _, _, hl, _, _, _, _ => by cases hl
  | k :: ks, d :: ds, _, l, gs, hl, .cons (v := v) a b, hk, ko, r => by
    have ho := hk k List.mem_cons_self
    exact merge_rg (ks := ks) (ds := ds) (l := kput k d l) (gs := L2.putK gs (mkey k) v) (by simpa using hl) b (fun j hj => hk j (List.mem_cons_of_mem _ hj)) (kput_ok ho ko) (by rw [plain_put]; exact r.put (sv := .val d) a (by rw [plain_keys]; exact ko.nd))
theorem keys_ok : ∀ {ds : List D} {ks : List Key}, ds.mapM keyOf = some ks → ks.length = ds.length ∧ ((∀ d ∈ ds, ∀ t, d = .str t → okT t) → ∀ k ∈ ks, okK k)
  | [], ks, h => by simp at h; subst h; exact ⟨rfl, fun _ k hk => by cases hk⟩
  | d :: ds, ks, h => by
    rw [List.mapM_cons] at h
    cases e : keyOf d with
    | none => rw [e] at h; cases h
    | some k =>
      rw [e] at h
      cases e2 : List.mapM keyOf ds with
      | none => rw [e2] at h; cases h
      | some r =>
        rw [e2] at h
        injection h with h
        subst h
        obtain ⟨i1, i2⟩ := keys_ok e2
        refine ⟨by rw [List.length_cons, List.length_cons, i1], fun ho j hj => ?_⟩
        rcases List.mem_cons.mp hj with z | z
        · subst z
          cases d with
          | int i => simp at e; subst e; trivial
          | str t => simp at e; subst e; exact ho _ List.mem_cons_self t rfl
          | _ => simp at e
        · exact i2 (fun d hd => ho d (List.mem_cons_of_mem _ hd)) j z
theorem vks_ok : ∀ {ds : List D} {kys : List (Option Py)}, vKs ds kys = true → ds.length = kys.length ∧ ∀ d ∈ ds, ∀ t, d = .str t → okT t
  | [], kys, h => by
    cases kys with
    | nil => exact ⟨rfl, fun d hd => by cases hd⟩
    | cons _ _ => simp [vKs] at h
  | d :: ds, kys, h => by
    cases kys with
    | nil => simp [vKs] at h
    | cons k kys =>
      cases k with
      | none => simp [vKs] at h
      | some k =>
        simp only [vKs] at h
        obtain ⟨g1, g2⟩ := Bool.and_eq_true_iff.mp h
        obtain ⟨i1, i2⟩ := vks_ok g2
        refine ⟨by rw [List.length_cons, List.length_cons, i1], fun d' hd t et => ?_⟩
        rcases List.mem_cons.mp hd with z | z
        · subst z et
          split at g1
          · rename_i c e
            unfold constB at g1
            split at g1 <;> first | cases g1 | skip
            all_goals first | (rename_i e1; cases e1; done) | skip
            · rename_i e1
              injection e1 with e1
              subst e1
              exact okTB_ok (Bool.and_eq_true_iff.mp g1).2
          · cases g1
        · exact i2 d' z t et
theorem vks_some : ∀ {ds : List D} {kys : List (Option Py)}, vKs ds kys = true → kys.all (·.isSome) = true
  | [], kys, h => by
    cases kys with
    | nil => rfl
    | cons _ _ => simp [vKs] at h
  | d :: ds, kys, h => by
    cases kys with
    | nil => simp [vKs] at h
    | cons k kys =>
      cases k with
      | none => simp [vKs] at h
      | some k =>
        simp only [vKs] at h
        rw [List.all_cons, vks_some (Bool.and_eq_true_iff.mp h).2]
        rfl
theorem t_dct {ks : List D} {es : List E} (hl : ks.length = es.length) (h15 : ks.length ≤ 15) (hok : ∀ d ∈ ks, ∀ t, d = .str t → okT t) (h : tE X.K W C (.dct ks es) σ H Q) : (∀ d ∈ ks, (keyOf d).isSome = true) → L2.tDisp (trsOf X.K W C ks es) σ H Q := by
  intro hall
  obtain ⟨M, s, rt, h⟩ := h
  intro p hp
  obtain ⟨rt1, g1⟩ := rt.tmp (o := .dK []) hp trivial
  simp only [evalE, pure] at h
  refine t_pairs hl ⟨_, s, rt1, ?_⟩
  have h' : OutR X.K W (relE X.K) (M.set p (some .tmp)) (upd H p (.dK [])) σ s (pures es) _ Q := h.later anti_relE g1.ext (fun _ => ⟨rfl, g1⟩) fun z => z
  refine ⟨h'.1, ?_⟩
  have h2 := h.2
  cases q : evalEs C es s with
  | stuck => rw [q] at h2; exact h2
  | raise x s1 =>
    rw [q] at h2
    exact fun M' H' cls d e rt' rx => h2 M' H' cls d (g1.ext.trans e) rt' rx
  | ok ds s1 =>
    rw [q, bind_ok] at h2
    intro M1 H1 vs e1 p1 rt2 rl
    have hlen := RD.len_eq rl
    by_cases gl : ds.length = ks.length
    · rw [if_pos gl] at h2
      cases ek : ks.mapM keyOf with
      | none => rw [ek] at h2; exact h2.elim
      | some kk =>
        rw [ek] at h2
        obtain ⟨k1, k2⟩ := e1.keep p _ upd_same (by rw [MM.set_same]; exact .inr (.inl rfl))
        have hwp : M1.who p = some .tmp := k2.trans MM.set_same
        obtain ⟨c1, c2⟩ := keys_ok ek
        refine ⟨k1, (kk.map mkey).zip vs, keys_V ek (by omega), ?_, ?_⟩
        · rw [List.length_zip, List.length_map]
          omega
        · obtain ⟨t1, t2⟩ := rt2.wrTmp (o := .dK (L2.mergeK [] ((kk.map mkey).zip vs))) hwp trivial
          obtain ⟨m1, m2⟩ := merge_rg (l := []) (gs := []) (by omega) (rl.mono (t2 s1.h.length)) (c2 hok) .nil .nil
          refine h2 M1 _ (.ref p) ?_ (fun z => ?_) t1 ⟨.own hwp (rc_dct (.inl upd_same) m1 m2), fun c _ a z => by
            injection z with z
            subst z
            exact hp⟩
          · have a := g1.ext.trans e1
            refine ⟨fun b o z pb => ?_, fun b z => ?_, a.loc, a.le, a.nl, a.lk⟩
            · obtain ⟨y1, y2⟩ := a.keep b o z pb
              exact ⟨by rw [upd_ne (L2.ne_of_none z hp)]; exact y1, y2⟩
            · by_cases eb : b = p
              · rw [eb]; exact hp
              · rw [upd_ne eb] at z; exact a.dom b z
          · obtain ⟨y1, y2⟩ := p1 z
            have gg := g1.trans y2
            exact ⟨y1, ⟨fun b o z => ⟨by rw [upd_ne (L2.ne_of_none z hp)]; exact (gg.keep b o z).1, (gg.keep b o z).2⟩, gg.loc, gg.lk⟩⟩
    · rw [if_neg gl] at h2; exact h2.elim
end
end KW
/-! KwOne: more operations of one operand; list.remove. -/
namespace KW
open PySem (Str Addr Value Program World Heap Operator CmpOp binaryOp compareOp PyData Scope Const Env wpAny_bind wpAny_mono)
open PySem.Spec PyProof.Rows
open L2 (V Hp HO upd upd_same upd_ne upd_upd SqL SqT Rd RelV Mut TE TT TA TS TI TG PI PG WX PE PT PW PA PS PSs Cx Inv OpR UnR CallR MtR IxR SlR TruR VK EP XK rI0)
/-! ### list.remove -/
def rRemoveD (K : Fr) : V → List V → Hp → VK → Prop := fun x xs H Q => ∃ (a : Addr) (y : V) (d : PyData) (ds : List PyData) (vs : List V) (j : Nat) (z : PyData), x = V.ref a ∧ xs = [y] ∧ H a = some (.lst vs) ∧ L2.DpAll K H vs ds ∧ L2.Dp K H y d ∧
  PySem.SeqAt.shaped (.list ds) = true ∧ PySem.SeqAt.shaped d = true ∧ ds[j]? = some z ∧ PyData.eqv z d = true ∧ (∀ (m : Nat) (z' : PyData), m < j → ds[m]? = some z' → PyData.eqv z' d = false) ∧ Q .non (upd H a (.lst (vs.eraseIdx j)))
theorem mt_removeD {X : Cx} (hu : X.A.units + 65 < PySem.cLine) : MtR X "list.remove" (rRemoveD X.K) := by
  intro pins s σ H x xs v us Q I rx rxs h
  obtain ⟨a, y, d, ds, vs, j, z, rfl, rfl, hH, ha, hy, sl, sd, hz, hzj, hno, q⟩ := h
  cases rx
  cases rxs with
  | cons ry rt =>
    rename_i uy ut
    cases rt
    obtain ⟨bs, r1⟩ := L2.Dp.reads I d y uy hy ry
    have hxs : PyData.canLayAll0 ds = true := PySem.SeqAt.canLay_of_shaped sl
    have hroom : X.A.units + 1 + min (PyData.depthAll ds) d.depth < PySem.cLine := PyProof.Rows.room_in_shaped sd hu
    obtain ⟨z0, its, n, r, hlen, e⟩ := I.lstM hH
    obtain ⟨as, h4⟩ := L2.Dp.readsAll I ds _ its ha r
    have hn : its.length = ds.length := PySem.SeqAt.ReadsAll.length ds its as h4
    have hmap : its.map (PySem.SeqAt.readOf s.heap) = ds := PySem.SeqAt.readsAll_map ds its as hxs h4
    have hvl := r.length
    have hsl := PySem.sizeLine_eq
    obtain ⟨hjd, _⟩ := List.getElem?_eq_some_iff.mp hz
    have hjl : j < its.length := by omega
    have hj : j < its.toArray.size := by simpa using hjl
    have at_ : ∀ (m : Nat) (hm : m < its.toArray.size) (z' : PyData), ds[m]? = some z' → PySem.SeqAt.readOf s.heap its.toArray[m] = z' := by
      intro m hm z' hz'
      have hml : m < its.length := by simpa using hm
      rw [← hmap, List.getElem?_map, List.getElem?_eq_getElem hml] at hz'
      have e1 : PySem.SeqAt.readOf s.heap its[m] = z' := Option.some.inj (show some (PySem.SeqAt.readOf s.heap its[m]) = some z' from hz')
      simpa using e1
    refine PySem.call_meets PySem.F.slot_list_remove ⟨_, e, rfl⟩ PySem.F.entry_list_remove (PySem.F.args_list_remove_2 _ _)
      (PySem.SeqAt.list_removeAt a its.toArray n none #[] uy (fun u => PyData.eqv (PySem.SeqAt.readOf s.heap u) d) j hj ?_ ?_ (by rw [List.size_toArray]; omega)) ⟨e, PySem.SeqAt.items_eqAt (vs := its.toArray) (show PySem.ReadsAll s.heap its.toArray.toList ds as from h4) r1 hxs (PySem.SeqAt.canLay_of_shaped sd) hroom, ?_⟩
    · show PyData.eqv (PySem.SeqAt.readOf s.heap its.toArray[j]) d = true
      rw [at_ j hj z hz]
      exact hzj
    · intro m hm hmj
      have hmd : m < ds.length := by omega
      have hz' : ds[m]? = some ds[m] := List.getElem?_eq_getElem hmd
      show PyData.eqv (PySem.SeqAt.readOf s.heap its.toArray[m]) d = false
      rw [at_ m hm _ hz']
      exact hno m _ hmj hz'
    · refine ⟨.non, _, I.lset (its' := its.eraseIdx j) (t' := s.toks) hH e ?_ (r.eraseIdx j) ?_, rfl, q⟩
      · show its.toArray.eraseIdxIfInBounds j = (its.eraseIdx j).toArray
        rw [List.eraseIdxIfInBounds_toArray]
      · have := List.length_eraseIdx_le (l := vs) (i := j)
        omega
theorem ok_remove {K : Fr} : OkM K .remove (rRemoveD K) := by
  intro M H σ s s' x z vx ds vs Q rt _ rx rs h hq
  obtain ⟨a, xs, ws, d, ys, rfl, ha, rw_, hm, rfl, hl, go, kp⟩ := lst_mut rfl rt rx h
  cases rs with
  | nil => cases hm
  | @cons d0 _ _ _ r1 r2 =>
    cases r2 with
    | cons _ _ => cases d0 <;> cases hm
    | nil =>
      obtain ⟨g, e⟩ := oif (show (if (shaped d0 && xs.all shaped) = true then (xs.findIdx? fun z => deq z d0).map fun j => (D.non, xs.eraseIdx j) else none) = some (d, ys) from hm)
      obtain ⟨j, h3, e⟩ := omap e
      injection e with e1 e2
      subst e1 e2
      obtain ⟨g1, g2⟩ := Bool.and_eq_true_iff.mp g
      obtain ⟨p1, p2⟩ := dp_at (d := d0) rt (.val r1) (by
        cases d0 <;> first | rfl | (simp [shaped, isData] at g1)) g1
      obtain ⟨hd, _⟩ := datas_of_shaped g2
      obtain ⟨_, p4⟩ := list_shape rt.hp.wf g2 (.inl ha) rw_
      obtain ⟨hj, hp, hno⟩ := List.findIdx?_eq_some_iff_getElem.mp h3
      have e : xs[j]? = some xs[j] := List.getElem?_eq_getElem hj
      refine ⟨a, _, pyd d0, pyds xs, ws, j, pyd xs[j], rfl, rfl, ha, dps_of rt.hp.wf xs ws hd rw_, p1, p4, p2, by rw [pyds_get, e]; rfl, ?_, fun m z' hm hz' => ?_, ?_⟩
      · rw [← deq_eqv _ _ (datas_get hd e) (isData_of g1)]; exact hp
      · rw [pyds_get] at hz'
        have em : xs[m]? = some xs[m] := List.getElem?_eq_getElem (by omega)
        rw [em] at hz'
        injection hz' with hz'
        rw [← hz', ← deq_eqv _ _ (datas_get hd em) (isData_of g1)]
        simpa using hno m hm
      · obtain ⟨t1, t2⟩ := go _ (rw_.erase j)
        exact hq _ _ _ t2 t1 (.val .non) fresh_val
end KW
/-! KwSort: orders; sorting by insertion is what any sort gives. -/
namespace KW
structure Slo {α : Type} (lt : α → α → Bool) : Prop where
  irr : ∀ x, lt x x = false
  tr : ∀ x y z, lt x y = true → lt y z = true → lt x z = true
  tot : ∀ x y, lt x y = false → lt y x = false → x = y
theorem Slo.swo {α β : Type} {lt : β → β → Bool} (h : Slo lt) (f : α → β) : SrtO.Swo fun x y => lt (f x) (f y) := by
  refine ⟨fun x y e => ?_, fun x y z e1 e2 => ?_⟩
  · cases q : lt (f y) (f x) with
    | false => rfl
    | true => have := h.tr _ _ _ e q; rw [h.irr] at this; cases this
  · cases q : lt (f z) (f x) with
    | false => rfl
    | true =>
      cases p : lt (f x) (f y) with
      | true =>
        have := h.tr _ _ _ q p
        have e2 : lt (f z) (f y) = false := e2
        rw [e2] at this; cases this
      | false =>
        have := h.tot _ _ p e1
        have e2 : lt (f z) (f y) = false := e2
        rw [this, e2] at q; cases q
def ltI (a b : Int) : Bool := decide (a < b)
theorem slo_I : Slo ltI := ⟨fun x => decide_eq_false (Int.lt_irrefl x), fun x y z h1 h2 => decide_eq_true (Int.lt_trans (of_decide_eq_true h1) (of_decide_eq_true h2)), fun x y h1 h2 => by
  have a := of_decide_eq_false h1
  have b := of_decide_eq_false h2
  omega⟩
theorem ltT_irr : ∀ x : T, ltT x x = false
  | [] => rfl
  | a :: r => by simp [ltT, ltT_irr r]
theorem ltT_tr : ∀ x y z : T, ltT x y = true → ltT y z = true → ltT x z = true
  | [], y, [], _, h => by cases y <;> simp [ltT] at h
  | [], _, _ :: _, _, _ => rfl
  | _ :: _, [], _, h, _ => by simp [ltT] at h
  | _ :: _, _ :: _, [], _, h => by simp [ltT] at h
  | a :: r, b :: s, c :: t, h1, h2 => by
    simp only [ltT] at h1 h2 ⊢
    split at h1
    · split at h2
      · rw [if_pos (by omega)]
      · split at h2
        · cases h2
        · rw [if_pos (by omega)]
    · split at h1
      · cases h1
      · split at h2
        · rw [if_pos (by omega)]
        · split at h2
          · cases h2
          · rw [if_neg (by omega), if_neg (by omega)]
            exact ltT_tr r s t h1 h2
theorem ltT_tot : ∀ x y : T, ltT x y = false → ltT y x = false → x = y
  | [], [], _, _ => rfl
  | [], _ :: _, h, _ => by simp [ltT] at h
  | _ :: _, [], _, h => by simp [ltT] at h
  | a :: r, b :: s, h1, h2 => by
    simp only [ltT] at h1 h2
    split at h1
    · cases h1
    · rename_i n1
      split at h2
      · rename_i n2
        simp at h2
      · rename_i n2
        rw [if_neg n2] at h1
        have e : a = b := by omega
        rw [e, ltT_tot r s h1 h2]
theorem slo_T : Slo ltT := ⟨ltT_irr, ltT_tr, ltT_tot⟩
def lexL {α β : Type} [DecidableEq α] (l1 : α → α → Bool) (l2 : β → β → Bool) (a b : α × β) : Bool := if a.1 = b.1 then l2 a.2 b.2 else l1 a.1 b.1
theorem slo_lex {α β : Type} [DecidableEq α] {l1 : α → α → Bool} {l2 : β → β → Bool} (h1 : Slo l1) (h2 : Slo l2) : Slo (lexL l1 l2) := by
  refine ⟨fun x => ?_, fun x y z e1 e2 => ?_, fun x y e1 e2 => ?_⟩
  · unfold lexL; rw [if_pos rfl]; exact h2.irr _
  · unfold lexL at e1 e2 ⊢
    by_cases a : x.1 = y.1
    · rw [if_pos a] at e1
      by_cases b : y.1 = z.1
      · rw [if_pos b] at e2
        rw [if_pos (a.trans b)]
        exact h2.tr _ _ _ e1 e2
      · rw [if_neg b] at e2
        rw [if_neg (by rw [a]; exact b), a]
        exact e2
    · rw [if_neg a] at e1
      by_cases b : y.1 = z.1
      · rw [if_neg (by rw [← b]; exact a), ← b]
        exact e1
      · rw [if_neg b] at e2
        have c := h1.tr _ _ _ e1 e2
        rw [if_neg fun z0 => by rw [z0, h1.irr] at c; cases c]
        exact c
  · unfold lexL at e1 e2
    by_cases a : x.1 = y.1
    · rw [if_pos a] at e1
      rw [if_pos a.symm] at e2
      exact Prod.ext a (h2.tot _ _ e1 e2)
    · rw [if_neg a] at e1
      rw [if_neg fun z => a z.symm] at e2
      exact absurd (h1.tot _ _ e1 e2) a
abbrev KA := Int × T
def ltA : KA → KA → Bool := lexL ltI ltT
def ltK : KA × KA → KA × KA → Bool := lexL ltA ltA
theorem slo_A : Slo ltA := slo_lex slo_I slo_T
theorem slo_K : Slo ltK := slo_lex slo_A slo_A
def kaOf : D → KA
  | .int i => (i, [])
  | .str t => (0, t)
  | _ => (0, [])
def kOf : D → KA × KA
  | .tup [a, b] => (kaOf a, kaOf b)
  | d => (kaOf d, (0, []))
theorem ltA_i (i j : Int) : ltA (i, []) (j, []) = decide (i < j) := by
  unfold ltA lexL
  by_cases e : i = j
  · subst e; simp [ltT]
  · rw [if_neg e]; rfl
theorem ltA_s (s t : T) : ltA (0, s) (0, t) = ltT s t := rfl
theorem ltK_1 (a b : KA) (c : KA) : ltK (a, c) (b, c) = ltA a b := by
  unfold ltK lexL
  by_cases e : a = b
  · subst e; simp [slo_A.irr]
  · rw [if_neg e]
theorem srt_eq {a : D} {k : Srt} (h : srtOf a = some k) : (k = .i ∧ ∃ i, a = .int i) ∨ (k = .s ∧ ∃ t, a = .str t) ∨ (k = .pii ∧ ∃ i j, a = .tup [.int i, .int j]) ∨ (k = .pis ∧ ∃ i t, a = .tup [.int i, .str t]) ∨ (k = .psi ∧ ∃ t i, a = .tup [.str t, .int i]) ∨ (k = .pss ∧ ∃ t u, a = .tup [.str t, .str u]) := by
  unfold srtOf at h
  split at h <;> first | cases h | skip
  · exact .inl ⟨rfl, _, rfl⟩
  · exact .inr (.inl ⟨rfl, _, rfl⟩)
  · exact .inr (.inr (.inl ⟨rfl, _, _, rfl⟩))
  · exact .inr (.inr (.inr (.inl ⟨rfl, _, _, rfl⟩)))
  · exact .inr (.inr (.inr (.inr (.inl ⟨rfl, _, _, rfl⟩))))
  · exact .inr (.inr (.inr (.inr (.inr ⟨rfl, _, _, rfl⟩))))
theorem ltD_is {a b : D} {k : Srt} (ha : srtOf a = some k) (hb : srtOf b = some k) : ltD a b = ltK (kOf a) (kOf b) := by
  rcases srt_eq ha with ⟨rfl, i, rfl⟩ | ⟨rfl, t, rfl⟩ | ⟨rfl, i, j, rfl⟩ | ⟨rfl, i, t, rfl⟩ | ⟨rfl, t, i, rfl⟩ | ⟨rfl, t, u, rfl⟩ <;>
  rcases srt_eq hb with ⟨h, i', rfl⟩ | ⟨h, t', rfl⟩ | ⟨h, i', j', rfl⟩ | ⟨h, i', t', rfl⟩ | ⟨h, t', i', rfl⟩ | ⟨h, t', u', rfl⟩ <;>
  first | (cases h; done) | skip
  · show decide (i < i') = ltK ((i, []), _) ((i', []), _)
    rw [ltK_1, ltA_i]
  · show ltT t t' = ltK ((0, t), _) ((0, t'), _)
    rw [ltK_1, ltA_s]
  · show (if i = i' then decide (j < j') else decide (i < i')) = ltK ((i, []), (j, [])) ((i', []), (j', []))
    unfold ltK lexL
    by_cases e : i = i'
    · subst e; rw [if_pos rfl]; simp [ltA_i]
    · rw [if_neg e, if_neg (by intro z; injection z with z; exact e z), ltA_i]
  · show (if i = i' then ltT t t' else decide (i < i')) = ltK ((i, []), (0, t)) ((i', []), (0, t'))
    unfold ltK lexL
    by_cases e : i = i'
    · subst e; rw [if_pos rfl]; simp [ltA_s]
    · rw [if_neg e, if_neg (by intro z; injection z with z; exact e z), ltA_i]
  · show (if t = t' then decide (i < i') else ltT t t') = ltK ((0, t), (i, [])) ((0, t'), (i', []))
    unfold ltK lexL
    by_cases e : t = t'
    · subst e; rw [if_pos rfl]; simp [ltA_i]
    · rw [if_neg e, if_neg (by intro z; injection z with _ z; exact e z), ltA_s]
  · show (if t = t' then ltT u u' else ltT t t') = ltK ((0, t), (0, u)) ((0, t'), (0, u'))
    unfold ltK lexL
    by_cases e : t = t'
    · subst e; rw [if_pos rfl]; simp [ltA_s]
    · rw [if_neg e, if_neg (by intro z; injection z with _ z; exact e z), ltA_s]

/-! ### by insertion -/
def insB {α : Type} (lt : α → α → Bool) (x : α) : List α → List α
  | [] => [x]
  | y :: r => if lt y x then y :: insB lt x r else x :: y :: r
def sortB {α : Type} (lt : α → α → Bool) (l : List α) : List α := l.foldr (insB lt) []
theorem ins_is {lt : D → D → Bool} {x : D} : ∀ {l : List D}, (∀ y ∈ l, ltD y x = lt y x) → sortD.insDb x l = insB lt x l
  | [], _ => rfl
  | y :: r, h => by
    unfold sortD.insDb insB
    rw [h y List.mem_cons_self, ins_is fun z hz => h z (List.mem_cons_of_mem _ hz)]
theorem ins_perm {α : Type} {lt : α → α → Bool} (x : α) : ∀ l : List α, (insB lt x l).Perm (x :: l)
  | [] => List.Perm.refl _
  | y :: r => by
    unfold insB
    split
    · exact ((ins_perm x r).cons y).trans (List.Perm.swap x y r)
    · exact List.Perm.refl _
theorem sortB_perm {α : Type} {lt : α → α → Bool} : ∀ l : List α, (sortB lt l).Perm l
  | [] => List.Perm.refl _
  | x :: r => (ins_perm x _).trans ((sortB_perm r).cons x)
theorem sort_is {lt : D → D → Bool} : ∀ {l : List D}, (∀ x ∈ l, ∀ y ∈ l, ltD y x = lt y x) → sortD l = sortB lt l
  | [], _ => rfl
  | x :: r, h => by
    show sortD.insDb x (sortD r) = insB lt x (sortB lt r)
    have e := sort_is (l := r) fun a ha b hb => h a (List.mem_cons_of_mem _ ha) b (List.mem_cons_of_mem _ hb)
    rw [e]
    exact ins_is fun y hy => h x List.mem_cons_self y (List.mem_cons_of_mem _ ((sortB_perm r).mem_iff.mp hy))
theorem ins_srtd {α : Type} {lt : α → α → Bool} (O : SrtO.Swo lt) (x : α) : ∀ {l : List α}, SrtO.Srtd lt l → SrtO.Srtd lt (insB lt x l)
  | [], _ => SrtO.srtd_one x
  | y :: r, h => by
    have h2 := List.pairwise_cons.mp h
    unfold insB
    by_cases e : lt y x = true
    · rw [if_pos e]
      refine List.pairwise_cons.mpr ⟨fun z hz => ?_, ins_srtd O x h2.2⟩
      rcases List.mem_cons.mp ((ins_perm x r).mem_iff.mp hz) with q | q
      · rw [q]; exact O.asym _ _ e
      · exact h2.1 z q
    · rw [if_neg e]
      have e : lt y x = false := by simpa using e
      refine List.pairwise_cons.mpr ⟨fun z hz => ?_, h⟩
      rcases List.mem_cons.mp hz with q | q
      · rw [q]; exact e
      · exact O.tr x y z e (h2.1 z q)
theorem ins_cls {α : Type} {lt : α → α → Bool} (O : SrtO.Swo lt) (x u : α) : ∀ l : List α, (insB lt x l).filter (SrtO.eqv lt u) = (x :: l).filter (SrtO.eqv lt u)
  | [] => rfl
  | y :: r => by
    unfold insB
    by_cases e : lt y x = true
    · rw [if_pos e, List.filter_cons, ins_cls O x u r]
      by_cases px : SrtO.eqv lt u x = true
      · have py : SrtO.eqv lt u y = false := by
          cases q : SrtO.eqv lt u y with
          | false => rfl
          | true =>
            obtain ⟨a1, a2⟩ := SrtO.eqv_iff.mp px
            obtain ⟨b1, b2⟩ := SrtO.eqv_iff.mp q
            have := O.tr x u y a1 b2
            have h2 : lt y x = false := this
            rw [h2] at e; cases e
        simp [List.filter_cons, px, py]
      · have px : SrtO.eqv lt u x = false := by simpa using px
        simp [List.filter_cons, px]
    · rw [if_neg e]
theorem sortB_srtd {α : Type} {lt : α → α → Bool} (O : SrtO.Swo lt) : ∀ l : List α, SrtO.Srtd lt (sortB lt l)
  | [] => .nil
  | x :: r => ins_srtd O x (sortB_srtd O r)
theorem sortB_stb {α : Type} {lt : α → α → Bool} (O : SrtO.Swo lt) (l : List α) : SrtO.Stb lt (sortB lt l) l := by
  refine ⟨sortB_perm l, fun u => ?_⟩
  induction l with
  | nil => rfl
  | cons x r ih =>
    show (insB lt x (sortB lt r)).filter _ = _
    rw [ins_cls O, List.filter_cons, List.filter_cons, ih]
theorem sortable_kind {l : List D} (h : sortable l = true) : l = [] ∨ ∃ k, ∀ d ∈ l, srtOf d = some k := by
  cases l with
  | nil => exact .inl rfl
  | cons x r =>
    unfold sortable at h
    split at h
    · rename_i e; cases e
    · rename_i y r' e
      injection e with e1 e2
      subst e1 e2
      split at h
      · rename_i k _
        exact .inr ⟨k, fun d hd => of_decide_eq_true (List.all_eq_true.mp h d hd)⟩
      · cases h
theorem kOf_swo : SrtO.Swo fun x y : D => ltK (kOf x) (kOf y) := slo_K.swo kOf
/-- any stable sort gives sortD -/
theorem sort_uniq {l m : List D} (h : sortable l = true) (hs : SrtO.Srtd (fun x y : D => ltK (kOf x) (kOf y)) m) (hb : SrtO.Stb (fun x y : D => ltK (kOf x) (kOf y)) m l) : m = sortD l := by
  have e : sortD l = sortB (fun x y : D => ltK (kOf x) (kOf y)) l := sort_is fun x hx y hy => by
    rcases sortable_kind h with e | ⟨k, hk⟩
    · subst e; cases hx
    · exact ltD_is (hk y hy) (hk x hx)
  rw [e]
  have b := sortB_stb kOf_swo l
  exact SrtO.stb_uniq kOf_swo hs (sortB_srtd kOf_swo l) (hb.trans ⟨b.perm.symm, fun x => (b.cls x).symm⟩)
end KW
/-! KwSort2: sorted, for texts, ints and pairs. -/
namespace KW
open PySem (Str Addr Value Program World Heap Operator CmpOp binaryOp compareOp PyData Scope Const Env Around Shared Tok wpAny wpAny_bind wpAny_mono wpAny_pure model)
open PySem.Spec PyProof.Rows
open L2 (V Hp HO upd upd_same upd_ne upd_upd SqL SqT Rd RelV Mut TE TT TA TS TI TG PI PG WX PE PT PW PA PS PSs Cx Inv OpR UnR CallR MtR IxR SlR TruR VK EP XK rI0)
/-- an int or a text -/
def AtA (u : Value) : D → Prop
  | .int i => ∃ t, u = Value.int i t
  | .str x => ∃ t, u = Value.str (mst x) t
  | _ => False
/-- what a value reads as -/
def AtD (h : Heap) (u : Value) : D → Prop
  | .tup [a, b] => ∃ p o ua ub n, u = Value.ref p ∧ h.get? p = some o ∧ o.cls = Value.type "tuple" ∧ o.data = .seq #[ua, ub] n ∧ AtA ua a ∧ AtA ub b
  | d => AtA u d
theorem atA_fun {u : Value} {d e : D} (h : AtA u d) (h' : AtA u e) : d = e := by
  cases d <;> try exact h.elim
  · obtain ⟨t, rfl⟩ := h
    cases e <;> try exact h'.elim
    · obtain ⟨t', h'⟩ := h'; injection h' with h' _; rw [h']
    · obtain ⟨t', h'⟩ := h'; cases h'
  · obtain ⟨t, rfl⟩ := h
    cases e <;> try exact h'.elim
    · obtain ⟨t', h'⟩ := h'; cases h'
    · obtain ⟨t', h'⟩ := h'; injection h' with h' _; rw [mst_inj h']
theorem ltT_is : ∀ a b : T, decide (a < b) = ltT a b
  | [], [] => by simp [ltT]
  | [], _ :: _ => by simp [ltT]
  | _ :: _, [] => by simp [ltT]
  | a :: r, b :: s => by
    have ih := ltT_is r s
    unfold ltT
    by_cases h1 : a < b
    · rw [if_pos h1]
      exact decide_eq_true (List.cons_lt_cons_iff.mpr (.inl h1))
    · rw [if_neg h1]
      by_cases h2 : b < a
      · rw [if_pos h2]
        refine decide_eq_false fun h => ?_
        rcases List.cons_lt_cons_iff.mp h with h | ⟨h, _⟩ <;> omega
      · rw [if_neg h2, ← ih]
        have e : a = b := by omega
        subst e
        by_cases g : r < s
        · rw [decide_eq_true g]; exact decide_eq_true (List.cons_lt_cons_iff.mpr (.inr ⟨rfl, g⟩))
        · rw [decide_eq_false g]
          refine decide_eq_false fun h => ?_
          rcases List.cons_lt_cons_iff.mp h with h | ⟨_, h⟩
          · omega
          · exact g h
/-- two of one type -/
def sameA (a b : D) : Prop := (∃ i j, a = .int i ∧ b = .int j) ∨ ∃ s t, a = .str s ∧ b = .str t
section
variable {prog : Program} {w : World} {A : Around} {E : Value → Shared → Prop} {s : Shared}
theorem atom_eq {p q : Value} {a b : D} (hs : sameA a b) (hp : AtA p a) (hq : AtA q b) {Q : Bool → Shared → Prop} (h : Q (decide (kaOf a = kaOf b)) s) : wpAny (model prog w) A (PySem.eqBool p q) Q E s := by
  rcases hs with ⟨i, j, rfl, rfl⟩ | ⟨x, y, rfl, rfl⟩
  · obtain ⟨t, rfl⟩ := hp
    obtain ⟨t', rfl⟩ := hq
    refine PySem.SeqAt.EqAt.int_int i t j t' prog w _ _ ?_
    have e : decide (kaOf (.int i) = kaOf (.int j)) = (i == j) := by
      by_cases z : i = j
      · subst z; simp
      · simp [kaOf, z]
    rw [← e]; exact h
  · obtain ⟨t, rfl⟩ := hp
    obtain ⟨t', rfl⟩ := hq
    refine PySem.SeqAt.EqAt.str_str (mst x) t (mst y) t' prog w _ _ ?_
    have e : decide (kaOf (.str x) = kaOf (.str y)) = (mst x == mst y) := by
      by_cases z : x = y
      · subst z; simp
      · have : mst x ≠ mst y := fun e => z (mst_inj e)
        simp [kaOf, z, this]
    rw [← e]; exact h
theorem atom_lt {p q : Value} {a b : D} (hs : sameA a b) (hp : AtA p a) (hq : AtA q b) {Q : Bool → Shared → Prop} (h : Q (ltA (kaOf a) (kaOf b)) s) : wpAny (model prog w) A (oneLt' true p q) Q E s := by
  rcases hs with ⟨i, j, rfl, rfl⟩ | ⟨x, y, rfl, rfl⟩
  · obtain ⟨t, rfl⟩ := hp
    obtain ⟨t', rfl⟩ := hq
    refine oneLt_int ?_
    rw [← ltA_i]; exact h
  · obtain ⟨t, rfl⟩ := hp
    obtain ⟨t', rfl⟩ := hq
    refine oneLt_str ?_
    rw [mst_cps, mst_cps, ltT_is]; exact h
theorem atom_lt2 {p q : Value} {a b : D} (hs : sameA a b) (hp : AtA p a) (hq : AtA q b) {Q : Bool → Shared → Prop} (h : Q (ltA (kaOf a) (kaOf b)) s) : wpAny (model prog w) A (oneLt' false p q) Q E s := by
  refine PySem.W.kat_one _ _ ?_
  rcases hs with ⟨i, j, rfl, rfl⟩ | ⟨x, y, rfl, rfl⟩
  · obtain ⟨t, rfl⟩ := hp
    obtain ⟨t', rfl⟩ := hq
    refine PyProof.Rows.lt_int ?_
    show Q (decide (i < j)) s
    rw [← ltA_i]; exact h
  · obtain ⟨t, rfl⟩ := hp
    obtain ⟨t', rfl⟩ := hq
    refine PyProof.Rows.lt_str ?_
    show Q (decide ((mst x).cps.toList < (mst y).cps.toList)) s
    rw [mst_cps, mst_cps, ltT_is]; exact h
theorem pair_lt {u v : Value} {a b a' b' : D} (h1 : sameA a a') (h2 : sameA b b') (hu : AtD s.heap u (.tup [a, b])) (hv : AtD s.heap v (.tup [a', b'])) :
    wpAny (model prog w) A (keyLt' (tuples' true) u v) (fun r s' => s' = s ∧ r = ltK (kOf (.tup [a, b])) (kOf (.tup [a', b']))) (fun _ _ => False) s := by
  obtain ⟨p, o, ua, ub, n, rfl, ho, hc, hd, ha, hb⟩ := hu
  obtain ⟨p', o', ua', ub', n', rfl, ho', hc', hd', ha', hb'⟩ := hv
  refine PySem.W.kat_lt ho hd ho' hd' ?_
  show PySem.W.KatLex prog w A true (decide (2 < 2)) _ [(ua, ua'), (ub, ub')] 0 s
  have e3 : ltK (kOf (.tup [a, b])) (kOf (.tup [a', b'])) = if kaOf a = kaOf a' then ltA (kaOf b) (kaOf b') else ltA (kaOf a) (kaOf a') := rfl
  rw [e3]
  refine PySem.W.kat_cons (atom_eq h1 ha ha' ?_)
  refine PySem.W.kat_go (fun e1 => ?_) (fun e1 => ?_)
  · have e1 := of_decide_eq_true e1
    rw [if_pos e1]
    refine PySem.W.kat_yes (PySem.W.kat_cons (atom_eq h2 hb hb' ?_))
    refine PySem.W.kat_go (fun e2 => ?_) (fun e2 => ?_)
    · have e2 := of_decide_eq_true e2
      refine PySem.W.kat_yes (PySem.W.kat_nil ⟨rfl, ?_⟩)
      rw [e2, slo_A.irr]
      rfl
    · exact PySem.W.kat_no (atom_lt2 h2 hb hb' ⟨rfl, rfl⟩)
  · have e1 := of_decide_eq_false e1
    rw [if_neg e1]
    exact PySem.W.kat_no (atom_lt h1 ha ha' ⟨rfl, rfl⟩)
end
theorem AtD.keeps {h h' : Heap} {u : Value} {d : D} (k : ∀ b o, h.get? b = some o → o.cls = Value.type "tuple" → h'.get? b = some o) (hu : AtD h u d) : AtD h' u d := by
  unfold AtD at hu ⊢
  split at hu
  · obtain ⟨p, o, ua, ub, n, rfl, ho, hc, r⟩ := hu
    exact ⟨p, o, ua, ub, n, rfl, k _ _ ho hc, hc, r⟩
  · exact hu
theorem atD_fun {h : Heap} {u : Value} {d e : D} {k k' : Srt} (hd : srtOf d = some k) (he : srtOf e = some k') (h1 : AtD h u d) (h2 : AtD h u e) : d = e := by
  have at1 : ∀ {d : D} {k : Srt}, srtOf d = some k → AtD h u d → (AtA u d) ∨ ∃ a b, d = .tup [a, b] := fun {d k} hd hu => by
    rcases srt_eq hd with ⟨rfl, i, rfl⟩ | ⟨rfl, t, rfl⟩ | ⟨rfl, i, j, rfl⟩ | ⟨rfl, i, t, rfl⟩ | ⟨rfl, t, i, rfl⟩ | ⟨rfl, t, u, rfl⟩
    · exact .inl hu
    · exact .inl hu
    all_goals exact .inr ⟨_, _, rfl⟩
  rcases at1 hd h1 with g1 | ⟨a, b, rfl⟩
  · rcases at1 he h2 with g2 | ⟨a, b, rfl⟩
    · exact atA_fun g1 g2
    · obtain ⟨p, o, ua, ub, n, rfl, _⟩ := h2
      cases d <;> try exact g1.elim
      · obtain ⟨t, g1⟩ := g1; cases g1
      · obtain ⟨t, g1⟩ := g1; cases g1
  · obtain ⟨p, o, ua, ub, n, rfl, ho, hc, hdt, ha, hb⟩ := h1
    rcases at1 he h2 with g2 | ⟨a', b', rfl⟩
    · cases e <;> try exact g2.elim
      · obtain ⟨t, g2⟩ := g2; cases g2
      · obtain ⟨t, g2⟩ := g2; cases g2
    · obtain ⟨p', o', ua', ub', n', e, ho', hc', hd', ha', hb'⟩ := h2
      injection e with e
      subst e
      rw [ho] at ho'
      cases ho'
      rw [hdt] at hd'
      injection hd' with hd' _
      have e1 : ua = ua' := by have := congrArg (fun z : Array Value => z[0]?) hd'; simpa using this
      have e2 : ub = ub' := by have := congrArg (fun z : Array Value => z[1]?) hd'; simpa using this
      subst e1 e2
      rw [atA_fun ha ha', atA_fun hb hb']
section
variable {prog : Program} {w : World} {A : Around} {E : Value → Shared → Prop} {s : Shared}
theorem firsts_D {h : Heap} {P : D → Prop} : ∀ {vs : List Value}, (∀ v ∈ vs, ∃ a b, AtD h v (.tup [a, b]) ∧ P a) → ∃ fs : List Value, PySem.W.KatTups h vs fs ∧ fs.length = vs.length ∧ ∀ f ∈ fs, ∃ a, AtA f a ∧ P a
  | [], _ => ⟨[], PySem.W.KatTups.nil, rfl, fun _ hm => by simp at hm⟩
  | v :: vs, hp => by
    obtain ⟨fs, h1, h2, h3⟩ := firsts_D (vs := vs) fun v' hm => hp v' (List.mem_cons_of_mem _ hm)
    obtain ⟨a, b, ⟨p, o, ua, ub, n, e, ho, hc, hd, ha, hb⟩, pa⟩ := hp v List.mem_cons_self
    subst e
    refine ⟨ua :: fs, PySem.W.KatTups.cons ho hc hd rfl h1, by rw [List.length_cons, List.length_cons, h2], fun f hm => ?_⟩
    rcases List.mem_cons.mp hm with rfl | hm
    · exact ⟨a, ha, pa⟩
    · exact h3 f hm
theorem cmp_one {vs : List Value} {kd : Value → D} (hk : ∀ v ∈ vs, AtA v (kd v)) (hs : ∀ v ∈ vs, ∀ u ∈ vs, sameA (kd v) (kd u)) (hf : ∀ v ∈ vs, kOf (kd v) = (kaOf (kd v), (0, []))) : SrtO.Cmp prog w A s oneType' (fun p => p.1 ∈ vs) (SrtO.lt2 fun v u => ltK (kOf (kd v)) (kOf (kd u))) := by
  intro p q hm hm'
  show wpAny (model prog w) A (keyLt' oneType' p.1 q.1) (fun r s' => s' = s ∧ r = ltK (kOf (kd p.1)) (kOf (kd q.1))) (fun _ _ => False) s
  rw [keyLt'_oneType]
  refine atom_lt (hs _ hm _ hm') (hk _ hm) (hk _ hm') ⟨rfl, ?_⟩
  rw [hf _ hm, hf _ hm', ltK_1]
theorem cmp_two {vs : List Value} {kd : Value → D} (hk : ∀ v ∈ vs, ∀ u ∈ vs, ∃ a b a' b', kd v = .tup [a, b] ∧ kd u = .tup [a', b'] ∧ sameA a a' ∧ sameA b b') (ha : ∀ v ∈ vs, AtD s.heap v (kd v)) : SrtO.Cmp prog w A s (tuples' true) (fun p => p.1 ∈ vs) (SrtO.lt2 fun v u => ltK (kOf (kd v)) (kOf (kd u))) := by
  intro p q hm hm'
  show wpAny (model prog w) A (keyLt' (tuples' true) p.1 q.1) (fun r s' => s' = s ∧ r = ltK (kOf (kd p.1)) (kOf (kd q.1))) (fun _ _ => False) s
  obtain ⟨a, b, a', b', e1, e2, s1, s2⟩ := hk _ hm _ hm'
  have h1 := ha _ hm
  have h2 := ha _ hm'
  rw [e1] at h1 ⊢
  rw [e2] at h2 ⊢
  exact pair_lt s1 s2 h1 h2
theorem kind_two {vs : List Value} {P : D → Prop} {T : String} (hp : ∀ v ∈ vs, ∃ a b, AtD s.heap v (.tup [a, b]) ∧ P a) (h0 : 0 < vs.length) (hT : ∀ f a, AtA f a → P a → PySem.W.Looks (model prog w) s.heap (PySem.typeOf f) (.type T)) (hne : (Value.type T != Value.type "tuple") = true) {Q : PyProof.Rows.SortKind → Shared → Prop} (hq : Q (tuples' true) s) : wpAny (model prog w) A (keyKind' vs.toArray) Q E s := by
  obtain ⟨fs, h1, h2, h3⟩ := firsts_D hp
  refine PySem.W.kat_kind (T := .type T) h1 (by omega) (fun f hm => ?_) (by simp) ?_
  · obtain ⟨a, g1, g2⟩ := h3 f hm
    exact hT f a g1 g2
  · rw [hne]; exact hq
end
section
variable {prog : Program} {w : World} {A : Around} {E : Value → Shared → Prop} {s : Shared}
theorem looks_int {f : Value} {a : D} (h : AtA f a) (p : ∃ i, a = .int i) {h0 : Heap} : PySem.W.Looks (model prog w) h0 (PySem.typeOf f) (.type "int") := by
  obtain ⟨i, rfl⟩ := p
  obtain ⟨t, rfl⟩ := h
  exact PySem.W.Looks.now
theorem looks_str {f : Value} {a : D} (h : AtA f a) (p : ∃ t, a = .str t) {h0 : Heap} : PySem.W.Looks (model prog w) h0 (PySem.typeOf f) (.type "str") := by
  obtain ⟨i, rfl⟩ := p
  obtain ⟨t, rfl⟩ := h
  exact PySem.W.Looks.now
theorem sortable_D {a : Addr} {vs : List Value} {kd : Value → D} {k : Srt} (hk : ∀ v ∈ vs, srtOf (kd v) = some k ∧ AtD s.heap v (kd v)) (h2 : 2 ≤ vs.length) (ha : ∀ o, s.heap.get? a = some o → o.cls ≠ .type "tuple") : SrtO.SortableO prog w A s a vs (fun v u => ltK (kOf (kd v)) (kOf (kd u))) := by
  intro h' keep
  have hk' : ∀ v ∈ vs, srtOf (kd v) = some k ∧ AtD h' v (kd v) := fun v hv => ⟨(hk v hv).1, (hk v hv).2.keeps fun b o e c => keep b o (fun z => by subst z; exact ha o e c) e⟩
  have ni : (Value.type "int" != Value.type "tuple") = true := by first | decide +kernel | rfl | decide
  have nst : (Value.type "str" != Value.type "tuple") = true := by first | decide +kernel | rfl | decide
  have two : (∀ v ∈ vs, ∃ a b, kd v = .tup [a, b]) → (∀ v ∈ vs, ∀ u ∈ vs, ∃ a b a' b', kd v = .tup [a, b] ∧ kd u = .tup [a', b'] ∧ sameA a a' ∧ sameA b b') → ((∀ v ∈ vs, ∀ a b, kd v = .tup [a, b] → ∃ i, a = .int i) ∨ (∀ v ∈ vs, ∀ a b, kd v = .tup [a, b] → ∃ t, a = .str t)) →
      ∃ κ, (∀ (Q : PyProof.Rows.SortKind → Shared → Prop) (E : Value → Shared → Prop), Q κ { s with heap := h' } → wpAny (model prog w) A (keyKind' vs.toArray) Q E { s with heap := h' }) ∧ SrtO.Cmp prog w A { s with heap := h' } κ (fun p => p.1 ∈ vs) (SrtO.lt2 fun v u => ltK (kOf (kd v)) (kOf (kd u))) := fun ht hs hf => by
    refine ⟨tuples' true, fun Q E hq => ?_, cmp_two hs fun v hv => (hk' v hv).2⟩
    rcases hf with hf | hf
    · refine kind_two (s := { s with heap := h' }) (P := fun a => ∃ i, a = .int i) (T := "int") (fun v hv => ?_) (by omega) (fun f a g p => looks_int g p) ni hq
      obtain ⟨a, b, e⟩ := ht v hv
      have := (hk' v hv).2
      rw [e] at this
      exact ⟨a, b, this, hf v hv a b e⟩
    · refine kind_two (s := { s with heap := h' }) (P := fun a => ∃ i, a = .str i) (T := "str") (fun v hv => ?_) (by omega) (fun f a g p => looks_str g p) nst hq
      obtain ⟨a, b, e⟩ := ht v hv
      have := (hk' v hv).2
      rw [e] at this
      exact ⟨a, b, this, hf v hv a b e⟩
  have inj : ∀ {a b c d : D}, D.tup [a, b] = D.tup [c, d] → a = c ∧ b = d := fun {a b c d} e => by
    injection e with e
    injection e with e1 e2
    injection e2 with e2 _
    exact ⟨e1, e2⟩
  cases k with
  | i =>
    have hi : ∀ v ∈ vs, ∃ i, kd v = .int i := fun v hv => by
      rcases srt_eq (hk' v hv).1 with ⟨_, i, e⟩ | ⟨h, _⟩ | ⟨h, _⟩ | ⟨h, _⟩ | ⟨h, _⟩ | ⟨h, _⟩ <;> first | exact ⟨i, e⟩ | cases h
    have hat : ∀ v ∈ vs, AtA v (kd v) := fun v hv => by
      obtain ⟨i, e⟩ := hi v hv
      have := (hk' v hv).2
      rw [e] at this ⊢
      exact this
    refine ⟨oneType', fun Q E hq => ?_, cmp_one hat (fun v hv u hu => ?_) fun v hv => ?_⟩
    · have hI := SrtO.ints_iv (vs := vs) fun v hv => by
        obtain ⟨i, e⟩ := hi v hv
        have := hat v hv
        rw [e] at this
        obtain ⟨t, e2⟩ := this
        exact ⟨i, t, e2⟩
      match vs, hI, h2 with
      | v1 :: v2 :: rest, hI, _ =>
        rw [keyKind_ints hI]
        exact wpAny_pure hq
      | [], _, h => exact absurd h (by decide)
      | [v], _, h => exact absurd h (by simp)
    · obtain ⟨i, e⟩ := hi v hv
      obtain ⟨j, e2⟩ := hi u hu
      exact .inl ⟨i, j, e, e2⟩
    · obtain ⟨i, e⟩ := hi v hv
      rw [e]; rfl
  | s =>
    have hi : ∀ v ∈ vs, ∃ i, kd v = .str i := fun v hv => by
      rcases srt_eq (hk' v hv).1 with ⟨h, _⟩ | ⟨_, i, e⟩ | ⟨h, _⟩ | ⟨h, _⟩ | ⟨h, _⟩ | ⟨h, _⟩ <;> first | exact ⟨i, e⟩ | cases h
    have hat : ∀ v ∈ vs, AtA v (kd v) := fun v hv => by
      obtain ⟨i, e⟩ := hi v hv
      have := (hk' v hv).2
      rw [e] at this ⊢
      exact this
    refine ⟨oneType', fun Q E hq => ?_, cmp_one hat (fun v hv u hu => ?_) fun v hv => ?_⟩
    · have hI := strsAre_map vs fun v hv => by
        obtain ⟨i, e⟩ := hi v hv
        have := hat v hv
        rw [e] at this
        obtain ⟨t, e2⟩ := this
        exact ⟨mst i, t, e2⟩
      match vs, hI, h2 with
      | v1 :: v2 :: rest, hI, _ =>
        rw [keyKind_strs hI]
        exact wpAny_pure hq
      | [], _, h => exact absurd h (by decide)
      | [v], _, h => exact absurd h (by simp)
    · obtain ⟨i, e⟩ := hi v hv
      obtain ⟨j, e2⟩ := hi u hu
      exact .inr ⟨i, j, e, e2⟩
    · obtain ⟨i, e⟩ := hi v hv
      rw [e]; rfl
  | pii =>
    have hi : ∀ v ∈ vs, ∃ i j, kd v = .tup [.int i, .int j] := fun v hv => by
      rcases srt_eq (hk' v hv).1 with ⟨h, _⟩ | ⟨h, _⟩ | ⟨_, i, j, e⟩ | ⟨h, _⟩ | ⟨h, _⟩ | ⟨h, _⟩ <;> first | exact ⟨i, j, e⟩ | cases h
    refine two (fun v hv => let ⟨i, j, e⟩ := hi v hv; ⟨_, _, e⟩) (fun v hv u hu => ?_) (.inl fun v hv a b e => ?_)
    · obtain ⟨i, j, e⟩ := hi v hv
      obtain ⟨i', j', e'⟩ := hi u hu
      exact ⟨_, _, _, _, e, e', .inl ⟨_, _, rfl, rfl⟩, .inl ⟨_, _, rfl, rfl⟩⟩
    · obtain ⟨i, j, e'⟩ := hi v hv
      exact ⟨i, (inj (e.symm.trans e')).1⟩
  | pis =>
    have hi : ∀ v ∈ vs, ∃ i j, kd v = .tup [.int i, .str j] := fun v hv => by
      rcases srt_eq (hk' v hv).1 with ⟨h, _⟩ | ⟨h, _⟩ | ⟨h, _⟩ | ⟨_, i, j, e⟩ | ⟨h, _⟩ | ⟨h, _⟩ <;> first | exact ⟨i, j, e⟩ | cases h
    refine two (fun v hv => let ⟨i, j, e⟩ := hi v hv; ⟨_, _, e⟩) (fun v hv u hu => ?_) (.inl fun v hv a b e => ?_)
    · obtain ⟨i, j, e⟩ := hi v hv
      obtain ⟨i', j', e'⟩ := hi u hu
      exact ⟨_, _, _, _, e, e', .inl ⟨_, _, rfl, rfl⟩, .inr ⟨_, _, rfl, rfl⟩⟩
    · obtain ⟨i, j, e'⟩ := hi v hv
      exact ⟨i, (inj (e.symm.trans e')).1⟩
  | psi =>
    have hi : ∀ v ∈ vs, ∃ i j, kd v = .tup [.str i, .int j] := fun v hv => by
      rcases srt_eq (hk' v hv).1 with ⟨h, _⟩ | ⟨h, _⟩ | ⟨h, _⟩ | ⟨h, _⟩ | ⟨_, i, j, e⟩ | ⟨h, _⟩ <;> first | exact ⟨i, j, e⟩ | cases h
    refine two (fun v hv => let ⟨i, j, e⟩ := hi v hv; ⟨_, _, e⟩) (fun v hv u hu => ?_) (.inr fun v hv a b e => ?_)
    · obtain ⟨i, j, e⟩ := hi v hv
      obtain ⟨i', j', e'⟩ := hi u hu
      exact ⟨_, _, _, _, e, e', .inr ⟨_, _, rfl, rfl⟩, .inl ⟨_, _, rfl, rfl⟩⟩
    · obtain ⟨i, j, e'⟩ := hi v hv
      exact ⟨i, (inj (e.symm.trans e')).1⟩
  | pss =>
    have hi : ∀ v ∈ vs, ∃ i j, kd v = .tup [.str i, .str j] := fun v hv => by
      rcases srt_eq (hk' v hv).1 with ⟨h, _⟩ | ⟨h, _⟩ | ⟨h, _⟩ | ⟨h, _⟩ | ⟨h, _⟩ | ⟨_, i, j, e⟩ <;> first | exact ⟨i, j, e⟩ | cases h
    refine two (fun v hv => let ⟨i, j, e⟩ := hi v hv; ⟨_, _, e⟩) (fun v hv u hu => ?_) (.inr fun v hv a b e => ?_)
    · obtain ⟨i, j, e⟩ := hi v hv
      obtain ⟨i', j', e'⟩ := hi u hu
      exact ⟨_, _, _, _, e, e', .inr ⟨_, _, rfl, rfl⟩, .inr ⟨_, _, rfl, rfl⟩⟩
    · obtain ⟨i, j, e'⟩ := hi v hv
      exact ⟨i, (inj (e.symm.trans e')).1⟩
end
/-! ### readings of a list's items -/
section
variable {X : Cx} {pins : List (Addr × PySem.Obj)} {σ : L2.St} {H : Hp} {s : Shared} {n : Nat} {M : MM}
theorem atA_of {d : D} {v : V} {u : Value} (hd : (∃ i, d = .int i) ∨ ∃ t, d = .str t) (r : RD X.K n M H d v) (ru : RelV v u) : AtA u d := by
  rcases hd with ⟨i, rfl⟩ | ⟨t, rfl⟩
  · cases r; exact ru
  · cases r; exact ru
theorem atD_of (I : Inv X pins σ H s) {d : D} {v : V} {u : Value} {k : Srt} (hd : srtOf d = some k) (r : RD X.K n M H d v) (ru : RelV v u) : AtD s.heap u d := by
  have pair : ∀ a b, d = .tup [a, b] → ((∃ i, a = .int i) ∨ ∃ t, a = .str t) → ((∃ i, b = .int i) ∨ ∃ t, b = .str t) → AtD s.heap u d := fun a b e ha hb => by
    subst e
    cases r with
    | @tup p _ _ hq hs =>
      cases hs with
      | cons r1 hs =>
        cases hs with
        | cons r2 hs =>
          cases hs with
          | nil =>
            obtain ⟨its, rv, ⟨o, ho, hc, n, hdt⟩, _⟩ := I.tuple hq
            cases rv with
            | cons q1 rv =>
              cases rv with
              | cons q2 rv =>
                cases rv with
                | nil => exact ⟨p, o, _, _, n, ru, ho, hc, hdt, atA_of ha r1 q1, atA_of hb r2 q2⟩
  rcases srt_eq hd with ⟨_, i, rfl⟩ | ⟨_, t, rfl⟩ | ⟨_, i, j, e⟩ | ⟨_, i, t, e⟩ | ⟨_, t, i, e⟩ | ⟨_, t, t', e⟩
  · exact atA_of (.inl ⟨i, rfl⟩) r ru
  · exact atA_of (.inr ⟨t, rfl⟩) r ru
  · exact pair _ _ e (.inl ⟨_, rfl⟩) (.inl ⟨_, rfl⟩)
  · exact pair _ _ e (.inl ⟨_, rfl⟩) (.inr ⟨_, rfl⟩)
  · exact pair _ _ e (.inr ⟨_, rfl⟩) (.inl ⟨_, rfl⟩)
  · exact pair _ _ e (.inr ⟨_, rfl⟩) (.inr ⟨_, rfl⟩)
/-- each item's datum and value -/
structure It3 (X : Cx) (n : Nat) (M : MM) (H : Hp) (h : Heap) (its : List Value) (xs : List D) (kd : Value → D) (kv : Value → V) : Prop where
  eq : its.map kd = xs
  rd : ∀ u ∈ its, RD X.K n M H (kd u) (kv u) ∧ RelV (kv u) u ∧ AtD h u (kd u)
theorem it3_of (I : Inv X pins σ H s) {k : Srt} {xs : List D} {vs : List V} {its : List Value} (hk : ∀ d ∈ xs, srtOf d = some k) (rs : RDs X.K n M H xs vs) (rv : L2.Vals vs its) : ∃ kd kv, It3 X n M H s.heap its xs kd kv := by
  classical
  have ex : ∀ {xs : List D} {vs : List V} {its : List Value}, (∀ d ∈ xs, srtOf d = some k) → RDs X.K n M H xs vs → L2.Vals vs its → ∀ u ∈ its, ∃ p : D × V, srtOf p.1 = some k ∧ RD X.K n M H p.1 p.2 ∧ RelV p.2 u := by
    intro xs
    induction xs with
    | nil => intro vs its _ rs rv u hu; cases rs; cases rv; cases hu
    | cons d ds ih =>
      intro vs its hk rs rv u hu
      cases rs with
      | cons a b =>
        cases rv with
        | cons q r =>
          rcases List.mem_cons.mp hu with z | z
          · subst z; exact ⟨(d, _), hk d List.mem_cons_self, a, q⟩
          · exact ih (fun d hd => hk d (List.mem_cons_of_mem _ hd)) b r u z
  let f : Value → D × V := fun u => if h : ∃ p : D × V, srtOf p.1 = some k ∧ RD X.K n M H p.1 p.2 ∧ RelV p.2 u then h.choose else (.non, .non)
  have hf : ∀ u, (∃ p : D × V, srtOf p.1 = some k ∧ RD X.K n M H p.1 p.2 ∧ RelV p.2 u) → srtOf (f u).1 = some k ∧ RD X.K n M H (f u).1 (f u).2 ∧ RelV (f u).2 u := fun u h => by
    have : f u = h.choose := dif_pos h
    rw [this]
    exact h.choose_spec
  have mp : ∀ {xs : List D} {vs : List V} {its : List Value}, (∀ d ∈ xs, srtOf d = some k) → RDs X.K n M H xs vs → L2.Vals vs its → its.map (fun u => (f u).1) = xs := by
    intro xs
    induction xs with
    | nil => intro vs its _ rs rv; cases rs; cases rv; rfl
    | cons d ds ih =>
      intro vs its hk rs rv
      cases rs with
      | @cons _ v _ _ a b =>
        cases rv with
        | @cons _ u _ us q r =>
          have hd := hk d List.mem_cons_self
          obtain ⟨g1, g2, g3⟩ := hf u ⟨(d, v), hd, a, q⟩
          rw [List.map_cons, ih (fun d hd => hk d (List.mem_cons_of_mem _ hd)) b r]
          congr 1
          exact atD_fun g1 hd (atD_of I g1 g2 g3) (atD_of I hd a q)
  refine ⟨fun u => (f u).1, fun u => (f u).2, mp hk rs rv, fun u hu => ?_⟩
  obtain ⟨g1, g2, g3⟩ := hf u (ex hk rs rv u hu)
  exact ⟨g2, g3, atD_of I g1 g2 g3⟩
theorem it3_out {h : Heap} {its out : List Value} {xs : List D} {kd : Value → D} {kv : Value → V} (t : It3 X n M H h its xs kd kv) (hm : ∀ u ∈ out, u ∈ its) : RDs X.K n M H (out.map kd) (out.map kv) ∧ L2.Vals (out.map kv) out := by
  induction out with
  | nil => exact ⟨.nil, .nil⟩
  | cons u r ih =>
    obtain ⟨i1, i2⟩ := ih fun u hu => hm u (List.mem_cons_of_mem _ hu)
    obtain ⟨g1, g2, _⟩ := t.rd u (hm u List.mem_cons_self)
    exact ⟨.cons g1 i1, .cons g2 i2⟩
/-- what a stable sort of the items gives -/
theorem it3_sorted {h : Heap} {its out : List Value} {xs : List D} {kd : Value → D} {kv : Value → V} (t : It3 X n M H h its xs kd kv) (hs : sortable xs = true) (h1 : SrtO.Srtd (fun v u => ltK (kOf (kd v)) (kOf (kd u))) out) (h2 : SrtO.Stb (fun v u => ltK (kOf (kd v)) (kOf (kd u))) out its) : ∃ us, RDs X.K n M H (sortD xs) us ∧ L2.Vals us out := by
  have hm : ∀ u ∈ out, u ∈ its := fun u hu => h2.perm.mem_iff.mp hu
  obtain ⟨g1, g2⟩ := it3_out t hm
  have e : out.map kd = sortD xs := by
    refine sort_uniq hs (SrtO.srtd_map h1) ?_
    rw [← t.eq]
    exact SrtO.Stb.map kOf_swo kd h2
  rw [e] at g1
  exact ⟨_, g1, g2⟩
end
end KW
/-! KwKeysV: sorted(list), sorted(d.keys()), list(d.keys()). -/
namespace KW
open PySem (Str Addr Value Program World Heap Operator CmpOp binaryOp compareOp PyData Scope Const Env Around Shared Tok wpAny wpAny_bind wpAny_mono wpAny_pure model)
open PySem.Spec PyProof.Rows
open L2 (V Hp HO upd upd_same upd_ne upd_upd SqL SqT Rd RelV Mut TE TT TA TS TI TG PI PG WX PE PT PW PA PS PSs Cx Inv OpR UnR CallR MtR IxR SlR TruR VK EP XK rI0)
def rSortD (K : Fr) : List V → Hp → VK → Prop := fun ws H Q => ∃ a vs xs n M, ws = [V.ref a] ∧ SqL K H a vs ∧ RDs K n M H xs vs ∧ sortable xs = true ∧ ∀ us p, RDs K n M H (sortD xs) us → H p = none → Q (.ref p) (upd H p (.lst us))
section
variable {X : Cx}
theorem notTup : (Value.type "list" : Value) ≠ Value.type "tuple" := fun c => absurd (Value.type.inj c) (by decide)
theorem kind_of {xs : List D} (h : sortable xs = true) : ∃ k, ∀ d ∈ xs, srtOf d = some k := by
  rcases sortable_kind h with e | e
  · exact ⟨.i, fun d hd => by rw [e] at hd; cases hd⟩
  · exact e
theorem cr_sortD : CallR X (.builtin "sorted") (rSortD X.K) := by
  intro pins s σ H vs us Q I r h
  obtain ⟨a, ws, xs, n, M, rfl, hs, rs, so, q⟩ := h
  obtain ⟨its, rv, hl, hz⟩ := I.list hs
  rw [L2.Vals.ref1 r]
  obtain ⟨k, hk⟩ := kind_of so
  obtain ⟨kd, kv, t⟩ := it3_of I hk rs rv
  have hkd : ∀ v ∈ its, srtOf (kd v) = some k := fun v hv => hk _ (by rw [← t.eq]; exact List.mem_map.mpr ⟨v, hv, rfl⟩)
  refine SrtO.sorted_ord (ltv := fun v u => ltK (kOf (kd v)) (kOf (kd u))) (slo_K.swo fun v => kOf (kd v)) hl.isList (by rw [← rv.length]; exact hz) (fun h2 h₁ a' ha kk => ?_) fun out h1 h2 => ?_
  · refine sortable_D (s := { s with heap := h₁ }) (k := k) (fun v hv => ⟨hkd v hv, (t.rd v hv).2.2.keeps fun b o e _ => (kk b o e).2⟩) h2 fun o e => ?_
    have e' : some o = some (PyProof.Rows.seqObj "list" its.toArray 0) := e.symm.trans ha
    cases e'
    exact notTup
  · obtain ⟨us, g1, g2⟩ := it3_sorted t so h1 h2
    obtain ⟨ep, he'⟩ := PyProof.Rows.sortedAll_at s.heap its out.toArray
    have hlen : us.length ≤ PySem.sizeLine := by
      rw [g2.length, h2.perm.length_eq, ← rv.length]
      exact hz
    exact ⟨.ref _, upd H (s.heap.objs.size + 1) (.lst us), I.laid (t' := s.toks) (fun _ _ => PyProof.Rows.sortedAll_old) (Nat.le_succ _) ⟨hlen, out, ep, g2, he'⟩, rfl, q _ _ g1 (I.hok.fresh (Nat.le_succ _))⟩
theorem ok_sorted {K : Fr} : Ok1 K .sorted (fun x H Q => rSortD K [x] H Q) := by
  intro M H σ s x vx z Q rt rx hz hq
  obtain ⟨xs, h1, h2⟩ := obind (show (lstOf s.h x).bind oSort = some z from hz)
  obtain ⟨g, h3⟩ := oif (show (if sortable xs = true then newLst (sortD xs) else none) = some z from h2)
  obtain ⟨rfl, _⟩ := newLst_some h3
  obtain ⟨a, vs, rfl, r1, r2⟩ := lst_at rt rx h1
  exact ⟨a, vs, xs, _, M, rfl, .inl r1, r2, g, fun us p hu hp => give_lst rt hu hq p hp⟩
/-! ### the keys of a dict -/
abbrev M0 : MM := ⟨fun _ => default, fun _ => none, none⟩
theorem keys_items {P : Program} {w : World} {kvs : List (L2.Key × Value)} {acc : Array Value} (h : PySem.ItemsOf (fun i v => ∃ k x, kvs[i]? = some (k, x) ∧ (L2.mixKind P w).is k v = true) acc kvs.length) : L2.Vals (kvs.map fun q => L2.kV q.1) acc.toList := by
  obtain ⟨hn, hi⟩ := h
  have go : ∀ (l : List Value) (kvs : List (L2.Key × Value)), l.length = kvs.length → (∀ (j : Nat) (v : Value), l[j]? = some v → ∃ k x, kvs[j]? = some (k, x) ∧ (L2.mixKind P w).is k v = true) → L2.Vals (kvs.map fun q => L2.kV q.1) l := by
    intro l
    induction l with
    | nil => intro kvs hl _; have : kvs = [] := List.eq_nil_of_length_eq_zero hl.symm; subst this; exact .nil
    | cons v l ih =>
      intro kvs hl hv
      cases kvs with
      | nil => cases hl
      | cons q r =>
        obtain ⟨k, x, e1, e2⟩ := hv 0 v rfl
        simp at e1
        refine .cons ?_ (ih r (by simpa using hl) fun j u hu => ?_)
        · rw [e1]; exact L2.relV_key e2
        · obtain ⟨k, x, e1, e2⟩ := hv (j + 1) u (by simpa using hu)
          exact ⟨k, x, by simpa using e1, e2⟩
  exact go acc.toList kvs (by rw [Array.length_toList]; exact hn) fun j v e => hi j v (by rw [← Array.getElem?_toList]; exact e)
theorem keys_rds {K : Fr} {n : Nat} {M : MM} {H : Hp} : ∀ {ks : List Key}, (∀ k ∈ ks, okK k) → RDs K n M H (ks.map keyD) (ks.map fun k => L2.kV (mkey k))
  | [], _ => .nil
  | k :: ks, h => .cons (key_rd (h k List.mem_cons_self)) (keys_rds fun j hj => h j (List.mem_cons_of_mem _ hj))
/-- ints and texts -/
theorem atoms_V {K : Fr} {n : Nat} {M : MM} {H : Hp} : ∀ {xs : List D} {vs : List V}, (∀ d ∈ xs, (keyOf d).isSome = true) → RDs K n M H xs vs → vs = xs.map vOf ∧ ∀ n' M' H', RDs K n' M' H' xs vs
  | _, _, _, .nil => ⟨rfl, fun _ _ _ => .nil⟩
  | _, _, h, .cons a b => by
    obtain ⟨i1, i2⟩ := atoms_V (fun d hd => h d (List.mem_cons_of_mem _ hd)) b
    have hd := h _ List.mem_cons_self
    cases a with
    | int i => exact ⟨by rw [i1]; rfl, fun n' M' H' => .cons (.int i) (i2 n' M' H')⟩
    | str t ht => exact ⟨by rw [i1]; rfl, fun n' M' H' => .cons (.str t ht) (i2 n' M' H')⟩
    | _ => cases hd
theorem keyD_key (ks : List Key) : ∀ d ∈ ks.map keyD, (keyOf d).isSome = true := fun d hd => by
  obtain ⟨k, _, rfl⟩ := List.mem_map.mp hd
  cases k <;> rfl
/-- what list(d.keys()), sorted(d.keys()) ask -/
def tKeysL (te : TE) (f : List D → List D) (ok : List D → Prop) : TE := fun σ H Q => te σ H fun x H1 => ∃ (d : Addr) (gs : List (L2.Key × V)) (ks : List Key), x = .ref d ∧ Rd H1 d (.dK gs) ∧ gs.map (·.1) = ks.map mkey ∧ (∀ k ∈ ks, okK k) ∧ ok (ks.map keyD) ∧ ∀ p, H1 p = none → Q (.ref p) (upd H1 p (.lst ((f (ks.map keyD)).map vOf)))
variable {e : Py} {te : TE} {p apos cpos pos : PySem.Pos}
theorem gs_ks {gs : List (L2.Key × V)} {ks : List Key} (h : gs.map (·.1) = ks.map mkey) : (gs.map fun q => L2.kV q.1) = ks.map fun k => L2.kV (mkey k) := by
  have := congrArg (List.map L2.kV) h
  simpa [List.map_map, Function.comp_def] using this
abbrev KeysR (X : Cx) (fv : Value) (f : List D → List D) (ok : List D → Prop) : Prop := ∀ (pins : List (Addr × PySem.Obj)) (s : Shared) (σ : L2.St) (H : Hp) (Q : VK) (d v : Addr) (gs : List (L2.Key × V)) (ks : List Key), Inv X pins σ H s → Rd H d (.dK gs) → gs.map (·.1) = ks.map mkey → (∀ k ∈ ks, okK k) → ok (ks.map keyD) → PySem.W.KdlKeysView s.heap v d →
      (∀ p, H p = none → Q (.ref p) (upd H p (.lst ((f (ks.map keyD)).map vOf)))) → wpAny (model X.prog X.w) X.A (PySem.call fv [.ref v]) (L2.EP X pins σ Q) X.xe s
theorem keys_arg {f : List D → List D} {ok : List D → Prop} {fv : Value} (r : KeysR X fv f ok) (he : PE X e te) (hbase : PySem.attributeBase e "keys" X.env (PySem.eval e X.env) = PySem.eval e X.env) (hline : (apos.endLine == cpos.line) = true) {pins : List (Addr × PySem.Obj)} {s : Shared} {σ : L2.St} {H : Hp} {Q : VK} (I : Inv X pins σ H s) (hq : tKeysL te f ok σ H Q) :
    wpAny (model X.prog X.w) X.A (PySem.spliced (PySem.backTo pos (PySem.starEach [.Call (.Attribute e "keys" apos) [] [] cpos] X.env))) (fun us s' => wpAny (model X.prog X.w) X.A (PySem.call fv us) (L2.EP X pins σ Q) X.xe s') X.xe s := by
  show wpAny _ _ (PySem.spliced [(false, PySem.eval (.Call (.Attribute e "keys" apos) [] [] cpos) X.env)]) _ _ s
  refine PySem.Calls.spliced_cons ?_
  refine PySem.wpAny_Call_method (T := "dict") (id := "dict.keys") hbase rfl hline PySem.F.plainAttrs_dict PySem.F.slot_dict_keys PySem.F.type_dict_keys (L2.thn (he.run pins s σ H _ I hq) fun u s1 ⟨x, H1, I1, rx, d, gs, ks, ex, hd, h1, h2, h3, q⟩ => ?_)
  subst ex
  obtain rfl : u = Value.ref d := rx
  obtain ⟨hz, hs0, vs, kv, hdo⟩ := L2.dk_rd I1.hok hd
  have I2 : Inv X pins σ H1 { s1 with heap := s1.heap.push { cls := .type "dict_keys", data := .fields #[.ref d] } } := I1.kept (t' := s1.toks) fun b ob q => PySem.Heap.get?_push_of_some _ q
  refine ⟨hdo.typeIs, hdo.mapOf.noDict, ?_⟩
  show wpAny _ _ (PySem.callWith cpos (.builtin "dict.keys") [.ref d] [] []) _ X.xe s1
  refine PySem.method_meetsIn PySem.F.slot_dict_keys PySem.F.entry_dict_keys rfl (PySem.evalArgs_none ⟨rfl, hdo.typeIs, PySem.F.args_dict_keys_1 _, _, PySem.W.kdl_meets_keys (L2.mixKind X.prog X.w) d hs0, ⟨vs, hdo⟩, ?_⟩)
  refine PySem.Calls.spliced_nil ?_
  exact r pins _ σ H1 Q d _ gs ks I2 hd h1 h2 h3 ⟨_, PySem.Heap.get?_push_size _ rfl, rfl, rfl⟩ q
theorem sorted_keysR (hc : X.calm = true) : KeysR X (.builtin "sorted") sortD (fun ds => sortable ds = true) := by
  intro pins s σ H Q d v gs ks I hd h1 h2 h3 hv q
  obtain ⟨hz, hs0, vs, kv, hdo⟩ := L2.dk_rd I.hok hd
  obtain ⟨ep, hat⟩ := hdo.dictAt
  have lk : gs.length = vs.length := kv.length
  have hh := I.ok.hd hc
  refine PySem.Calls.call_function_entry kind_sorted plain_sorted entry_sorted (args_sorted1 _) ?_
  unfold PySem.Builtin.«sorted»
  refine wpAny_bind (m := PySem.checkCount "sorted" 1 1 _) (wpAny_pure ?_)
  refine wpAny_bind (PySem.W.kdu_collect (A := X.A.in1) (PySem.W.kdl_keys (knd := L2.mixKind X.prog X.w) (kvs := vs) (ep := ep)) hh ⟨hv, hat⟩ (by omega) fun h' tk acc hk hacc => ?_)
  have hl : acc.toList.length = vs.length := by rw [Array.length_toList]; exact hacc.1
  refine wpAny_bind (PySem.wpAny_newList ?_ (by rw [hl]; omega))
  have I1 : Inv X pins σ H { s with heap := h', toks := tk } := I.kept hk
  have hoL : (h'.push (PyProof.Rows.seqObj "list" acc.toList.toArray 0)).get? h'.objs.size = some (PyProof.Rows.seqObj "list" acc.toList.toArray 0) := PySem.Heap.get?_push_size _ rfl
  have I2 : Inv X pins σ H { s with heap := h'.push (PyProof.Rows.seqObj "list" acc.toList.toArray 0), toks := tk } := I1.kept (t' := tk) fun b o e => PySem.Heap.get?_push_of_some _ e
  have rv : L2.Vals (ks.map fun k => L2.kV (mkey k)) acc.toList := by
    have := keys_items hacc
    have e : (vs.map fun q => L2.kV q.1) = ks.map fun k => L2.kV (mkey k) := by
      rw [← gs_ks h1]
      have := congrArg (List.map L2.kV) kv.keys
      simpa [List.map_map, Function.comp_def] using this.symm
    rw [e] at this
    exact this
  obtain ⟨k, hkk⟩ := kind_of h3
  obtain ⟨kd, kv2, t⟩ := it3_of (n := 0) (M := M0) I2 hkk (keys_rds h2) rv
  have hkd : ∀ v ∈ acc.toList, srtOf (kd v) = some k := fun v hv => hkk _ (by rw [← t.eq]; exact List.mem_map.mpr ⟨v, hv, rfl⟩)
  refine wpAny_bind (PySem.wpAny_holding (PySem.wpAny_call_entry slot_list_sort ⟨_, hoL, rfl⟩ entry_list_sort (SrtO.list_sort_ord (ltv := fun v u => ltK (kOf (kd v)) (kOf (kd u))) (slo_K.swo fun v => kOf (kd v)) hoL (by rw [hl]; omega)
    (fun g2 => sortable_D (k := k) (fun v hv => ⟨hkd v hv, (t.rd v hv).2.2⟩) g2 fun o e => ?_) fun out hs hb => ⟨_, rfl, ?_⟩) (args_list_sort _)))
  · have e' : some o = some (PyProof.Rows.seqObj "list" acc.toList.toArray 0) := e.symm.trans hoL
    cases e'
    exact notTup
  · obtain ⟨us, g1, g2⟩ := it3_sorted t h3 hs hb
    have hsd : ∀ d ∈ sortD (ks.map keyD), (keyOf d).isSome = true := fun d hd => keyD_key ks d (by
      rw [sort_is (lt := fun x y => ltK (kOf x) (kOf y)) fun x hx y hy => ltD_is (hkk y hy) (hkk x hx)] at hd
      exact (sortB_perm _).mem_iff.mp hd)
    obtain ⟨e1, _⟩ := atoms_V hsd g1
    obtain ⟨ep2, he'⟩ := PyProof.Rows.sortedHeap_at (vs := acc.toList) (out := out.toArray) hoL
    have hlen : us.length ≤ PySem.sizeLine := by
      rw [g2.length, hb.perm.length_eq, hl]
      omega
    refine wpAny_pure ⟨_, rfl, .ref h'.objs.size, upd H h'.objs.size (.lst us), ?_, rfl, ?_⟩
    · refine I1.laid (a := h'.objs.size) (h' := PyProof.Rows.sortedHeap (h'.push (PyProof.Rows.seqObj "list" acc.toList.toArray 0)) h'.objs.size acc.toList out.toArray) (t' := tk) (fun b o e => ?_) (Nat.le_refl _) ⟨hlen, out, ep2, g2, he'⟩
      have hb := PySem.Heap.lt_size e
      rw [PyProof.Rows.sortedHeap_old (Nat.ne_of_lt hb) (by rw [PyProof.Rows.size_push']; exact Nat.lt_succ_of_lt hb)]
      exact PySem.Heap.get?_push_of_some _ e
    · rw [e1]
      exact q _ (I1.hok.fresh (Nat.le_refl _))
end
section
variable {G : Tabs} {X : Cx} {W : WX} {C : CallF} {σ : L2.St} {H : Hp} {Q : VK} {e : Py} {te : TE} {p apos cpos pos : PySem.Pos}
theorem list_keysR (hc : X.calm = true) : KeysR X (.type "list") (fun ds => ds) (fun _ => True) := by
  intro pins s σ H Q d v gs ks I hd h1 h2 h3 hv q
  obtain ⟨hz, hs0, vs, kv, hdo⟩ := L2.dk_rd I.hok hd
  obtain ⟨ep, hat⟩ := hdo.dictAt
  have lk : gs.length = vs.length := kv.length
  have hh := I.ok.hd hc
  refine PySem.W.kdl_call (PySem.W.kdl_keys (knd := L2.mixKind X.prog X.w) (kvs := vs) (ep := ep)) hh ⟨hv, hat⟩ (by omega) fun h' tk acc c hk hS hacc => ?_
  have hl : acc.toList.length = vs.length := by rw [Array.length_toList]; exact hacc.1
  have rv : L2.Vals (ks.map fun k => L2.kV (mkey k)) acc.toList := by
    have := keys_items hacc
    have e : (vs.map fun q => L2.kV q.1) = ks.map fun k => L2.kV (mkey k) := by
      rw [← gs_ks h1]
      have := congrArg (List.map L2.kV) kv.keys
      simpa [List.map_map, Function.comp_def] using this.symm
    rw [e] at this
    exact this
  have e2 : (ks.map fun k => L2.kV (mkey k)) = (ks.map keyD).map vOf := by
    rw [List.map_map]
    refine List.map_congr_left fun k _ => ?_
    cases k <;> rfl
  refine ⟨.ref s.heap.objs.size, upd H s.heap.objs.size (.lst ((ks.map keyD).map vOf)), ?_, rfl, q _ (I.hok.fresh (Nat.le_refl _))⟩
  refine I.laid (a := s.heap.objs.size) (t' := tk) hk (Nat.le_refl _) ⟨?_, acc.toList, c, by rw [← e2]; exact rv, by rw [Array.toArray_toList]; exact hS⟩
  rw [← e2, rv.length, hl]; omega
theorem pe_sortedKeys (hc : X.calm = true) (he : PE X e te) (hg : L2.Gl X (sst "sorted")) (hm : X.mg (sst "sorted") = none) (hbase : PySem.attributeBase e "keys" X.env (PySem.eval e X.env) = PySem.eval e X.env) (hline : (apos.endLine == cpos.line) = true) :
    PE X (.Call (.Name (sst "sorted") p) [.Call (.Attribute e "keys" apos) [] [] cpos] [] pos) (tKeysL te sortD (fun ds => sortable ds = true)) := by
  refine ⟨fun pins s σ H Q I hq => ?_⟩
  refine PySem.wpAny_Call_Name_kw (L2.ld_blt I hg hm (u := .builtin "sorted") rfl ?_ (by decide) (by decide))
  exact PyProof.Rows.callWith_builtin1 (keys_arg (sorted_keysR hc) he hbase hline I hq) rfl rfl
theorem pe_listKeys (hc : X.calm = true) (he : PE X e te) (hg : L2.Gl X (sst "list")) (hm : X.mg (sst "list") = none) (hbase : PySem.attributeBase e "keys" X.env (PySem.eval e X.env) = PySem.eval e X.env) (hline : (apos.endLine == cpos.line) = true) :
    PE X (.Call (.Name (sst "list") p) [.Call (.Attribute e "keys" apos) [] [] cpos] [] pos) (tKeysL te (fun ds => ds) (fun _ => True)) := by
  refine ⟨fun pins s σ H Q I hq => ?_⟩
  refine PySem.wpAny_Call_Name_kw (L2.ld_blt I hg hm (u := .type "list") rfl ?_ (by decide) (by decide))
  exact PyProof.Rows.callWith_type1 (keys_arg (list_keysR hc) he hbase hline I hq) rfl rfl
theorem atoms_rds {K : Fr} {n : Nat} {M : MM} {H : Hp} : ∀ {xs : List D}, (∀ d ∈ xs, ∃ k, d = keyD k ∧ okK k) → RDs K n M H xs (xs.map vOf)
  | [], _ => .nil
  | d :: xs, h => by
    obtain ⟨k, rfl, hk⟩ := h d List.mem_cons_self
    refine .cons ?_ (atoms_rds fun d hd => h d (List.mem_cons_of_mem _ hd))
    cases k with
    | inl i => exact .int i
    | inr t => exact .str t hk
theorem t_keysL {o : Op1} {a : E} {f : List D → List D} {ok : List D → Prop} (ho : ∀ h x z, run1 h o x = some z → ∃ q, dctOf h x = some q ∧ ok (q.2.map fun e => keyD e.1) ∧ newLst (f (q.2.map fun e => keyD e.1)) = some z) (hf : ∀ ds, ok ds → ∀ d ∈ f ds, d ∈ ds) (h : tE X.K W C (.p1 o a) σ H Q) : tKeysL (tE X.K W C a) f ok σ H Q := by
  obtain ⟨M, s, rt, h⟩ := h
  refine ⟨M, s, rt, ?_⟩
  simp only [evalE, pure] at h
  refine h.bind anti_relE (fun z => z) fun x s1 M1 H1 v hx e1 p1 rt1 rl1 h1 => ?_
  obtain ⟨z, ez, hz⟩ := (h1 _ fun z => z).op rt1
  obtain ⟨q, h2, h3, h4⟩ := ho _ _ _ ez
  obtain ⟨rfl, _⟩ := newLst_some h4
  obtain ⟨d, gs, rfl, r1, ko, r2⟩ := dct_at rt1 rl1.1 h2
  have ek : (q.2.map fun e => keyD e.1) = (q.2.map (·.1)).map keyD := by rw [List.map_map]; rfl
  refine ⟨d, gs, q.2.map (·.1), rfl, r1, by rw [r2.keys, List.map_map]; rfl, ko.ok, by rw [← ek]; exact h3, fun p hp => ?_⟩
  rw [← ek]
  refine give_lst rt1 (atoms_rds fun d hd => ?_) hz p hp
  have := hf _ h3 d hd
  rw [ek] at this
  obtain ⟨k, hk, rfl⟩ := List.mem_map.mp this
  exact ⟨k, rfl, ko.ok k hk⟩
theorem mem_sortD {ds : List D} (h : sortable ds = true) {d : D} (hd : d ∈ sortD ds) : d ∈ ds := by
  obtain ⟨k, hk⟩ := kind_of h
  rw [sort_is (lt := fun x y => ltK (kOf x) (kOf y)) fun x hx y hy => ltD_is (hk y hy) (hk x hx)] at hd
  exact (sortB_perm _).mem_iff.mp hd
theorem t_sortedKeys {a : E} (h : tE X.K W C (.p1 .sortedKeys a) σ H Q) : tKeysL (tE X.K W C a) sortD (fun ds => sortable ds = true) σ H Q := by
  refine t_keysL (fun h x z e => ?_) (fun ds h d hd => mem_sortD h hd) h
  obtain ⟨ds, e1, e2⟩ := obind (show (oKeys h x).bind oSort = some z from e)
  obtain ⟨q, e3, rfl⟩ := omap e1
  obtain ⟨g, e4⟩ := oif (show (if sortable _ = true then newLst (sortD _) else none) = some z from e2)
  exact ⟨q, e3, g, e4⟩
theorem t_listKeys {a : E} (h : tE X.K W C (.p1 .listKeys a) σ H Q) : tKeysL (tE X.K W C a) (fun ds => ds) (fun _ => True) σ H Q := by
  refine t_keysL (fun h x z e => ?_) (fun ds h d hd => hd) h
  obtain ⟨ds, e1, e2⟩ := obind (show (oKeys h x).bind newLst = some z from e)
  obtain ⟨q, e3, rfl⟩ := omap e1
  exact ⟨q, e3, trivial, e2⟩
/-! ### d.copy() -/
def tCopy (te : TE) : TE := fun σ H Q => te σ H fun x H1 => ∃ (d : Addr) (gs : List (L2.Key × V)), x = .ref d ∧ Rd H1 d (.dK gs) ∧ ∀ p, H1 p = none → Q (.ref p) (upd H1 p (.dK gs))
theorem pe_copy (he : PE X e te) (hbase : PySem.attributeBase e "copy" X.env (PySem.eval e X.env) = PySem.eval e X.env) (hline : (apos.endLine == cpos.line) = true) : PE X (.Call (.Attribute e "copy" apos) [] [] cpos) (tCopy te) := by
  refine ⟨fun pins s σ H Q I h => ?_⟩
  refine PySem.wpAny_Call_method (T := "dict") (id := "dict.copy") hbase rfl hline PySem.F.plainAttrs_dict PySem.F.slot_dict_copy PySem.F.type_dict_copy (L2.thn (he.run pins s σ H _ I h) fun u s1 ⟨x, H1, I1, rx, d, gs, ex, hd, q⟩ => ?_)
  subst ex
  obtain rfl : u = Value.ref d := rx
  obtain ⟨z, hs, vs, kv, dd⟩ := L2.dk_rd I1.hok hd
  have hl : gs.length = vs.length := kv.length
  refine ⟨dd.typeIs, dd.mapOf.noDict, ?_⟩
  show wpAny _ _ (PySem.callWith cpos (.builtin "dict.copy") [.ref d] [] []) _ X.xe s1
  refine PySem.method_meetsIn PySem.F.slot_dict_copy PySem.F.entry_dict_copy rfl (PySem.evalArgs_none ⟨rfl, dd.typeIs, PySem.F.args_dict_copy_1 _, _, PySem.meets_dict_copy (L2.mixKind X.prog X.w) d hs, ⟨vs, dd, by omega, fun h' d1 d2 keep => ?_⟩⟩)
  exact ⟨.ref s1.heap.objs.size, _, I1.laid (a := s1.heap.objs.size) (o := .dK gs) (t' := s1.toks) keep (Nat.le_refl _) (L2.dk_new z (beq_eq_false_iff_ne.mpr (Ne.symm (Nat.ne_of_lt I1.big))) kv d1), rfl, q _ (I1.hok.fresh (Nat.le_refl _))⟩
theorem t_copy {a : E} (h : tE X.K W C (.p1 .copy a) σ H Q) : tCopy (tE X.K W C a) σ H Q := by
  obtain ⟨M, s, rt, h⟩ := h
  refine ⟨M, s, rt, ?_⟩
  simp only [evalE, pure] at h
  refine h.bind anti_relE (fun z => z) fun x s1 M1 H1 v hx e1 p1 rt1 rl1 h1 => ?_
  obtain ⟨z, ez, hz⟩ := (h1 _ fun z => z).op rt1
  have ez : oCopy x = some z := ez
  have key : ∃ kvs gs d, z = .own (.dct kvs) ∧ v = .ref d ∧ Rd H1 d (.dK gs) ∧ KOk (kvs.map (·.1)) ∧ RG X.K s1.h.length M1 H1 (fun _ sv v => RD X.K s1.h.length M1 H1 (unSV sv) v) (plainEs kvs) gs := by
    cases rl1.1 with
    | own _ hc =>
      cases hc with
      | lst _ _ => simp [oCopy] at ez
      | dct h hk hn hs => simp [oCopy] at ez; subst ez; subst hk; exact ⟨_, _, _, rfl, rfl, h, hn, flat_rg hs⟩
    | pk _ hc =>
      cases hc with
      | lst _ _ => simp [oCopy] at ez
      | dct h hk hn hs => simp [oCopy] at ez; subst ez; subst hk; exact ⟨_, _, _, rfl, rfl, h, hn, flat_rg hs⟩
    | val r =>
      cases r with
      | dct h _ hk hn hs => simp [oCopy] at ez; subst ez; subst hk; exact ⟨_, _, _, rfl, rfl, h, hn, flat_rg hs⟩
      | _ => simp [oCopy] at ez
  obtain ⟨kvs, gs, d, rfl, rfl, r1, ko, rg⟩ := key
  refine ⟨d, gs, rfl, r1, fun p hp => ?_⟩
  obtain ⟨rt', g⟩ := rt1.tmp (o := .dK gs) hp trivial
  refine hz _ _ _ g rt' (.own MM.set_same (rc_dct (.inl upd_same) ko (rg.mono fun _ _ _ q => RD.mono (g.ext.kept rt1.hp.wf) q))) fun c e a z => ?_
  injection z with z
  subst z
  exact hp
/-! ### xs[::-1] -/
theorem t_rev {a : E} (h : tE X.K W C (.p1 .rev a) σ H Q) : L2.tRevL X.K (tE X.K W C a) σ H Q := by
  obtain ⟨M, s, rt, h⟩ := h
  refine ⟨M, s, rt, ?_⟩
  simp only [evalE, pure] at h
  refine h.bind anti_relE (fun z => z) fun x s1 M1 H1 v hx e1 p1 rt1 rl1 h1 => ?_
  obtain ⟨z, ez, hz⟩ := (h1 _ fun z => z).op rt1
  obtain ⟨xs, e2, e3⟩ := obind (show (lstOf s1.h x).bind (fun xs => newLst xs.reverse) = some z from ez)
  obtain ⟨rfl, _⟩ := newLst_some e3
  obtain ⟨d, vs, rfl, r1, r2⟩ := lst_at rt1 rl1.1 e2
  exact ⟨d, vs, rfl, .inl r1, give_lst rt1 r2.rev hz⟩
end
end KW
/-! KwSet: set(xs) of texts: what the set holds, how it grows. -/
namespace KW
open PySem PySem.Spec PyProof.Rows PySem.Froz
open L2 (V Hp HO upd upd_same upd_ne SqL SqT Inv CallR VK EP Ris)
def txV : Value → Str
  | .str x _ => x
  | _ => ⟨#[]⟩
/-- the payload D of a set: the texts l -/
structure Pay (P : Program) (w : World) (D : SD) (l : List Str) : Prop where
  ok : TxOk P w D l
  ris : Ris D.2.2.place.toList
  led : w.params.followText "set-order" = true ∨ D.2.2.led = true
  prm : (D.1.toList.map fun e => txV e.2).Perm l
section
variable {P : Program} {w : World}
theorem pay_nil {led : Bool} (h : w.params.followText "set-order" = true ∨ led = true) : Pay P w (#[], 0, .fresh 0 0 led) [] :=
  ⟨TxOk.nil rfl, List.Pairwise.nil, h, List.Perm.refl _⟩
theorem pay_tail {es : Array (Int × Value)} {ep ep' : Nat} {t : SetTable} {l : List Str} {d : Bool} (F : Pay P w (es, ep', t) l) : Pay P w (tailTx ep es t d) l := by
  refine ⟨tail_ok ⟨F.ok.el, F.ok.mem, F.ok.sz, F.ok.fit⟩, ?_, ?_, ?_⟩ <;> unfold tailTx <;> split
  · exact L2.relayAll_ris _ _ _
  · exact F.ris
  · exact F.led.imp id fun z => (L2.relayAll_led _ _ _).trans z
  · exact F.led
  · exact ((relayAll_perm _ _ _).map _).trans F.prm
  · exact F.prm
theorem pay_add {D : SD} {l : List Str} {k : Str} {u : Tok} (F : Pay P w D l) : Pay P w (addTx (hashStr w k) (.str k u) D) (k :: l) := by
  obtain ⟨es, ep, t⟩ := D
  have p0 := layNew_perm t es (hashStr w k) (.str k u)
  have f0 := layNew_fits t es (hashStr w k) (.str k u)
  have r0 := L2.layNew_ris t es (hashStr w k) (.str k u) F.ris
  have l0 := L2.layNew_led t es (hashStr w k) (.str k u)
  unfold addTx
  dsimp only
  have base : Pay P w ((layNew t es (hashStr w k) (.str k u)).1, ep, (layNew t es (hashStr w k) (.str k u)).2.1) (k :: l) := by
    refine ⟨F.ok.push p0 f0, r0, F.led.imp id fun z => l0.trans z, ?_⟩
    have q := p0.map fun e => txV e.2
    rw [Array.toList_push, List.map_append] at q
    exact q.trans ((List.perm_append_singleton k _).trans (F.prm.cons k))
  split
  · exact pay_tail (ep' := ep) ⟨base.ok.perm (List.Perm.refl _) (SetTable.fits_plain_off f0), base.ris, base.led, base.prm⟩
  · exact pay_tail base
def grow1 (l : List Str) (k : Str) : List Str := if k ∈ l then l else k :: l
variable {A : Around} {E : Value → Shared → Prop} {s : Shared}
/-- a text that is there already -/
theorem add_old {a : Addr} {D : SD} {l : List Str} {k : Str} {u : Tok} {Q : Bool → Shared → Prop} (ho : s.heap.get? a = some (sObj "set" D)) (F : Pay P w D l) (hk : k ∈ l) (hb : l.length < scanBound) (h : Q false s) :
    wpAny (model P w) A (setAddHashed a (.str k u) (hashStr w k)) Q E s := by
  obtain ⟨es, ep, t⟩ := D
  have sz : es.size = l.length := F.ok.sz
  have el : ElemsOf (strKind P w) es.toList := F.ok.el
  have ks : (strKind P w).is k (.str k u) = true := is_str k u
  have dt : (sObj "set" (es, ep, t)).data = .set es ep t := rfl
  unfold setAddHashed setAddHashedIn setAddByScan
  refine wpAny_holding (wpAny_bind (wpAny_setState_of ho dt F.ok.fit ?_))
  dsimp only
  rw [byScan_of (knd := strKind P w) rfl (by omega) el, if_pos rfl]
  refine wpAny_bind (wpAny_bind (wpAny_rule (wpAny_bind (wpAny_setScan_of (knd := strKind P w) (k := k) ks ho dt F.ok.fit el ?_))))
  obtain ⟨e, he, q⟩ := (F.ok.mem k).mp hk
  cases r : es.toList.findIdx? fun e => (strKind P w).is k e.2 with
  | none => have := List.findIdx?_eq_none_iff.mp r e he; rw [q] at this; cases this
  | some j => exact wpAny_pure (wpAny_pure h)
theorem add_one {a : Addr} {D : SD} {l : List Str} {k : Str} {u : Tok} {Q : Bool → Shared → Prop} (ho : s.heap.get? a = some (sObj "set" D)) (F : Pay P w D l) (hb : l.length + 1 < scanBound)
    (h : ∀ b D' h', Heap.SameBut a s.heap h' → h'.get? a = some (sObj "set" D') → Pay P w D' (grow1 l k) → Q b { s with heap := h' }) :
    wpAny (model P w) A (setAddHashed a (.str k u) (hashStr w k)) Q E s := by
  by_cases hk : k ∈ l
  · exact add_old ho F hk (by omega) (h false D s.heap (Heap.SameBut.refl a _) ho (by unfold grow1; rw [if_pos hk]; exact F))
  · exact add_x ho F.ok hk hb (h true _ _ (Heap.SameBut.update s.heap a _) (get_upd _ ho rfl) (by unfold grow1; rw [if_neg hk]; exact pay_add F))
theorem grow1_len (l : List Str) (k : Str) : (grow1 l k).length ≤ l.length + 1 := by unfold grow1; split <;> simp
/-- the loop of set(xs) -/
theorem fill {I a : Addr} {fp wr : List Addr} {G : Array GenState → Array GenState → Prop} {n : Nat} {Pv : Nat → Value → Prop} {St : Nat → Shared → Prop} {R : Result → Shared → Prop}
    (W : WalksS P w A.in1 I fp wr G n Pv St) (ha : a ∉ fp) (xs : List Str) (hn : n = xs.length) (hb : n + 1 < scanBound) (hv : ∀ i v, Pv i v → ∃ x u, xs[i]? = some x ∧ v = .str x u) :
    ∀ (r : List Str) (i : Nat) (s : Shared) (l : List Str) (D : SD), xs.drop i = r → i ≤ n → St i s → s.heap.get? a = some (sObj "set" D) → Pay P w D l → l.length ≤ i →
      (∀ s' D', Moved (a :: wr) G s s' → s'.heap.get? a = some (sObj "set" D') → Pay P w D' (r.foldl grow1 l) → R (.ok (.ret .none)) s') →
      codeAny (model P w) A (.builtin "set.update.loop" ⟨[.ref a, .ref I], []⟩) R s
  | [], i, s, l, D, e, hi, st, ho, F, hl, hR => by
    have hin : n = i := by have := congrArg List.length e; simp at this; omega
    subst hin
    refine codeAny_builtin PyProof.Rows.F.entry_set_update_loop ?_
    rw [Around.under_plainId PyProof.Rows.F.plain_set_update_loop _]
    exact wpAny_bind (W.done s _ _ st fun s' hm => wpAny_pure (hR s' D (hm.mono fun b hb => .tail _ hb) (hm.heap a _ (fun z => ha (W.sub _ z)) ho) F))
  | x :: r, i, s, l, D, e, hi, st, ho, F, hl, hR => by
    have hlt : i < n := by have := congrArg List.length e; simp at this; omega
    have hx : xs[i]? = some x := by
      have := congrArg (fun l => l[0]?) e
      simpa using this
    have hr : xs.drop (i + 1) = r := by
      have := congrArg List.tail e
      simpa [List.tail_drop] using this
    refine codeAny_builtin PyProof.Rows.F.entry_set_update_loop ?_
    rw [Around.under_plainId PyProof.Rows.F.plain_set_update_loop _]
    refine wpAny_bind (W.item i s _ _ hlt st fun v s1 hP st1 hm => ?_)
    obtain ⟨x', u, hx', rfl⟩ := hv i v hP
    obtain rfl : x = x' := by rw [hx] at hx'; injection hx'
    have ho1 := hm.heap a _ (fun z => ha (W.sub _ z)) ho
    show wpAny _ A.in1 (holding [Value.str x u] (setAdd a (.str x u)) >>= _) _ _ s1
    unfold setAdd
    refine wpAny_bind (wpAny_holding (wpAny_holding (wpAny_bind (wpAny_pyHash_str (add_one (s := { s1 with toks := s1.toks + 1 }) ho1 F (by omega) fun b D' h' sb ho2 F2 => ?_)))))
    have oth : ∀ b ∈ fp, ∀ o, s1.heap.get? b = some o → h'.get? b = some o := fun b hb o e => (sb.2 b fun z => ha (z ▸ hb)).trans e
    refine wpAny_pure ⟨plainId_quiet PyProof.Rows.F.plain_set_update_loop _, fill W ha xs hn hb hv r (i + 1) _ _ D' hr hlt (W.frame _ s1 _ _ st1 (Nat.le_succ _) oth) ho2 F2 (Nat.le_trans (grow1_len _ _) (Nat.succ_le_succ hl)) fun s2 D2 hm2 ho3 F3 => ?_⟩
    exact hR s2 D2 (Moved.trans W.gtrans ((hm.mono fun b hb => .tail _ hb).then_heap (Nat.le_succ _) fun b o hb e => (sb.2 b fun z => hb (by rw [z]; exact .head _)).trans e) hm2) ho3 F3
end
section
variable {P : Program} {w : World} {A : Around} {E : Value → Shared → Prop} {s : Shared}
/-- what stands in a row: a list, a tuple -/
def RowAt (h : Heap) (T : String) (a : Addr) (its : Array Value) : Prop := (T = "list" ∧ h.IsList a its) ∨ (T = "tuple" ∧ h.IsTuple a its)
theorem RowAt.ob {h : Heap} {T : String} {a : Addr} {its : Array Value} (r : RowAt h T a its) : ∃ o, h.get? a = some o ∧ o.cls = .type T := by
  rcases r with ⟨rfl, o, h1, h2, _⟩ | ⟨rfl, o, h1, h2, _⟩ <;> exact ⟨o, h1, h2⟩
theorem RowAt.push {h : Heap} {T : String} {a : Addr} {its : Array Value} (r : RowAt h T a its) (o : Obj) : RowAt (h.push o) T a its := by
  rcases r with ⟨e, h1⟩ | ⟨e, h1⟩
  · exact .inl ⟨e, h1.push o⟩
  · exact .inr ⟨e, h1.push o⟩
/-- iter(row): a walk -/
theorem row_iter {A2 : Around} {T : String} {a : Addr} {its : Array Value} {Q : Value → Shared → Prop} (r : RowAt s.heap T a its) (hh : A2.handled = none)
    (h : ∀ o St, WalksS P w A2 s.heap.objs.size [s.heap.objs.size, a] [s.heap.objs.size] (fun x y => y = x) its.size (fun i v => its[i]? = some v) St → St 0 { s with heap := s.heap.push o } → Q (.ref s.heap.objs.size) { s with heap := s.heap.push o }) :
    wpAny (model P w) A (pyIter (.ref a)) Q E s := by
  obtain ⟨o, ho, _⟩ := r.ob
  have ne : a ≠ s.heap.objs.size := Nat.ne_of_lt (Heap.lt_size ho)
  rcases r with ⟨_, q⟩ | ⟨_, q⟩
  · exact wpAny_pyIter_list q (h _ _ (Walks.list hh _ a ne its).toS ⟨⟨_, Heap.get?_push_size _ rfl, rfl, rfl⟩, q.push _⟩)
  · exact wpAny_pyIter_tuple q (h _ _ (Walks.tuple hh _ a ne its).toS ⟨⟨_, Heap.get?_push_size _ rfl, rfl, rfl⟩, q.push _⟩)
/-- set.__init__(p, row) -/
theorem set_init {T : String} {a p : Addr} {its : Array Value} {xs : List Str} {led : Bool} {R : Result → Shared → Prop} (hh : A.handled = none) (r : RowAt s.heap T a its) (hv : ∀ (i : Nat) (v : Value), its[i]? = some v → ∃ x u, xs[i]? = some x ∧ v = Value.str x u) (hn : its.size = xs.length)
    (hb : its.size + 1 < scanBound) (hp : s.heap.get? p = some (sObj "set" (#[], 0, .fresh 0 0 led))) (hpa : p ≠ a) (hl : w.params.followText "set-order" = true ∨ led = true)
    (h : ∀ h' tk D, (∀ b o, b ≠ p → s.heap.get? b = some o → h'.get? b = some o) → h'.get? p = some (sObj "set" D) → Pay P w D (xs.foldl grow1 []) → R (.ok (.ret .none)) { s with heap := h', toks := tk }) :
    codeAny (model P w) A (.call (.builtin "set.__init__") ⟨[.ref p, .ref a], []⟩) R s := by
  have tp : s.TypeIs (.ref p) "set" := ⟨_, hp, rfl⟩
  refine codeAny_call_builtin F.called_set.init.plain F.entry_set_init (check_set_init_1 tp ?_)
  obtain ⟨o, ho, hc⟩ := r.ob
  have ta : s.TypeIs (.ref a) T := ⟨o, ho, hc⟩
  have t1 : isSubtype (.type T) (.type "set") = Pure.pure false := by rcases r with ⟨rfl, _⟩ | ⟨rfl, _⟩ <;> first | exact F.sub_list_set | exact F.sub_tuple_set
  have t2 : isSubtype (.type T) (.type "frozenset") = Pure.pure false := by rcases r with ⟨rfl, _⟩ | ⟨rfl, _⟩ <;> first | exact F.sub_list_frozenset | exact F.sub_tuple_frozenset
  have t3 : (Value.type T == Value.type "dict") = false := by rcases r with ⟨rfl, _⟩ | ⟨rfl, _⟩ <;> decide
  unfold Builtin.«set.__init__» noKeywords Builtin.Frozenset.updateFrom
  generalize hPI : pyIter = PI
  wp_walk
  subst hPI
  refine row_iter (A2 := A.in1.in1) r (by simp [hh]) fun o' St W st => ?_
  refine wpAny_bind (wpAny_runValue ?_)
  have np : p ∉ [s.heap.objs.size, a] := by
    simp only [List.mem_cons, List.not_mem_nil, or_false, not_or]
    exact ⟨Nat.ne_of_lt (Heap.lt_size hp), hpa⟩
  refine fill W np xs hn hb hv xs 0 _ [] _ rfl (Nat.zero_le _) st (Heap.get?_push_of_some _ hp) (pay_nil hl) (Nat.le_refl _) fun s' D' hm ho' F => ?_
  have es : s' = { s with heap := s'.heap, toks := s'.toks } := by
    have e1 : s'.gens = s.gens := hm.gens
    have e2 : s'.drawn = s.drawn := hm.drawn
    have e3 : s'.os = s.os := hm.os
    rw [← e1, ← e2, ← e3]
  have kept : ∀ b o, b ≠ p → s.heap.get? b = some o → s'.heap.get? b = some o := fun b o n e => by
    refine hm.heap b o ?_ (Heap.get?_push_of_some _ e)
    simp only [List.mem_cons, List.not_mem_nil, or_false, not_or]
    exact ⟨n, Nat.ne_of_lt (Heap.lt_size e)⟩
  rw [es]
  exact wpAny_pure (wpAny_pure (h _ _ D' kept ho' F))
/-- set(row) -/
theorem set_call {T : String} {a : Addr} {its : Array Value} {xs : List Str} {Q : Value → Shared → Prop} (hh : A.handled = none) (r : RowAt s.heap T a its) (hv : ∀ (i : Nat) (v : Value), its[i]? = some v → ∃ x u, xs[i]? = some x ∧ v = Value.str x u) (hn : its.size = xs.length)
    (hb : its.size + 1 < scanBound) (h : ∀ h' tk D, (∀ b o, s.heap.get? b = some o → h'.get? b = some o) → h'.get? s.heap.objs.size = some (sObj "set" D) → Pay P w D (xs.foldl grow1 []) → Q (.ref s.heap.objs.size) { s with heap := h', toks := tk }) :
    wpAny (model P w) A (call (.type "set") [.ref a]) Q E s := by
  obtain ⟨oa, ha, _⟩ := r.ob
  obtain ⟨mc, mt, mm⟩ := F.called_set.mro
  have m1 := F.called_set.made
  have m2 := F.called_set.sub
  have m3 := F.called_set.notType
  have m4 := F.called_set.canCreate
  have m5 := F.typeCall_set_1 (.ref a)
  have m6 := F.called_set.init.lookup
  have m7 := F.called_set.init.bind (.ref s.heap.objs.size)
  refine wpAny_call (codeAny_of_tree (wpAny_pure ⟨Code.quiet_builtin _ (by decide +kernel), codeAny_builtin F.entry_type_call ?_⟩))
  rw [Around.under_plain (weight_type_call_type "set" [.ref a] []) rfl]
  repeat (any_goals (first | assumption | wp_step))
  let led := !w.params.followText "set-order"
  have hled : w.params.followText "set-order" = true ∨ led = true := by
    show _ ∨ (!w.params.followText "set-order") = true
    cases w.params.followText "set-order"
    · exact .inr rfl
    · exact .inl rfl
  let s0 : Shared := { s with heap := s.heap.push (sObj "set" (#[], 0, .fresh 0 0 led)) }
  refine codeAny_mono (L2.code_set_led1 (.ref a) (E := E) (Q₁ := fun v s1 => v = .ref s.heap.objs.size ∧ s1 = s0) ⟨rfl, rfl⟩) fun res s1 hr => ?_
  rcases res with e | f
  · exact hr
  cases f <;> try exact False.elim hr
  obtain ⟨rfl, rfl⟩ := hr
  have ob : s0.heap.get? s.heap.objs.size = some (sObj "set" (#[], 0, .fresh 0 0 led)) := Heap.get?_push_size _ rfl
  have tp : s0.TypeIs (.ref s.heap.objs.size) "set" := ⟨_, ob, rfl⟩
  repeat (any_goals (first | assumption | wp_step))
  refine set_init (s := s0) (led := led) (by simp [hh]) (r.push _) hv hn hb ob (Nat.ne_of_gt (Heap.lt_size ha)) hled fun h' tk D kp og F => ?_
  refine wpAny_pure (wpAny_pure ?_)
  exact h h' tk D (fun b o e => kp b o (Nat.ne_of_lt (Heap.lt_size e)) (Heap.get?_push_of_some _ e)) og F
end
end KW
/-! KwSet2: sorted(set(xs)), xs texts: the rule. -/
namespace KW
open PySem (Str Addr Value Program World Heap Operator CmpOp binaryOp compareOp PyData Scope Const Env Around Shared Tok wpAny wpAny_bind wpAny_mono wpAny_pure model)
open PySem.Spec PyProof.Rows
open L2 (V Hp HO upd upd_same upd_ne upd_upd SqL SqT Rd RelV Mut TE TT TA TS TI TG PI PG WX PE PT PW PA PS PSs Cx Inv OpR UnR CallR MtR IxR SlR TruR VK EP XK rI0)
/-- the set of the texts ts -/
def SetO (P : Program) (w : World) (a : Addr) (ts : List T) : HO := .ext fun h => ∃ D, h.get? a = some (PySem.Froz.sObj "set" D) ∧ Pay P w D (ts.map mst)
def growT (l : List T) (k : T) : List T := if k ∈ l then l else k :: l
theorem grow_map : ∀ (ts l : List T), (ts.map mst).foldl grow1 (l.map mst) = (ts.foldl growT l).map mst
  | [], _ => rfl
  | t :: r, l => by
    have e : grow1 (l.map mst) (mst t) = (growT l t).map mst := by
      unfold grow1 growT
      by_cases h : t ∈ l
      · rw [if_pos h, if_pos (List.mem_map.mpr ⟨t, h, rfl⟩)]
      · rw [if_neg h, if_neg fun z => ?_]
        · rfl
        · obtain ⟨u, hu, q⟩ := List.mem_map.mp z
          exact h (mst_inj q ▸ hu)
    show (r.map mst).foldl grow1 (grow1 (l.map mst) (mst t)) = _
    rw [e]
    exact grow_map r _
theorem growT_mem {x : T} : ∀ (ts l : List T), x ∈ ts.foldl growT l ↔ x ∈ l ∨ x ∈ ts
  | [], l => by simp
  | t :: r, l => by
    show x ∈ r.foldl growT (growT l t) ↔ _
    rw [growT_mem r]
    unfold growT
    by_cases h : t ∈ l
    · rw [if_pos h, List.mem_cons]
      exact ⟨fun z => z.elim .inl fun z => .inr (.inr z), fun z => z.elim .inl fun z => z.elim (fun e => .inl (e ▸ h)) .inr⟩
    · rw [if_neg h, List.mem_cons, List.mem_cons]
      exact ⟨fun z => z.elim (fun z => z.elim (fun e => .inr (.inl e)) .inl) fun z => .inr (.inr z), fun z => z.elim (fun e => .inl (.inr e)) fun z => z.elim (fun e => .inl (.inl e)) .inr⟩
theorem growT_nd : ∀ (ts l : List T), l.Nodup → (ts.foldl growT l).Nodup
  | [], _, h => h
  | t :: r, l, h => by
    refine growT_nd r (growT l t) ?_
    unfold growT
    by_cases q : t ∈ l
    · rw [if_pos q]; exact h
    · rw [if_neg q]; exact List.nodup_cons.mpr ⟨q, h⟩
theorem growT_len : ∀ (ts l : List T), (ts.foldl growT l).length ≤ l.length + ts.length
  | [], _ => Nat.le_refl _
  | t :: r, l => by
    have := growT_len r (growT l t)
    have e : (growT l t).length ≤ l.length + 1 := by unfold growT; split <;> simp
    show (r.foldl growT (growT l t)).length ≤ _
    rw [List.length_cons]
    omega
/-! ### sorted by no order of their own -/
theorem srtd_perm {α : Type} {lt : α → α → Bool} (O : Slo lt) : ∀ (a b : List α), SrtO.Srtd lt a → SrtO.Srtd lt b → a.Perm b → a = b
  | [], b, _, _, p => (p.symm.eq_nil).symm
  | x :: r, [], _, _, p => absurd p.eq_nil (by simp)
  | x :: r, y :: q, h1, h2, p => by
    obtain ⟨a1, a2⟩ := List.pairwise_cons.mp h1
    obtain ⟨b1, b2⟩ := List.pairwise_cons.mp h2
    have e : x = y := by
      rcases List.mem_cons.mp (p.mem_iff.mp List.mem_cons_self) with z | z
      · exact z
      · rcases List.mem_cons.mp (p.symm.mem_iff.mp List.mem_cons_self) with z' | z'
        · exact z'.symm
        · exact O.tot _ _ (b1 x z) (a1 y z')
    subst e
    rw [srtd_perm O r q a2 b2 (List.Perm.cons_inv p)]
theorem sortB_perm2 {α : Type} {lt : α → α → Bool} (O : Slo lt) {a b : List α} (p : a.Perm b) : sortB lt a = sortB lt b :=
  srtd_perm O _ _ (sortB_srtd (O.swo id) a) (sortB_srtd (O.swo id) b) ((sortB_perm a).trans (p.trans (sortB_perm b).symm))
theorem insB_str (t : T) : ∀ l : List T, sortD.insDb (.str t) (l.map .str) = (insB ltT t l).map .str
  | [] => rfl
  | u :: r => by
    show (if ltT u t = true then D.str u :: sortD.insDb (.str t) (r.map .str) else D.str t :: D.str u :: r.map .str) = _
    unfold insB
    by_cases h : ltT u t = true
    · rw [if_pos h, if_pos h, insB_str t r]; rfl
    · rw [if_neg h, if_neg h]; rfl
theorem sortB_str : ∀ l : List T, sortD (l.map .str) = (sortB ltT l).map .str
  | [] => rfl
  | t :: r => by
    show sortD.insDb (.str t) (sortD (r.map .str)) = _
    rw [sortB_str r, insB_str]; rfl
theorem sort_perm {a b : List T} (p : a.Perm b) : sortD (a.map .str) = sortD (b.map .str) := by rw [sortB_str, sortB_str, sortB_perm2 slo_T p]
theorem sortable_T : ∀ l : List T, sortable (l.map .str) = true
  | [] => rfl
  | t :: r => by
    show allSrt .s (D.str t :: r.map .str) = true
    refine List.all_eq_true.mpr fun d hd => decide_eq_true ?_
    rcases List.mem_cons.mp hd with e | h
    · rw [e]; rfl
    · obtain ⟨u, _, rfl⟩ := List.mem_map.mp h; rfl
/-! ### set(xs) -/
def rSetT (K : Fr) (P : Program) (w : World) : List V → Hp → VK → Prop := fun vs H Q => ∃ (a : Addr) (ts : List T), vs = [V.ref a] ∧ (SqL K H a (ts.map fun t => V.str (mst t)) ∨ SqT K H a (ts.map fun t => V.str (mst t))) ∧ ts.length < 4000 ∧
  ∀ p, H p = none → Q (.ref p) (upd H p (SetO P w p (ts.foldl growT [])))
theorem vals_txt {ts : List T} {its : List Value} (h : L2.Vals (ts.map fun t => V.str (mst t)) its) : ∀ (i : Nat) (v : Value), its[i]? = some v → ∃ x u, (ts.map mst)[i]? = some x ∧ v = Value.str x u := by
  induction ts generalizing its with
  | nil => intro i v e; cases h; cases e
  | cons t r ih =>
    intro i v e
    cases h with
    | cons a b =>
      obtain ⟨u, rfl⟩ := a
      cases i with
      | zero => injection e with e; exact ⟨_, u, rfl, e.symm⟩
      | succ i => exact ih b i v e
section
variable {X : Cx}
theorem cr_setT (hc : X.calm = true) : CallR X (.type "set") (rSetT X.K X.prog X.w) := by
  intro pins s σ H vs us Q I r h
  obtain ⟨a, ts, rfl, hs, hl, q⟩ := h
  rw [L2.Vals.ref1 r]
  have row : ∃ its T, L2.Vals (ts.map fun t => V.str (mst t)) its ∧ RowAt s.heap T a its.toArray := by
    rcases hs with hs | hs
    · obtain ⟨its, rv, pl, _⟩ := I.list hs
      exact ⟨its, _, rv, .inl ⟨rfl, pl.isList⟩⟩
    · obtain ⟨its, rv, ⟨o, h1, h2, n, h3⟩, _⟩ := I.tuple hs
      exact ⟨its, _, rv, .inr ⟨rfl, o, h1, h2, n, h3⟩⟩
  obtain ⟨its, T, rv, ra⟩ := row
  have hn : its.length = ts.length := by have := rv.length; rw [List.length_map] at this; exact this.symm
  refine set_call (I.ok.hd hc) ra (xs := ts.map mst) (fun i v e => vals_txt rv i v (by simpa using e)) (by simpa using hn) (by have : PySem.scanBound = 4096 := rfl; simp; omega) fun h' tk D kp ho F => ?_
  have e : (ts.map mst).foldl grow1 [] = (ts.foldl growT []).map mst := grow_map ts []
  rw [e] at F
  have ok : L2.ObjOk X.prog X.w (upd H s.heap.objs.size (SetO X.prog X.w s.heap.objs.size (ts.foldl growT []))) h' s.heap.objs.size (SetO X.prog X.w s.heap.objs.size (ts.foldl growT [])) := by
    refine ⟨⟨D, ho, F⟩, ⟨_, ho⟩, fun h1 h2 z k => ?_⟩
    obtain ⟨D', h3, F'⟩ := z
    exact ⟨D', k _ h3, F'⟩
  exact ⟨.ref s.heap.objs.size, _, I.laid (t' := tk) kp (Nat.le_refl _) ok, rfl, q _ (I.hok.fresh (Nat.le_refl _))⟩
/-! ### sorted(s) -/
def rSortT (P : Program) (w : World) : List V → Hp → VK → Prop := fun vs H Q => ∃ (a : Addr) (ts : List T), vs = [V.ref a] ∧ H a = some (SetO P w a ts) ∧ ts.length < 4096 ∧ (∀ t ∈ ts, okT t) ∧ ∀ p, H p = none → Q (.ref p) (upd H p (.lst ((sortD (ts.map .str)).map vOf)))
def txD (v : Value) : D := .str (txV v).cps.toList
theorem mst_inv (x : Str) : mst x.cps.toList = x := by cases x; simp [mst]
theorem mst_back (t : T) : (mst t).cps.toList = t := rfl
theorem cr_sortT (hc : X.calm = true) : CallR X (.builtin "sorted") (rSortT X.prog X.w) := by
  intro pins s σ H vs us Q I r h
  obtain ⟨a, ts, rfl, ha, hl, okt, q⟩ := h
  obtain ⟨⟨es, ep, t⟩, ho, F⟩ := (I.hok a _ ha).1
  rw [L2.Vals.ref1 r]
  have hsz : es.size = ts.length := by have : es.size = _ := F.ok.sz; rw [List.length_map] at this; exact this
  have hh := I.ok.hd hc
  refine PySem.Calls.call_function_entry kind_sorted plain_sorted entry_sorted (args_sorted1 _) ?_
  unfold PySem.Builtin.«sorted»
  refine wpAny_bind (m := PySem.checkCount "sorted" 1 1 _) (wpAny_pure (wpAny_bind (L2.collect_set (A := X.A.in1) hh ⟨_, ho, rfl, rfl⟩ F.ok.fit (by have : PySem.scanBound = 4096 := rfl; show es.size < _; omega) F.ris F.led fun s1 out k1 hz g1 o1 pm => ?_)))
  have p1 : (out.map txV).Perm (ts.map mst) := by
    have := pm.map txV
    rw [List.map_map] at this
    exact this.trans F.prm
  have strz : ∀ v ∈ out, ∃ t u, t ∈ ts ∧ v = Value.str (mst t) u := fun v hv => by
    obtain ⟨e, he, rfl⟩ := List.mem_map.mp (pm.mem_iff.mp hv)
    obtain ⟨⟨k, hk, _⟩, _⟩ := F.ok.el e he
    obtain ⟨u, eu⟩ := PySem.Value.isStrOf_shape hk
    obtain ⟨t, ht, e2⟩ := List.mem_map.mp ((F.ok.mem k).mpr ⟨e, he, hk⟩)
    exact ⟨t, u, ht, by rw [eu, e2]⟩
  have p2 : (out.map txD).Perm (ts.map .str) := by
    have := p1.map fun x : Str => D.str x.cps.toList
    rw [List.map_map, List.map_map] at this
    exact this
  have e2 : out.map txD = (out.map fun v => (txV v).cps.toList).map .str := by rw [List.map_map]; rfl
  have so : sortable (out.map txD) = true := by rw [e2]; exact sortable_T _
  have sd : sortD (out.map txD) = sortD (ts.map .str) := by
    rw [e2]
    refine sort_perm ?_
    have := p1.map fun x : Str => x.cps.toList
    rw [List.map_map, List.map_map] at this
    have i : (ts.map ((fun x : Str => x.cps.toList) ∘ mst)) = ts := by
      conv => rhs; rw [← List.map_id ts]
      rfl
    rw [i] at this
    exact this
  have hol : out.length = ts.length := by have := p1.length_eq; rw [List.length_map, List.length_map] at this; exact this
  have small : out.length ≤ PySem.sizeLine := by rw [hol, PySem.sizeLine_eq]; omega
  refine wpAny_bind (PySem.wpAny_newList ?_ small)
  have hoL : (s1.heap.push (PyProof.Rows.seqObj "list" out.toArray 0)).get? s1.heap.objs.size = some (PyProof.Rows.seqObj "list" out.toArray 0) := PySem.Heap.get?_push_size _ rfl
  have it : It3 X 0 M0 H (s1.heap.push (PyProof.Rows.seqObj "list" out.toArray 0)) out (out.map txD) txD (fun v => V.str (txV v)) := by
    refine ⟨rfl, fun v hv => ?_⟩
    obtain ⟨t, u, ht, rfl⟩ := strz v hv
    exact ⟨.str t (okt t ht), ⟨u, rfl⟩, ⟨u, rfl⟩⟩
  have hkd : ∀ v ∈ out, srtOf (txD v) = some .s := fun v hv => rfl
  refine wpAny_bind (PySem.wpAny_holding (PySem.wpAny_call_entry slot_list_sort ⟨_, hoL, rfl⟩ entry_list_sort (SrtO.list_sort_ord (s := { s1 with heap := s1.heap.push (PyProof.Rows.seqObj "list" out.toArray 0) }) (ltv := fun v u => ltK (kOf (txD v)) (kOf (txD u))) (slo_K.swo fun v => kOf (txD v)) hoL small
    (fun g2 => sortable_D (k := .s) (fun v hv => ⟨hkd v hv, (it.rd v hv).2.2⟩) g2 fun o e => ?_) fun srt hs hb => ⟨_, rfl, ?_⟩) (args_list_sort _)))
  · have e' : some o = some (PyProof.Rows.seqObj "list" out.toArray 0) := e.symm.trans hoL
    cases e'
    exact notTup
  · obtain ⟨us, g2, g3⟩ := it3_sorted it so hs hb
    rw [sd] at g2
    have at1 : ∀ d ∈ sortD (ts.map .str), (keyOf d).isSome = true := fun d hd => by
      rw [sortB_str] at hd
      obtain ⟨t, _, rfl⟩ := List.mem_map.mp hd
      rfl
    obtain ⟨e3, _⟩ := atoms_V at1 g2
    obtain ⟨ep2, he'⟩ := PyProof.Rows.sortedHeap_at (vs := out) (out := srt.toArray) hoL
    have hp : H s1.heap.objs.size = none := I.hok.fresh hz
    have kp : ∀ b o, s.heap.get? b = some o → (PyProof.Rows.sortedHeap (s1.heap.push (PyProof.Rows.seqObj "list" out.toArray 0)) s1.heap.objs.size out srt.toArray).get? b = some o := fun b o e => by
      have e1 := k1 b o e
      have lt := PySem.Heap.lt_size e1
      rw [PyProof.Rows.sortedHeap_old (Nat.ne_of_lt lt) (by rw [PyProof.Rows.size_push']; exact Nat.lt_succ_of_lt lt)]
      exact PySem.Heap.get?_push_of_some _ e1
    have hlen : us.length ≤ PySem.sizeLine := by rw [g3.length, hb.perm.length_eq]; exact small
    have J : Inv X pins σ (upd H s1.heap.objs.size (.lst us)) { s with heap := PyProof.Rows.sortedHeap (s1.heap.push (PyProof.Rows.seqObj "list" out.toArray 0)) s1.heap.objs.size out srt.toArray, gens := s1.gens, drawn := s1.drawn, toks := s1.toks } :=
      I.call (ch := []) (L2.Un.laid kp hz hp) (I.hok.laid kp hz ⟨hlen, srt, ep2, g3, he'⟩) (by rw [g1]; exact I.bare) fun _ z => nomatch z
    refine wpAny_pure ⟨_, rfl, .ref s1.heap.objs.size, _, ?_, rfl, q _ hp⟩
    rw [← e3, ← o1] at *
    exact J
end
/-! ### the term -/
theorem strsOf_is : ∀ {xs : List D} {ts : List T}, strsOf xs = some ts → xs = ts.map .str
  | [], ts, h => by injection h with h; subst h; rfl
  | d :: r, ts, h => by
    cases d <;> try cases h
    rename_i t
    obtain ⟨us, e, rfl⟩ := omap h
    rw [strsOf_is e]; rfl
theorem dedup_mem {t : T} : ∀ ts : List T, D.str t ∈ dedup (ts.map .str) ↔ t ∈ ts
  | [] => by simp [dedup]
  | u :: r => by
    show D.str t ∈ (if (r.map D.str).any (fun y => deq y (.str u)) = true then dedup (r.map .str) else .str u :: dedup (r.map .str)) ↔ _
    by_cases h : (r.map D.str).any (fun y => deq y (.str u)) = true
    · rw [if_pos h, dedup_mem r, List.mem_cons]
      refine ⟨.inr, fun z => z.elim (fun e => ?_) id⟩
      obtain ⟨d, hd, q⟩ := List.any_eq_true.mp h
      obtain ⟨v, hv, rfl⟩ := List.mem_map.mp hd
      have : v = u := of_decide_eq_true q
      rw [e, ← this]; exact hv
    · rw [if_neg h, List.mem_cons, List.mem_cons, dedup_mem r]
      exact ⟨fun z => z.imp (fun e => by injection e) id, fun z => z.imp (fun e => by rw [e]) id⟩
theorem dedup_txt : ∀ ts : List T, ∃ us : List T, dedup (ts.map .str) = us.map .str ∧ us.Nodup
  | [] => ⟨[], rfl, List.nodup_nil⟩
  | u :: r => by
    obtain ⟨us, e, nd⟩ := dedup_txt r
    show ∃ us : List T, (if (r.map D.str).any (fun y => deq y (.str u)) = true then dedup (r.map .str) else .str u :: dedup (r.map .str)) = us.map .str ∧ us.Nodup
    by_cases h : (r.map D.str).any (fun y => deq y (.str u)) = true
    · rw [if_pos h]; exact ⟨us, e, nd⟩
    · rw [if_neg h]
      refine ⟨u :: us, by rw [e]; rfl, List.nodup_cons.mpr ⟨fun z => h ?_, nd⟩⟩
      have : D.str u ∈ dedup (r.map .str) := by rw [e]; exact List.mem_map.mpr ⟨u, z, rfl⟩
      exact List.any_eq_true.mpr ⟨.str u, List.mem_map.mpr ⟨u, (dedup_mem r).mp this, rfl⟩, decide_eq_true rfl⟩
theorem set_sorts (ts : List T) : sortD ((ts.foldl growT []).map .str) = sortD (dedup (ts.map .str)) := by
  obtain ⟨us, e, nd⟩ := dedup_txt ts
  rw [e]
  refine sort_perm ((List.perm_ext_iff_of_nodup (growT_nd ts [] List.nodup_nil) nd).mpr fun x => ?_)
  rw [growT_mem]
  have := dedup_mem (t := x) ts
  rw [e] at this
  refine ⟨fun z => ?_, fun z => .inr (this.mp (List.mem_map.mpr ⟨x, z, rfl⟩))⟩
  obtain ⟨y, hy, q⟩ := List.mem_map.mp (this.mpr (z.elim (fun z => by cases z) id))
  injection q with q
  exact q ▸ hy
theorem rds_txt {K : Fr} {n : Nat} {M : MM} {H : Hp} : ∀ {ts : List T} {vs : List V}, RDs K n M H (ts.map .str) vs → (∀ t ∈ ts, okT t) ∧ vs = ts.map fun t => V.str (mst t)
  | [], _, .nil => ⟨fun _ h => (by cases h), rfl⟩
  | t :: r, _, .cons (.str _ h) b => by
    obtain ⟨i1, i2⟩ := rds_txt b
    exact ⟨fun u hu => (List.mem_cons.mp hu).elim (fun e => e ▸ h) (i1 u), by rw [i2]; rfl⟩
section
variable {G : Tabs} {X : Cx} {W : WX} {C : CallF} {σ : L2.St} {H : Hp} {Q : VK}
theorem t_sortedSet {a : E} (h : tE X.K W C (.p1 .sortedSet a) σ H Q) : L2.tCB (rSortT X.prog X.w) (L2.tCons (L2.tCB (rSetT X.K X.prog X.w) (L2.tCons (tE X.K W C a) L2.tNil)) L2.tNil) σ H Q := by
  obtain ⟨M, s, rt, h⟩ := h
  refine ⟨M, s, rt, ?_⟩
  simp only [evalE, pure] at h
  refine h.bind anti_relE (fun z => z) fun x s1 M1 H1 v hx e1 p1 rt1 rl1 h1 => ?_
  obtain ⟨z, ez, hz⟩ := (h1 _ fun z => z).op rt1
  obtain ⟨xs, q1, q2⟩ := obind (show (seqOf s1.h x).bind (fun xs => (oSet xs).bind fun ys => newLst (sortD ys)) = some z from ez)
  obtain ⟨ys, q3, q4⟩ := obind q2
  obtain ⟨g, q5⟩ := oif q3
  injection q5 with q5
  subst q5
  obtain ⟨rfl, sz⟩ := newLst_some q4
  obtain ⟨g1, g2⟩ := Bool.and_eq_true_iff.mp g
  obtain ⟨ts, et⟩ := Option.isSome_iff_exists.mp g1
  obtain rfl := strsOf_is et
  have g2 := of_decide_eq_true g2
  rw [List.length_map] at g2
  obtain ⟨b, vs, rfl, sq, rs⟩ := seq_at rt1 rl1.1 q1
  obtain ⟨okt, rfl⟩ := rds_txt rs
  refine ⟨b, ts, rfl, sq, g2, fun p hp => ⟨p, ts.foldl growT [], rfl, upd_same, by have := growT_len ts []; simp at this; omega, fun t ht => ?_, fun p2 hp2 => ?_⟩⟩
  · exact okt t (((growT_mem ts []).mp ht).elim (fun z => by cases z) id)
  · obtain ⟨rt2, g3⟩ := rt1.new (o := SetO X.prog X.w p (ts.foldl growT [])) hp
    rw [set_sorts]
    refine give_lst rt2 (atoms_rds fun d hd => ?_) (fun M' H' v g4 rt4 rr fr => hz _ _ _ (g3.trans g4) rt4 rr fun c e a ea => ?_) p2 hp2
    · obtain ⟨us, e, nd⟩ := dedup_txt ts
      rw [e, sortB_str] at hd
      obtain ⟨t, ht, rfl⟩ := List.mem_map.mp hd
      refine ⟨.inr t, rfl, okt t ?_⟩
      have h1 : t ∈ us := (sortB_perm us).mem_iff.mp ht
      have h2 : D.str t ∈ dedup (ts.map .str) := by rw [e]; exact List.mem_map.mpr ⟨t, h1, rfl⟩
      exact (dedup_mem ts).mp h2
    · have q := fr c e a ea
      by_cases z : a = p
      · rw [z]; exact hp
      · rw [upd_ne z] at q; exact q
theorem vset_one {sc : Scope} {p c : Py} (h : (match vFn sc p with
    | some (x, [b]) => if decide (x = sst "sorted") then (match vFn sc b with
      | some (y, [c]) => if decide (y = sst "set") then some c else none
      | _ => none) else none
    | _ => none) = some c) : ∃ q r p1 p2, p = .Call (.Name (sst "sorted") q) [.Call (.Name (sst "set") p1) [c] [] p2] [] r ∧ glB sc (sst "sorted") = true ∧ glB sc (sst "set") = true ∧ [c].all noStarB = true := by
  split at h
  · rename_i x b e
    split at h
    · rename_i g
      obtain rfl := of_decide_eq_true g
      obtain ⟨q, r, rfl, g1, _, _⟩ := vFn_eq e
      split at h
      · rename_i y c' e2
        split at h
        · rename_i g2
          injection h with h
          subst h
          obtain rfl := of_decide_eq_true g2
          obtain ⟨p1, p2, rfl, k1, _, k2⟩ := vFn_eq e2
          exact ⟨q, r, p1, p2, rfl, g1, k1, k2⟩
        · cases h
      · cases h
    · cases h
  · cases h
theorem p_sortedSet {a : E} {py b : Py} (ev : Ev G X W C) (h : v1 X.env.scope .sortedSet py = some b) (ih : PE X b (tE X.K W C a)) : P2 X W C (.p1 .sortedSet a) py := by
  obtain ⟨q, r, p1, p2, rfl, h1, h2, h3⟩ := vset_one h
  have hs : PE X (.Call (.Name (sst "set") p1) [b] [] p2) (L2.tCB (rSetT X.K X.prog X.w) (L2.tCons (tE X.K W C a) L2.tNil)) :=
    L2.pe_callTy (cr_setT ev.calm) (glB_gl h2) (ev.bl _ (by decide)) PyProof.Rows.boot_set (pa_one (all_one h3) ih) (by decide) (by decide) (noStar_eq (all_one h3) _ _) rfl
  refine .of ((L2.pe_callB (cr_sortT ev.calm) (glB_gl h1) (ev.bl _ (by decide)) rfl (L2.pa_cons hs L2.pa_nil rfl) (by decide) (by decide) rfl rfl).imp fun _ _ _ q => t_sortedSet q) isT_call
end
end KW
/-! KwMore: the other terms of one operand. -/
namespace KW
open PySem (Str Addr Value Program World Heap Operator CmpOp binaryOp compareOp PyData Scope Const Env wpAny_bind wpAny_mono)
open PySem.Spec PyProof.Rows
open L2 (V Hp HO upd upd_same upd_ne upd_upd SqL SqT Rd RelV Mut TE TT TA TS TI TG PI PG WX PE PT PW PA PS PSs Cx Inv OpR UnR CallR MtR IxR SlR TruR VK EP XK rI0)
section
variable {G : Tabs} {X : Cx} {W : WX} {C : CallF} {σ : L2.St} {H : Hp} {Q : VK}
theorem vkeys_one {sc : Scope} {n : String} {p c : Py} (h : (match vFn sc p with
    | some (x, [b]) => if decide (x = sst n) then (match vAt b with
      | some (c, m, []) => if decide (m = sst "keys") then some c else none
      | _ => none) else none
    | _ => none) = some c) : ∃ q r p1 p2, p = .Call (.Name (sst n) q) [.Call (.Attribute c (sst "keys") p1) [] [] p2] [] r ∧ glB sc (sst n) = true ∧ baseB c = true ∧ p1.endLine = p2.line := by
  split at h
  · rename_i x b e
    split at h
    · rename_i g
      obtain rfl := of_decide_eq_true g
      obtain ⟨q, r, rfl, g1, _, _⟩ := vFn_eq e
      split at h
      · rename_i c' m e2
        split at h
        · rename_i g2
          injection h with h
          subst h
          obtain rfl := of_decide_eq_true g2
          obtain ⟨p1, p2, rfl, k1, k2, _, _⟩ := vAt_eq e2
          exact ⟨q, r, p1, p2, rfl, g1, k1, k2⟩
        · cases h
      · cases h
    · cases h
  · cases h
theorem isM1_eq {m : Py} (h : isM1 m = true) : ∃ j q r, m = .UnaryOp .USub (.Constant (.int 1) j q) r := by
  unfold isM1 at h
  split at h
  · exact ⟨_, _, _, rfl⟩
  · cases h
theorem p_more {o : Op1} {a : E} {py b : Py} (ev : Ev G X W C) (h : v1 X.env.scope o py = some b) (ih : PE X b (tE X.K W C a)) (hm : isMore o = true) : P2 X W C (.p1 o a) py := by
  cases o with
  | sorted =>
    obtain ⟨q, r, rfl, h2, h3, h4⟩ := vfn_one h
    exact p_fn ev cr_sortD ok_sorted (by decide) rfl h2 h3 h4 ih
  | sortedKeys =>
    obtain ⟨q, r, p1, p2, rfl, g1, g2, g3⟩ := vkeys_one (n := "sorted") h
    exact .of ((pe_sortedKeys ev.calm ih (glB_gl g1) (ev.bl _ (by decide)) (base_ok g2 _ _) (by rw [g3]; exact beq_self_eq_true _)).imp fun _ _ _ q => t_sortedKeys q) isT_call
  | listKeys =>
    obtain ⟨q, r, p1, p2, rfl, g1, g2, g3⟩ := vkeys_one (n := "list") h
    exact .of ((pe_listKeys ev.calm ih (glB_gl g1) (ev.bl _ (by decide)) (base_ok g2 _ _) (by rw [g3]; exact beq_self_eq_true _)).imp fun _ _ _ q => t_listKeys q) isT_call
  | sortedSet => exact p_sortedSet ev h ih
  | copy =>
    simp only [v1] at h
    split at h
    · rename_i b' m e
      split at h
      · rename_i g
        injection h with h
        subst h
        obtain rfl := of_decide_eq_true g
        obtain ⟨p1, p2, rfl, k1, k2, _, _⟩ := vAt_eq e
        exact .of ((pe_copy ih (base_ok k1 _ _) (by rw [k2]; exact beq_self_eq_true _)).imp fun _ _ _ q => t_copy q) isT_call
      · cases h
    · cases h
  | rev =>
    simp only [v1] at h
    split at h
    · split at h
      · rename_i g
        injection h with h
        subst h
        obtain ⟨j, q, r, rfl⟩ := isM1_eq g
        exact .of ((L2.pe_revL ih).imp fun _ _ _ q => t_rev q) isT_sub
      · cases h
    · cases h
  | _ => first | cases h | cases hm
end
end KW
/-! KwSound: a term that matches a text reads it. -/
namespace KW
open PySem (Str Addr Value Program World Heap Operator CmpOp binaryOp compareOp PyData Scope Const Env wpAny_bind wpAny_mono)
open PySem.Spec PyProof.Rows
open L2 (V Hp HO upd upd_same upd_ne upd_upd SqL SqT Rd RelV Mut TE TT TA TS TI TG PI PG WX PE PT PW PA PS PSs Cx Inv OpR UnR CallR MtR IxR SlR TruR VK EP XK rI0)
theorem isT_plain {p : Py} {env : Env} (h : plainTB p = true) : ∀ whole, PySem.isTrue p env whole = (do let v ← whole; PySem.standAt p.pos; PySem.holding [v] (PySem.truthy v)) := by
  cases p <;> first | (intro _; rfl) | cases h
theorem andT {a b : Bool} (h : (a && b) = true) : a = true ∧ b = true := Bool.and_eq_true_iff.mp h
section
variable {G : Tabs} {X : Cx} {W : WX} {C : CallF}
/-- the context of a comprehension's block -/
theorem Ev.blk (ev : Ev G X W C) {s : PySem.Shared} {H : Hp} {scope : Scope} {ce : Env} {fp : List Addr} : Ev G (X.blk s H scope ce fp) noW C where
  hu := ev.hu
  calm := ev.calm
  nd := ev.nd
  tk := fun u s' ⟨a, B, sI, pins, σ, H, cls, d, e, I, nb, up, sky, na, os, ag, w⟩ => w
  bl := ev.bl
  gl := ev.gl
  tb := ev.tb
  ls := ev.ls
  fs := ev.fs
  cs := ev.cs
  ms := ev.ms
  fl := ev.fl
theorem own_ix {N : List Str} : ∀ {is : List Nat} {own : List (Str × Nat)}, ownOf N is = some own → own.map (·.2) = is
  | [], own, h => by
    simp [ownOf] at h
    subst h
    rfl
  | i :: is, own, h => by
    unfold ownOf at h
    rw [List.mapM_cons] at h
    cases e : N[i]? with
    | none => rw [e] at h; cases h
    | some x =>
      rw [e] at h
      cases e2 : List.mapM (fun i => (N[i]?).map fun x => (x, i)) is with
      | none => rw [e2] at h; cases h
      | some r =>
        rw [e2] at h
        injection h with h
        subst h
        rw [List.map_cons, own_ix (N := N) (is := is) e2]
theorem fold_set {i : Py} {env : Env} (h : noSetB i = true) : ∀ x, PySem.foldedSetIterable i env x = Pure.pure x := by
  intro x
  cases i <;> first | rfl | cases h
theorem mu_eq {o : Mu} {n : Nat} {m : Str} (h : muB o n m = true) : (o = .append ∧ n = 1 ∧ m = sst "append") ∨ (o = .extend ∧ n = 1 ∧ m = sst "extend") ∨ (o = .pop ∧ n = 0 ∧ m = sst "pop") ∨ (o = .popI ∧ n = 1 ∧ m = sst "pop") ∨
    (o = .popK ∧ n = 1 ∧ m = sst "pop") ∨ (o = .popD ∧ n = 2 ∧ m = sst "pop") ∨ (o = .remove ∧ n = 1 ∧ m = sst "remove") ∨ (o = .clear ∧ n = 0 ∧ m = sst "clear") := by
  unfold muB at h
  split at h <;> first | cases h | (obtain rfl := of_decide_eq_true h; simp)

theorem vGl_ne {sc : Scope} {p : Py} {x : String} (h : decide (vGl sc p = some (sst x)) = true) : ∃ q, p = .Name (sst x) q ∧ glB sc (sst x) = true ∧ nameB (sst x) = true := vGl_eq (of_decide_eq_true h)
theorem p_name {i : Nat} {p : Py} (h : mE G X.env.scope X.N (.var i) p = true) : P2 X W C (.var i) p := by
  simp only [mE] at h
  split at h
  · rename_i x e
    obtain ⟨q, rfl⟩ := vName_eq e
    simp only [Bool.and_eq_true, decide_eq_true_eq] at h
    exact .of (p_var h.1.1 h.1.2 h.2) fun _ => rfl
  · cases h
theorem p_const {d : D} {p : Py} (h : mE G X.env.scope X.N (.cst d) p = true) : P2 X W C (.cst d) p := by
  simp only [mE] at h
  split at h
  · rename_i x e
    obtain ⟨j, q, rfl⟩ := vCst_eq e
    exact .of (p_cst h) fun _ => rfl
  · cases h
theorem p_glob {x : String} {d : D} {p : Py} (ev : Ev G X W C) (h : mE G X.env.scope X.N (.glb x d) p = true) : P2 X W C (.glb x d) p := by
  simp only [mE] at h
  obtain ⟨h1, h2⟩ := andT h
  obtain ⟨q, rfl, g1, g2⟩ := vGl_ne h1
  exact .of (p_glb g1 g2 (ev.gl x d h2)) fun _ => rfl
theorem vseq_eq {p : Py} {b : Bool} {xs : List Py} (h : vSeqs p = some (b, xs)) : xs.length < 1000 ∧ xs.all noStarB = true ∧ ((b = true ∧ ∃ k q, p = .Tuple xs k q) ∨ (b = false ∧ ∃ q, p = .List xs q)) := by
  unfold vSeqs at h
  split at h
  · split at h
    · rename_i g
      injection h with h
      injection h with h1 h2
      subst h1 h2
      simp only [Bool.and_eq_true, decide_eq_true_eq] at g
      exact ⟨g.1, g.2, .inl ⟨rfl, _, _, rfl⟩⟩
    · cases h
  · split at h
    · rename_i g
      injection h with h
      injection h with h1 h2
      subst h1 h2
      simp only [Bool.and_eq_true, decide_eq_true_eq] at g
      exact ⟨g.1, g.2, .inr ⟨rfl, _, rfl⟩⟩
    · cases h
  · cases h
theorem vattr_eq {p b : Py} {g : Str} (h : vAttr p = some (b, g)) : ∃ q, p = .Attribute b g q ∧ baseB b = true := by
  unfold vAttr at h
  split at h
  · split at h
    · rename_i g
      injection h with h
      injection h with h1 h2
      subst h1 h2
      exact ⟨_, rfl, g⟩
    · cases h
  · cases h
theorem mEs_len : ∀ {es : List E} {xs : List Py} {sc : Scope} {N : List Str}, mEs G sc N es xs = true → es.length = xs.length
  | [], xs, _, _, h => by
    simp only [mEs] at h
    cases xs with
    | nil => rfl
    | cons _ _ => cases h
  | e :: es, xs, sc, N, h => by
    cases xs with
    | nil => simp [mEs] at h
    | cons x xs =>
      simp only [mEs] at h
      rw [List.length_cons, List.length_cons, mEs_len (andT h).2]
/-- a list of terms -/
theorem p_list {es : List E} (ih : ∀ e ∈ es, ∀ p, mE G X.env.scope X.N e p = true → P2 X W C e p) : ∀ {xs : List Py}, xs.all noStarB = true → mEs G X.env.scope X.N es xs = true → PA X xs (tEs X.K W C es) := by
  induction es with
  | nil =>
    intro xs hs h
    have := mEs_len h
    cases xs with
    | nil => exact pa_nil
    | cons _ _ => cases this
  | cons e es ihs =>
    intro xs hs h
    cases xs with
    | nil => simp [mEs] at h
    | cons x xs =>
      simp only [mEs] at h
      obtain ⟨h1, h2⟩ := andT h
      obtain ⟨g1, g2⟩ := andT (show (noStarB x && xs.all noStarB) = true from hs)
      exact pa_cons g1 (ih e List.mem_cons_self x h1).v (ihs (fun e' he' => ih e' (List.mem_cons_of_mem _ he')) g2 h2)
theorem p_comp {is : List Nat} {it : It} {cs : List E} {e : E} {p : Py} (ev : Ev G X W C) (h : mE G X.env.scope X.N (.comp is it cs e) p = true)
    (ii : ∀ tg i, nk it = true → mI G X.env.scope X.N it i = true → PI X tg i (tI X.K W C it)) (ic : ∀ (X' : Cx) (x : Py) (c : E), c ∈ cs → Ev G X' noW C → mE G X'.env.scope X'.N c x = true → P2 X' noW C c x) (ie : ∀ (X' : Cx) (x : Py), Ev G X' noW C → mE G X'.env.scope X'.N e x = true → P2 X' noW C e x) : P2 X W C (.comp is it cs e) p := by
  simp only [mE] at h
  split at h
  · rename_i b i fs s2 e0
    obtain ⟨h12, h3⟩ := andT h
    obtain ⟨h1, h2⟩ := andT h12
    unfold vComp at e0
    split at e0
    · rename_i b' t i' fs' a scope pos
      split at e0
      · rename_i g
        injection e0 with e0
        injection e0 with z1 e0
        injection e0 with z2 e0
        injection e0 with z3 z4
        subst z1 z2 z3 z4
        simp only [Bool.and_eq_true, decide_eq_true_eq] at g
        obtain ⟨⟨g1, g2⟩, g3⟩ := g
        subst g1
        unfold blkB at g3
        split at g3
        · rename_i own eo
          obtain ⟨g4, g5⟩ := andT g3
          have hix := own_ix eo
          have tgi : tgIs is := by
            unfold tgtB at g5
            split at g5
            · exact .inl ⟨_, rfl⟩
            · simp only [Bool.and_eq_true, decide_eq_true_eq] at g5
              exact .inr ⟨_, _, rfl, g5.2⟩
            · cases g5
          have pg : ∀ (s : PySem.Shared) (H : Hp) (cl : List (Str × Addr)) (D : Addr) (fp : List Addr), PG (X.blk s H scope (PySem.compEnvC scope cl D X.env) fp) t (tG X.K is) := fun s H cl D fp => (p_tgt (X := X.blk s H scope (PySem.compEnvC scope cl D X.env) fp) ev.calm ev.nd g5).1
          have pt : ∀ (s : PySem.Shared) (H : Hp) (cl : List (Str × Addr)) (D : Addr) (fp : List Addr), L2.PTs (X.blk s H scope (PySem.compEnvC scope cl D X.env) fp) fs' (tTs X.K C cs) := fun s H cl D fp => by
            cases cs with
            | nil =>
              simp only [mC] at h2
              cases fs' with
              | nil => exact pts_none
              | cons _ _ => cases h2
            | cons c cs =>
              simp only [mC] at h2
              split at h2
              · obtain ⟨k1, k2⟩ := andT h2
                cases cs with
                | cons _ _ => cases k2
                | nil => exact pts_some (ic _ _ c List.mem_cons_self ev.blk k1).t
              · cases h2
          have pe : ∀ (s : PySem.Shared) (H : Hp) (cl : List (Str × Addr)) (D : Addr) (fp : List Addr), PE (X.blk s H scope (PySem.compEnvC scope cl D X.env) fp) b' (tD X.K noW C e) := fun s H cl D fp => (ie _ _ ev.blk h3).v.imp fun _ _ _ q => t_D q
          by_cases hn : nk it = true
          · refine .of ((L2.pe_lc (g := tG X.K is) (tt := tTs X.K C cs) (te := tD X.K noW C e) ev.calm ev.nd (ii _ _ hn h1) (L2.blkOk_by g4) (fun s H D cl fp => pg s H cl D fp) (fun s H D cl fp => pt s H cl D fp) (fun s H D cl fp => pe s H cl D fp) (fold_set g2)).imp fun σ H Q q => ?_) fun _ => rfl
            rw [hix]
            exact t_comp tgi q
          · cases it with
            | keys e0 =>
              simp only [mI] at h1
              split at h1
              · rename_i b0 hk
                obtain ⟨j1, j2⟩ := andT h1
                refine .of ((pe_orLock (L2.pe_lc (g := tG X.K is) (tt := tTs X.K C cs) (te := tD X.K noW C e) ev.calm ev.nd (pi_keysE j1 hk j2) (L2.blkOk_by g4) (fun s H D cl fp => pg s H cl D fp) (fun s H D cl fp => pt s H cl D fp) (fun s H D cl fp => pe s H cl D fp) (fold_set g2))).imp fun σ H Q q => ?_) fun _ => rfl
                rw [hix]
                exact t_keysComp tgi j1 ev.fl j2 q
              · cases h1
            | vals e0 => simp [mI] at h1
            | _ => exact absurd rfl hn
        · cases g3
      · cases e0
    · cases e0
  · cases h
end
end KW
set_option maxHeartbeats 2000000
/-! KwAll: every term that matches. -/
namespace KW
open PySem (Str Addr Value Program World Heap Operator CmpOp binaryOp compareOp PyData Scope Const Env wpAny_bind wpAny_mono)
open PySem.Spec PyProof.Rows
open L2 (V Hp HO upd upd_same upd_ne upd_upd SqL SqT Rd RelV Mut TE TT TA TS TI TG PI PG WX PE PT PW PA PS PSs Cx Inv OpR UnR CallR MtR IxR SlR TruR VK EP XK rI0)
section
variable {G : Tabs} {C : CallF}
theorem len_two {α : Type} {l : List α} (h : l.length = 2) : ∃ a b, l = [a, b] := by
  cases l with
  | nil => cases h
  | cons a r => cases r with
    | nil => cases h
    | cons b r => cases r with
      | nil => exact ⟨a, b, rfl⟩
      | cons _ _ => simp at h
theorem t_slBoth {K : Fr} {W : WX} {σ : L2.St} {H : Hp} {Q : VK} {a b c : E} (h : tE K W C (.p3 .slBoth a b c) σ H Q) : L2.tSl (rSl K) (tE K W C a) (L2.tPart (tE K W C b)) (L2.tPart (tE K W C c)) σ H Q := by
  obtain ⟨M, s, rt, h⟩ := h
  refine ⟨M, s, rt, ?_⟩
  simp only [evalE, pure] at h
  have pp : (pure a && pure b && pure c) = true → pure a = true ∧ pure b = true ∧ pure c = true := fun z => by
    simp only [Bool.and_eq_true] at z
    exact ⟨z.1.1, z.1.2, z.2⟩
  refine h.bind anti_relE (fun z => (pp z).1) fun x s1 M1 H1 v hx e1 p1 rt1 rl1 k1 => ?_
  have k1 := k1 (pure b && pure c) fun z => by rw [(pp z).2.1, (pp z).2.2]; rfl
  by_cases g0 : ((isPk x && !(pure b && pure c)) || !recv3 s1.h .slBoth x) = true
  · rw [if_pos g0] at k1; exact k1.2.elim
  rw [if_neg g0] at k1
  have g : ¬ (isPk x && !(pure b && pure c)) = true := fun z => g0 (Bool.or_eq_true_iff.mpr (.inl z))
  refine ⟨M1, s1, rt1, k1.bind anti_relE (fun z => (Bool.and_eq_true_iff.mp z).1) fun y s2 M2 H2 u hy e2 p2 rt2 rl2 k2 => ?_⟩
  have k2 := k2 (pure c) fun z => (Bool.and_eq_true_iff.mp z).2
  by_cases gy : ((isPk y && !pure c) || !recv3b .slBoth y) = true
  · rw [if_pos gy] at k2; exact k2.2.elim
  rw [if_neg gy] at k2
  have rx : RR K s2.h.length M2 H2 x v := by
    cases q : isPk x with
    | false => exact rl1.1.mono rt1.hp.wf e2 q
    | true =>
      have pb : (pure b && pure c) = true := by cases z : (pure b && pure c) with
        | true => rfl
        | false => exact absurd (by rw [q, z]; rfl) g
      obtain ⟨es, gr⟩ := p2 (Bool.and_eq_true_iff.mp pb).1
      rw [es]
      exact rl1.1.grow rt1.hp.wf gr
  have tail : ∀ k : Int, y = .val (.int k) → tE K W C c σ H2 fun w H3 => ∃ j, w = .int j ∧ rSl K v (some k) (some j) H3 Q := fun k ek => by
    subst ek
    refine ⟨M2, s2, rt2, k2.bind anti_relE (fun z => z) fun z s3 M3 H3 w hz e3 p3 rt3 rl3 k3 => ?_⟩
    obtain ⟨zz, ez, hzz⟩ := (k3 _ fun z => z).op rt3
    obtain ⟨i1, f1, f2⟩ := obind (show (part (.val (.int k))).bind (fun i => (part z).bind fun j => runCut s3.h x i j) = some zz from ez)
    obtain ⟨j1, f3, f4⟩ := obind f2
    obtain ⟨j, rfl, rfl⟩ := part_some f3
    injection f1 with f1
    subst f1
    cases int_at rl3.1
    refine ⟨j, rfl, ok_cut rt3 ?_ f4 hzz⟩
    cases q : isPk x with
    | false => exact rx.mono rt2.hp.wf e3 q
    | true =>
      have pb : (pure b && pure c) = true := by cases z : (pure b && pure c) with
        | true => rfl
        | false => exact absurd (by rw [q, z]; rfl) g
      obtain ⟨es, gr⟩ := p3 (Bool.and_eq_true_iff.mp pb).2
      rw [es]
      exact rx.grow rt2.hp.wf gr
  have gi : ∃ k, y = .val (.int k) := by
    have : recv3b .slBoth y = true := by
      cases z : recv3b .slBoth y with
      | true => rfl
      | false => exact absurd (Bool.or_eq_true_iff.mpr (.inr (by rw [z]; rfl))) gy
    cases y with
    | val d => cases d <;> first | exact ⟨_, rfl⟩ | cases this
    | _ => cases this
  obtain ⟨k, rfl⟩ := gi
  have hu : u = .int k := int_at rl2.1
  exact ⟨k, hu, tail k rfl⟩
theorem p_slBoth {X : Cx} {W : WX} {a b c : E} {p d e f : Py} (ev : Ev G X W C) (h : v3 .slBoth p = some (d, e, f)) (ha : PE X d (tE X.K W C a)) (hb : PE X e (tE X.K W C b)) (hc : PE X f (tE X.K W C c)) : P2 X W C (.p3 .slBoth a b c) p := by
  simp only [v3] at h
  split at h
  · injection h with h
    injection h with h1 h
    injection h with h2 h3
    subst h1 h2 h3
    exact .of ((L2.pe_slice sl_all ha (L2.po_some hb) (L2.po_some hc)).imp fun _ _ _ q => t_slBoth q) isT_sub
  · cases h
theorem t_dnew {K : Fr} {W : WX} {σ : L2.St} {H : Hp} {Q : VK} (h : tE K W C (.dct [] []) σ H Q) : L2.tDNewK σ H Q := by
  obtain ⟨M, s, rt, h⟩ := h
  intro p hp
  obtain ⟨rt', g⟩ := rt.tmp (o := .dK []) hp trivial
  have h : OutR K W (relE K) M H σ s true (.ok (.own (.dct [])) s) Q := by simpa [evalE, evalEs, KW.pure, pures] using h
  refine h.2 _ _ _ g.ext (fun _ => ⟨rfl, g⟩) rt' ⟨.own MM.set_same (.dct (ks := []) (vs := []) (.inl (by simpa using upd_same)) rfl .nil .nil), fun c e a z => ?_⟩
  injection z with z
  subst z
  exact hp
theorem p_dctN {X : Cx} {W : WX} {ks : List D} {es : List E} {p : Py} {kys : List (Option Py)} {xs : List Py} (ev : Ev G X W C) (h : vDct p = some (kys, xs)) (h0 : kys ≠ []) (hk : vKs ks kys = true) (hks : (ks.all fun d => (keyOf d).isSome) = true) (hl : kys.length = xs.length) (hx : ∀ e ∈ es, ∀ p, mE G X.env.scope X.N e p = true → P2 X W C e p) (hm : mEs G X.env.scope X.N es xs = true) : P2 X W C (.dct ks es) p := by
  unfold vDct at h
  split at h
  · split at h
    · rename_i g
      injection h with h
      injection h with h1 h2
      subst h1 h2
      have g := of_decide_eq_true g
      obtain ⟨l1, l2⟩ := vks_ok hk
      have l3 := mEs_len hm
      refine .of ((L2.pe_disp (p_pairs hk (fun d hd => List.all_eq_true.mp hks d hd) hm hl hx) (vks_some hk) hl h0 (by omega)).imp fun σ H Q q => t_dct (by omega) (by omega) l2 q fun d hd => List.all_eq_true.mp hks d hd) fun _ => rfl
    · cases h
  · cases h
theorem p_dct {X : Cx} {W : WX} {ks : List D} {es : List E} {p : Py} {kys : List (Option Py)} {xs : List Py} (ev : Ev G X W C) (h : vDct p = some (kys, xs)) (hk : vKs ks kys = true) (hks : (ks.all fun d => (keyOf d).isSome) = true) (hl : kys.length = xs.length) (hx : ∀ e ∈ es, ∀ p, mE G X.env.scope X.N e p = true → P2 X W C e p) (hm : mEs G X.env.scope X.N es xs = true) : P2 X W C (.dct ks es) p := by
  cases kys with
  | cons k kys => exact p_dctN ev h (by intro z; cases z) hk hks hl hx hm
  | nil =>
    have hx0 : xs = [] := List.eq_nil_of_length_eq_zero hl.symm
    subst hx0
    have he0 : es = [] := List.eq_nil_of_length_eq_zero (mEs_len hm)
    subst he0
    cases ks with
    | cons d ds => cases hk
    | nil =>
      unfold vDct at h
      split at h
      · split at h
        · injection h with h
          injection h with h1 h2
          subst h1 h2
          exact .of (L2.pe_dnewK.imp fun _ _ _ q => t_dnew q) fun _ => rfl
        · cases h
      · cases h
theorem vIn_eq {sc : Scope} {x : String} {p b : Py} (h : vIn sc x p = some b) : ∃ q r, p = .Compare b [.In] [.Name (sst x) q] r ∧ glB sc (sst x) = true ∧ nameB (sst x) = true := by
  unfold vIn at h
  split at h
  · rename_i b' c e
    split at h
    · rename_i g
      injection h with h
      subst h
      obtain ⟨q, rfl, g1, g2⟩ := vGl_ne g
      obtain ⟨r, rfl, _⟩ := vCmp_eq e
      exact ⟨q, r, rfl, g1, g2⟩
    · cases h
  · cases h
theorem t_gIn {K : Fr} {W : WX} {σ : L2.St} {H : Hp} {Q : VK} {x : String} {kvs : List (T × D)} {e : E} {d : Addr} (ht : ∀ t : T, match tfind t kvs with
    | some dd => ∃ u v, PySem.W.nsIn K d (mst t) = some (some u) ∧ RelV v u ∧ ∀ n M H, RD K n M H dd v
    | none => PySem.W.nsIn K d (mst t) = some none) (h : tE K W C (.gIn x kvs e) σ H Q) :
    L2.tOp (fun x y H Q => ∃ (z : Str) (r : Option Value), x = .str z ∧ y = .ref d ∧ PySem.W.nsIn K d z = some r ∧ Q (.bl r.isSome) H) (tE K W C e) (L2.tC (.ref d)) σ H Q := by
  obtain ⟨M, s, rt, h⟩ := h
  refine ⟨M, s, rt, ?_⟩
  simp only [evalE, pure] at h
  refine h.bind anti_relE (fun z => z) fun y s1 M1 H1 v hx e1 p1 rt1 rl1 k1 => ?_
  have k1 := k1 true fun _ => rfl
  split at k1
  · rename_i t _
    obtain ⟨rfl, _⟩ := str_at rl1.1
    have q := ht t
    have fin : ∀ b : Bool, b = (tfind t kvs).isSome → Q (.bl b) H1 := fun b eb => by
      rw [← eb] at k1
      exact k1.2 M1 H1 (.bl b) .refl (fun _ => ⟨rfl, .refl⟩) rt1 ⟨.val (.bl b), fun c z => by cases z⟩
    cases z : tfind t kvs with
    | none => rw [z] at q; exact ⟨_, none, rfl, rfl, q, fin _ (by rw [z]; rfl)⟩
    | some dd =>
      rw [z] at q
      obtain ⟨u, w, q1, _⟩ := q
      exact ⟨_, some u, rfl, rfl, q1, fin _ (by rw [z]; rfl)⟩
  · exact k1.2.elim
theorem bl_gIn {x : String} {kvs : List (T × D)} {e : E} : ∀ s y s', evalE C (.gIn x kvs e) s = .ok y s' → ∃ k, y = .val (.bl k) := fun s y s' h => by
  simp only [evalE] at h
  obtain ⟨u, s1, _, h⟩ := bind_is h
  split at h
  · cases h; exact ⟨_, rfl⟩
  · cases h
theorem p_gIn {X : Cx} {W : WX} {x : String} {kvs : List (T × D)} {e : E} {p b : Py} (ev : Ev G X W C) (h : vIn X.env.scope x p = some b) (ht : (G.tb.any fun q => q.1 == x && beqTs q.2 kvs) = true) (he : PE X b (tE X.K W C e)) : P2 X W C (.gIn x kvs e) p := by
  obtain ⟨d, es, n, m1, kd, tt⟩ := ev.tb x kvs ht
  obtain ⟨q, r, rfl, g1, g2⟩ := vIn_eq h
  have hn : PE X (.Name (sst x) q) (L2.tC (.ref d)) := L2.pe_glob (glB_gl g1) m1 rfl (nameB_ne g2).1
  exact ⟨(L2.pe_cmpR (L2.op_in_kd kd) he hn rfl).imp fun _ _ _ q => t_gIn tt q, (L2.pt_cmpR (L2.op_in_kd kd) he hn rfl).imp fun σ H Q q => by
    obtain ⟨M, s, rt, k⟩ := t_gIn tt (t_test bl_gIn q)
    exact ⟨M, s, rt, k⟩⟩
theorem t_gIdx {K : Fr} {W : WX} {w : World} {σ : L2.St} {H : Hp} {Q : VK} {x : String} {kvs : List (T × D)} {e : E} {d : Addr} {es : Array PySem.DictEntry} {n : Nat} (kd : L2.KDict K w d es n) (ht : ∀ t : T, match tfind t kvs with
    | some dd => ∃ u v, PySem.W.nsIn K d (mst t) = some (some u) ∧ RelV v u ∧ ∀ n M H, RD K n M H dd v
    | none => PySem.W.nsIn K d (mst t) = some none) (h : tE K W C (.gIdx x kvs e) σ H Q) :
    L2.tOp (L2.rIxD K w) (L2.tC (.ref d)) (tE K W C e) σ H Q := by
  obtain ⟨M, s, rt, h⟩ := h
  refine ⟨M, s, rt, ?_⟩
  simp only [evalE, pure] at h
  refine h.bind anti_relE (fun z => z) fun y s1 M1 H1 v hx e1 p1 rt1 rl1 k1 => ?_
  have k1 := k1 true fun _ => rfl
  split at k1
  · rename_i t _
    obtain ⟨rfl, _⟩ := str_at rl1.1
    have q := ht t
    cases z : tfind t kvs with
    | none => rw [z] at k1; exact k1.2.elim
    | some dd =>
      rw [z] at q k1
      obtain ⟨u, v, q1, q2, q3⟩ := q
      exact ⟨d, _, v, rfl, rfl, ⟨es, n, u, kd.at_, kd.lit, q1, q2⟩, k1.2 M1 H1 v .refl (fun _ => ⟨rfl, .refl⟩) rt1 ⟨.val (q3 _ _ _), fun c z => by cases z⟩⟩
  · exact k1.2.elim
theorem p_gIdx {X : Cx} {W : WX} {x : String} {kvs : List (T × D)} {e : E} {p b : Py} (ev : Ev G X W C) (h : vGIdx X.env.scope x p = some b) (ht : (G.tb.any fun q => q.1 == x && beqTs q.2 kvs) = true) (he : PE X b (tE X.K W C e)) : P2 X W C (.gIdx x kvs e) p := by
  obtain ⟨d, es, n, m1, kd, tt⟩ := ev.tb x kvs ht
  unfold vGIdx at h
  split at h
  · rename_i c b' e0
    split at h
    · rename_i g
      injection h with h
      subst h
      obtain ⟨q, rfl, g1, g2⟩ := vGl_ne g
      obtain ⟨r, rfl, hs⟩ := vSub_eq e0
      have hn : PE X (.Name (sst x) q) (L2.tC (.ref d)) := L2.pe_glob (glB_gl g1) m1 rfl (nameB_ne g2).1
      exact .of ((L2.pe_ix L2.ix_kdict hn he (plainIx hs)).imp fun _ _ _ q => t_gIdx kd tt q) isT_sub
    · cases h
  · cases h
theorem strs_rd {K : Fr} {n : Nat} {M : MM} {H : Hp} : ∀ {ts : List T}, (∀ t ∈ ts, okT t) → RDs K n M H (ts.map D.str) ((ts.map mst).map V.str)
  | [], _ => .nil
  | t :: ts, h => .cons (.str t (h t List.mem_cons_self)) (strs_rd fun u hu => h u (List.mem_cons_of_mem _ hu))
theorem strs_flat : ∀ ts : List T, (ts.map D.str).all flat = true
  | [] => rfl
  | _ :: ts => by rw [List.map_cons, List.all_cons, strs_flat ts]; rfl
theorem strs_any (t : T) : ∀ ts : List T, ((ts.map D.str).any fun z => deq z (.str t)) = decide (t ∈ ts)
  | [] => rfl
  | u :: ts => by
    rw [List.map_cons, List.any_cons, strs_any t ts]
    by_cases e : u = t
    · subst e; simp [deq]
    · have e2 : ¬ t = u := fun z => e z.symm
      simp [deq, e, e2]
theorem t_inL {K : Fr} {W : WX} {σ : L2.St} {H : Hp} {Q : VK} {x : String} {ts : List T} {e : E} {a : Addr} (ho : ∀ t ∈ ts, okT t) (hl : ∀ H, SqL K H a ((ts.map mst).map V.str)) (h : tE K W C (.inL x ts e) σ H Q) :
    L2.tOp (rInAll K) (tE K W C e) (L2.tC (.ref a)) σ H Q := by
  obtain ⟨M, s, rt, h⟩ := h
  refine ⟨M, s, rt, ?_⟩
  simp only [evalE, pure] at h
  refine h.bind anti_relE (fun z => z) fun y s1 M1 H1 v hx e1 p1 rt1 rl1 k1 => ?_
  have k1 := k1 true fun _ => rfl
  split at k1
  · rename_i t _
    have hx : RD K s1.h.length M1 H1 (.str t) v := by
      cases rl1.1 with
      | val r => exact r
    have r2 : RDs K s1.h.length M1 H1 (ts.map D.str) ((ts.map mst).map V.str) := strs_rd ho
    have ea := any_inV (d := .str t) rfl hx (strs_flat ts) r2
    rw [strs_any] at ea
    refine .inr (.inl ⟨a, _, rfl, .inl (hl H1), flat_flatV (d := .str t) rfl hx, flats_flatV (strs_flat ts) r2, ?_⟩)
    rw [ea]
    exact k1.2 M1 H1 _ .refl (fun _ => ⟨rfl, .refl⟩) rt1 ⟨.val (.bl _), fun c z => by cases z⟩
  · exact k1.2.elim
theorem bl_inL {x : String} {ts : List T} {e : E} : ∀ s y s', evalE C (.inL x ts e) s = .ok y s' → ∃ k, y = .val (.bl k) := fun s y s' h => by
  simp only [evalE] at h
  obtain ⟨u, s1, _, h⟩ := bind_is h
  split at h
  · cases h; exact ⟨_, rfl⟩
  · cases h
theorem p_inL {X : Cx} {W : WX} {x : String} {ts : List T} {e : E} {p b : Py} (ev : Ev G X W C) (h : vIn X.env.scope x p = some b) (ht : (G.ls.any fun q => q.1 == x && decide (q.2 = ts)) = true) (he : PE X b (tE X.K W C e)) : P2 X W C (.inL x ts e) p := by
  obtain ⟨a, m1, m2, m3⟩ := ev.ls x ts ht
  obtain ⟨q, r, rfl, g1, g2⟩ := vIn_eq h
  have hn : PE X (.Name (sst x) q) (L2.tC (.ref a)) := L2.pe_glob (glB_gl g1) m1 rfl (nameB_ne g2).1
  exact ⟨(L2.pe_cmpR (op_inAll ev.hu) he hn rfl).imp fun _ _ _ q => t_inL m2 m3 q, (L2.pt_cmpR (op_inAll ev.hu) he hn rfl).imp fun σ H Q q => by
    obtain ⟨M, s, rt, k⟩ := t_inL m2 m3 (t_test bl_inL q)
    exact ⟨M, s, rt, k⟩⟩
theorem p_itRest {X : Cx} {W : WX} : True := trivial
mutual
theorem sE : ∀ (e : E) (X : Cx) (W : WX) (p : Py), Ev G X W C → mE G X.env.scope X.N e p = true → P2 X W C e p
  | .var i, X, W, p, ev, h => p_name h
  | .cst d, X, W, p, ev, h => p_const h
  | .glb x d, X, W, p, ev, h => p_glob ev h
  | .p1 o a, X, W, p, ev, h => by
    simp only [mE] at h
    split at h
    · rename_i b e
      have ih := (sE a X W b ev h).v
      exact p_one ev e ih (p_more ev e ih)
    · cases h
  | .p2 o a b, X, W, p, ev, h => by
    simp only [mE] at h
    split at h
    · rename_i c d e
      obtain ⟨h1, h2⟩ := andT h
      exact p_two ev e (sE a X W c ev h1).v (sE b X W d ev h2).v
    · cases h
  | .p3 o a b c, X, W, p, ev, h => by
    simp only [mE] at h
    split at h
    · rename_i d e f q
      obtain ⟨h12, h3⟩ := andT h
      obtain ⟨h1, h2⟩ := andT h12
      cases o with
      | slBoth => exact p_slBoth ev q (sE a X W d ev h1).v (sE b X W e ev h2).v (sE c X W f ev h3).v
      | dget => exact p_dget ev q (sE a X W d ev h1).v (sE b X W e ev h2).v (sE c X W f ev h3).v
    · cases h
  | .tup es, X, W, p, ev, h => by
    simp only [mE] at h
    split at h
    · rename_i xs e
      obtain ⟨h1, h2, h3⟩ := vseq_eq e
      rcases h3 with ⟨_, k, q, rfl⟩ | ⟨h3, _⟩
      · exact p_tup (by rw [mEs_len h]; exact h1) (p_list (fun e he p hp => sEs es X W ev e he p hp) h2 h)
      · cases h3
    · cases h
  | .lst es, X, W, p, ev, h => by
    simp only [mE] at h
    split at h
    · rename_i xs e
      obtain ⟨h1, h2, h3⟩ := vseq_eq e
      rcases h3 with ⟨h3, _⟩ | ⟨_, q, rfl⟩
      · cases h3
      · exact p_lst (p_list (fun e he p hp => sEs es X W ev e he p hp) h2 h)
    · cases h
  | .dct ks es, X, W, p, ev, h => by
    simp only [mE] at h
    split at h
    · rename_i kys xs e
      obtain ⟨h123, h3⟩ := andT h
      obtain ⟨h12, h2⟩ := andT h123
      obtain ⟨h1, h1b⟩ := andT h12
      exact p_dct ev e h1 h1b (of_decide_eq_true h2) (fun e he p hp => sEs es X W ev e he p hp) h3
    · cases h
  | .fld cs e f, X, W, p, ev, h => by
    simp only [mE] at h
    split at h
    · rename_i b g q
      obtain ⟨h12, h3⟩ := andT h
      obtain ⟨h1, h2⟩ := andT h12
      obtain rfl := of_decide_eq_true h1
      obtain ⟨r, rfl, hb⟩ := vattr_eq q
      exact p_fld (fun c hc => ev.fl c f (List.all_eq_true.mp h2 c (by simpa using hc))) hb (sE e X W b ev h3).v
    · cases h
  | .and a b, X, W, p, ev, h => by
    simp only [mE] at h
    split at h
    · rename_i x y q
      obtain ⟨h1, h2⟩ := andT h
      exact p_and q (sE a X W x ev h1) (sE b X W _ ev h2)
    · cases h
  | .or a b, X, W, p, ev, h => by
    simp only [mE] at h
    split at h
    · rename_i x y q
      obtain ⟨h1, h2⟩ := andT h
      exact p_or q (sE a X W x ev h1) (sE b X W _ ev h2)
    · cases h
  | .not a, X, W, p, ev, h => by
    simp only [mE] at h
    split at h
    · rename_i b q
      unfold vNot at q
      split at q
      · injection q with q
        subst q
        exact p_not (sE a X W _ ev h)
      · cases q
    · cases h
  | .ife c a b, X, W, p, ev, h => by
    simp only [mE] at h
    split at h
    · rename_i x y z q
      obtain ⟨h12, h3⟩ := andT h
      obtain ⟨h1, h2⟩ := andT h12
      unfold vIf at q
      split at q
      · injection q with q
        injection q with q1 q
        injection q with q2 q3
        subst q1 q2 q3
        exact p_ife (sE c X W _ ev h1) (sE a X W _ ev h2) (sE b X W _ ev h3)
      · cases q
    · cases h
  | .chain o o2 a b c, X, W, p, ev, h => by
    simp only [mE] at h
    split at h
    · rename_i x y z q
      obtain ⟨h12, h3⟩ := andT h
      obtain ⟨h1, h2⟩ := andT h12
      exact p_chain ev q (sE a X W _ ev h1).v (sE b X W _ ev h2).v (sE c X W _ ev h3).v
    · cases h
  | .call f es, X, W, p, ev, h => by
    simp only [mE] at h
    split at h
    · rename_i x xs q
      obtain ⟨h12, h3⟩ := andT h
      obtain ⟨h1, h2⟩ := andT h12
      obtain rfl := of_decide_eq_true h1
      obtain ⟨q1, q2, rfl, g1, g2, g3⟩ := vFn_eq q
      have hl := mEs_len h3
      cases xs with
      | nil =>
        cases es with
        | nil => exact p_call0 ev h2 g1 g2
        | cons _ _ => cases hl
      | cons x xs => exact p_call ev h2 g1 g2 g3 (p_list (fun e he p hp => sEs es X W ev e he p hp) g3 h3)
    · cases h
  | .new c es, X, W, p, ev, h => by
    simp only [mE] at h
    split at h
    · rename_i x xs q
      obtain ⟨h12, h3⟩ := andT h
      obtain ⟨h1, h2⟩ := andT h12
      obtain rfl := of_decide_eq_true h1
      obtain ⟨q1, q2, rfl, g1, g2, g3⟩ := vFn_eq q
      have hl := mEs_len h3
      cases xs with
      | nil =>
        cases es with
        | nil => exact p_new0 ev h2 g1 g2
        | cons _ _ => cases hl
      | cons x xs => exact p_new ev h2 g1 g2 g3 (p_list (fun e he p hp => sEs es X W ev e he p hp) g3 h3)
    · cases h
  | .meth c m e es, X, W, p, ev, h => by
    simp only [mE] at h
    split at h
    · rename_i b g xs q
      obtain ⟨h123, h4⟩ := andT h
      obtain ⟨h12, h3⟩ := andT h123
      obtain ⟨h1, h2⟩ := andT h12
      obtain rfl := of_decide_eq_true h1
      obtain ⟨p1, p2, rfl, g1, g2, g3, g4⟩ := vAt_eq q
      have hl := mEs_len h4
      exact p_meth ev h2 g1 g2 g4 g3 (fun z => by
        subst z
        exact List.eq_nil_of_length_eq_zero hl) (sE e X W b ev h3).v (p_list (fun e he p hp => sEs es X W ev e he p hp) g4 h4)
    · cases h
  | .mut o e es, X, W, p, ev, h => by
    simp only [mE] at h
    split at h
    · rename_i b g xs q
      obtain ⟨h12, h3⟩ := andT h
      obtain ⟨h1, h2⟩ := andT h12
      obtain ⟨p1, p2, rfl, g1, g2, g3, g4⟩ := vAt_eq q
      have hl := mEs_len h3
      have he := (sE e X W b ev h2).v
      have ha := p_list (fun e he p hp => sEs es X W ev e he p hp) g4 h3
      have one : es.length = 1 → ∃ x, xs = [x] := fun z => List.length_eq_one_iff.mp (by rw [← hl]; exact z)
      have zero : es.length = 0 → xs = [] ∧ es = [] := fun z => ⟨List.eq_nil_of_length_eq_zero (by rw [← hl]; exact z), List.eq_nil_of_length_eq_zero z⟩
      rcases mu_eq h1 with ⟨rfl, hn, rfl⟩ | ⟨rfl, hn, rfl⟩ | ⟨rfl, hn, rfl⟩ | ⟨rfl, hn, rfl⟩ | ⟨rfl, hn, rfl⟩ | ⟨rfl, hn, rfl⟩ | ⟨rfl, hn, rfl⟩ | ⟨rfl, hn, rfl⟩
      · obtain ⟨x, rfl⟩ := one hn
        exact p_mut1 PySem.F.slot_list_append PySem.F.type_list_append L2.mt_append ok_append rfl g1 g2 g4 he ha
      · obtain ⟨x, rfl⟩ := one hn
        exact p_mut1 PySem.F.slot_list_extend PySem.F.type_list_extend mt_extendR ok_extend rfl g1 g2 g4 he ha
      · obtain ⟨rfl, rfl⟩ := zero hn
        exact p_mut0 PySem.F.slot_list_pop PySem.F.type_list_pop L2.mt_pop ok_pop rfl g1 g2 he
      · obtain ⟨x, rfl⟩ := one hn
        exact p_mut1 PySem.F.slot_list_pop PySem.F.type_list_pop L2.mt_popAt ok_popAt rfl g1 g2 g4 he ha
      · obtain ⟨x, rfl⟩ := one hn
        obtain ⟨a, rfl⟩ := List.length_eq_one_iff.mp hn
        simp only [mEs, Bool.and_eq_true] at h3
        exact p_popK g1 g2 g4 he (sEs [a] X W ev a List.mem_cons_self x h3.1).v
      · obtain ⟨x, y, rfl⟩ := len_two (show xs.length = 2 by rw [← hl]; exact hn)
        obtain ⟨a, c, rfl⟩ := len_two hn
        simp only [mEs, Bool.and_eq_true] at h3
        exact p_popD g1 g2 g4 he (sEs [a, c] X W ev a List.mem_cons_self x h3.1).v (sEs [a, c] X W ev c (by simp) y h3.2.1).v
      · obtain ⟨x, rfl⟩ := one hn
        exact p_mut1 PySem.F.slot_list_remove PySem.F.type_list_remove (mt_removeD ev.hu) ok_remove rfl g1 g2 g4 he ha
      · obtain ⟨rfl, rfl⟩ := zero hn
        exact p_mut0 PySem.F.slot_list_clear PySem.F.type_list_clear L2.mt_clear ok_clear rfl g1 g2 he
    · cases h
  | .box e, X, W, p, ev, h => by
    simp only [mE] at h
    obtain ⟨h1, h2⟩ := andT h
    exact .of ((sE e X W p ev h2).v.imp fun _ _ _ q => tE_box q) (isT_plain h1)
  | .frz e, X, W, p, ev, h => by
    simp only [mE] at h
    obtain ⟨h1, h2⟩ := andT h
    exact .of ((sE e X W p ev h2).v.imp fun _ _ _ q => tE_frz q) (isT_plain h1)
  | .gIn x kvs e, X, W, p, ev, h => by
    simp only [mE] at h
    split at h
    · rename_i b q
      obtain ⟨h1, h2⟩ := andT h
      exact p_gIn ev q h1 (sE e X W b ev h2).v
    · cases h
  | .gIdx x kvs e, X, W, p, ev, h => by
    simp only [mE] at h
    split at h
    · rename_i b q
      obtain ⟨h1, h2⟩ := andT h
      exact p_gIdx ev q h1 (sE e X W b ev h2).v
    · cases h
  | .gGet x kvs e z, X, W, p, ev, h => by simp [mE] at h
  | .inL x ts e, X, W, p, ev, h => by
    simp only [mE] at h
    split at h
    · rename_i b q
      obtain ⟨h1, h2⟩ := andT h
      exact p_inL ev q h1 (sE e X W b ev h2).v
    · cases h
  | .isinst e c, X, W, p, ev, h => by simp [mE] at h
  | .comp is it cs e, X, W, p, ev, h => p_comp ev h (fun tg i hn hi => sI it X W tg i ev hn hi) (fun X' x c hc ev' hx => sEs cs X' noW ev' c hc x hx) (fun X' x ev' hx => sE e X' noW x ev' hx)
theorem sEs : ∀ (es : List E) (X : Cx) (W : WX), Ev G X W C → ∀ e ∈ es, ∀ p, mE G X.env.scope X.N e p = true → P2 X W C e p
  | [], X, W, ev, e, he, p, h => by cases he
  | e :: es, X, W, ev, e', he, p, h => by
    rcases List.mem_cons.mp he with z | he
    · rw [z]; exact sE e X W p ev (by rw [← z]; exact h)
    · exact sEs es X W ev e' he p h
theorem sI : ∀ (it : It) (X : Cx) (W : WX) (tg i : Py), Ev G X W C → nk it = true → mI G X.env.scope X.N it i = true → PI X tg i (tI X.K W C it)
  | .seq e, X, W, tg, i, ev, hn, h => by
    simp only [mI] at h
    exact p_seq (sE e X W i ev h).v
  | .rng1 e, X, W, tg, i, ev, hn, h => by
    simp only [mI] at h
    split at h
    · rename_i b q
      unfold vRng at q
      split at q
      · rename_i x xs q2
        split at q
        · rename_i g
          injection q with q
          subst q
          obtain rfl := of_decide_eq_true g
          obtain ⟨q1, q2, rfl, g1, g2, g3⟩ := vFn_eq q2
          exact p_rng1 ev g1 g3 (sE e X W b ev h).v
        · cases q
      · cases q
    · cases h
  | .rng2 e f, X, W, tg, i, ev, hn, h => by
    simp only [mI] at h
    split at h
    · rename_i b c q
      obtain ⟨h1, h2⟩ := andT h
      unfold vRng at q
      split at q
      · rename_i x xs q2
        split at q
        · rename_i g
          injection q with q
          subst q
          obtain rfl := of_decide_eq_true g
          obtain ⟨q1, q2, rfl, g1, g2, g3⟩ := vFn_eq q2
          exact p_rng2 ev g1 g3 (sE e X W b ev h1).v (sE f X W c ev h2).v
        · cases q
      · cases q
    · cases h
  | .rng3 e f g, X, W, tg, i, ev, hn, h => by simp [mI] at h
  | .enum e, X, W, tg, i, ev, hn, h => by simp [mI] at h
  | .keys e, X, W, tg, i, ev, hn, h => by cases hn
  | .vals e, X, W, tg, i, ev, hn, h => by cases hn
end
end
end KW
/-! KwStmt: the statements' readings. -/
namespace KW
open PySem (Str Addr Value Program World Heap Operator CmpOp binaryOp compareOp PyData Scope Const Env wpAny_bind wpAny_mono)
open PySem.Spec PyProof.Rows
open L2 (V Hp HO upd upd_same upd_ne upd_upd SqL SqT Rd RelV Mut TE TT TA TS TI TG PI PG WX PE PT PW PA PS PSs Cx Inv OpR UnR CallR MtR IxR SlR TruR VK EP XK rI0)
/-- what a run of statements ends in -/
def OutS (K : Fr) (W : WX) (M : MM) (H : Hp) (s : S) (r : R Flow) (D : L2.Ends) : Prop := M.lk = none ∧ match r with
  | .ok f s' => match f with
    | .next => ∀ M' H' σ', ExtS s.h.length M H s'.h.length M' H' → RT K M' H' σ' s' → D.nx σ' H'
    | .brk => ∀ M' H' σ', ExtS s.h.length M H s'.h.length M' H' → RT K M' H' σ' s' → D.bk σ' H'
    | .ret v => ∀ M' H' u, ExtS s.h.length M H s'.h.length M' H' → RH K M' H' s'.h → RR K s'.h.length M' H' v u → isPk v = false → D.rt u H'
  | .raise x s' => ∀ M' H' σ' cls d, ExtS s.h.length M H s'.h.length M' H' → RT K M' H' σ' s' → RX K s'.h.length M' H' x cls d → W cls d σ' H'
  | .stuck => False
def tS (K : Fr) (W : WX) (C : CallF) (sts : List St) : TS := fun D σ H => ∃ M s, RT K M H σ s ∧ OutS K W M H s (execs C sts s) D
def tS1 (K : Fr) (W : WX) (C : CallF) (st : St) : TS := fun D σ H => ∃ M s, RT K M H σ s ∧ OutS K W M H s (execS C st s) D
section
variable {K : Fr} {W : WX} {C : CallF} {M M1 : MM} {H H1 : Hp} {σ : L2.St} {s s1 : S} {D : L2.Ends}
theorem OutS.later {r : R Flow} (h : OutS K W M H s r D) (e : ExtS s.h.length M H s1.h.length M1 H1) : OutS K W M1 H1 s1 r D := by
  refine ⟨e.lk.trans h.1, ?_⟩
  have h := h.2
  cases r with
  | ok f s' =>
    cases f with
    | next => exact fun M' H' σ' a b => h M' H' σ' (e.trans a) b
    | brk => exact fun M' H' σ' a b => h M' H' σ' (e.trans a) b
    | ret v => exact fun M' H' u a b => h M' H' u (e.trans a) b
  | raise x s' => exact fun M' H' σ' c d a b => h M' H' σ' c d (e.trans a) b
  | stuck => exact h
/-- a first term, then the rest -/
theorem OutS.term {α δ : Type} {rel1 : Hp → MM → Hp → S → α → δ → Prop} {pu : Bool} {r : R α} {f : α → S → R Flow} {Q1 : δ → Hp → Prop} (h : OutS K W M H s (r.bind f) D)
    (k : ∀ x s' M' H' v, r = .ok x s' → Ext s.h.length M H s'.h.length M' H' → (pu = true → s' = s ∧ Grow M H M' H') → RT K M' H' σ s' → rel1 H M' H' s' x v → OutS K W M' H' s' (f x s') D → Q1 v H') : OutR K W rel1 M H σ s pu r Q1 := by
  refine ⟨fun z => (z h.1).elim, ?_⟩
  cases r with
  | ok x s' => exact fun M' H' v e p rt rl => k x s' M' H' v rfl e p rt rl (OutS.later (show OutS K W M H s (f x s') D from h) e.toS)
  | raise x s' => exact fun M' H' c d e rt rx => h.2 M' H' σ c d e.toS rt rx
  | stuck => exact h.2
theorem t_asgn {i : Nat} {e : E} (h : tS1 K W C (.asgn i e) D σ H) : L2.tAsg (tE K W C e) (L2.gName i) D σ H := by
  obtain ⟨M, s, rt, h⟩ := h
  refine ⟨M, s, rt, ?_⟩
  simp only [execS] at h
  refine h.term fun x s1 M1 H1 v hx e1 p1 rt1 rl1 h1 => ?_
  cases x with
  | val d =>
    cases rl1.1 with
    | val r =>
      obtain ⟨t1, t2⟩ := rt1.asgnV (j := i) r
      exact h1.2 _ _ _ t2 t1
  | own c =>
    obtain ⟨rr, fr⟩ := rl1
    cases rr with
    | own hw hc =>
      obtain ⟨t1, t2⟩ := rt1.asgnO (j := i) hw hc
      exact h1.2 _ _ _ t2 t1
  | pk p c => exact h1.2.elim
theorem t_drop {e : E} (h : tS1 K W C (.expr e) D σ H) : L2.tDrop (tE K W C e) D σ H := by
  obtain ⟨M, s, rt, h⟩ := h
  refine ⟨M, s, rt, ?_⟩
  simp only [execS] at h
  exact h.term fun x s1 M1 H1 v hx e1 p1 rt1 rl1 h1 => h1.2 M1 H1 σ .refl rt1
theorem t_ret {e : E} (h : tS1 K W C (.ret e) D σ H) : L2.tRet (tE K W C e) D σ H := by
  obtain ⟨M, s, rt, h⟩ := h
  refine ⟨M, s, rt, ?_⟩
  simp only [execS] at h
  refine h.term fun x s1 M1 H1 v hx e1 p1 rt1 rl1 h1 => ?_
  cases x with
  | val d => exact h1.2 M1 H1 v .refl rt1.hp rl1.1 rfl
  | own c => exact h1.2 M1 H1 v .refl rt1.hp rl1.1 rfl
  | pk p c =>
    cases p with
    | slot j =>
      cases rl1.1 with
      | @pk _ a _ hw hc =>
        have ne : ∀ b l, M1.who b = some l → l ≠ .pl (.slot j) → b ≠ a := fun b l q h z => by rw [z, hw] at q; injection q with q; exact h q.symm
        have nn : ∀ b, M1.who b = none → b ≠ a := fun b q z => by rw [z, hw] at q; cases q
        have kp : Keep s1.h.length M1 H1 s1.h.length (M1.set a (some .tmp)) H1 := ⟨rt1.hp.wf, fun b o q z => ⟨q, by rw [MM.set_ne (nn b z)]; exact z⟩, fun _ _ => rfl, Nat.le_refl _⟩
        refine h1.2 (M1.set a (some .tmp)) H1 (.ref a) ⟨fun b o q p => ⟨q, ?_⟩, fun _ q => q, fun _ _ => rfl, Nat.le_refl _, fun b z => ?_, rfl⟩ ?_ (.own MM.set_same (hc.mono kp rfl)) rfl
        · rw [MM.set_ne fun z => ?_]
          rw [z, hw] at p
          rcases p with p | p <;> cases p
        · by_cases q : b = a
          · subst q; rw [hw]; exact .inl rfl
          · rw [MM.set_ne q] at z; exact .inl z
        · refine rt1.hp.relab rfl (fun b l q => ?_) (fun b c l h1 h2 eb ec => ?_) (fun b q _ => by rw [MM.set_ne (nn b q)]; exact q) fun b l q h1 h2 => ?_
          · by_cases z : b = a
            · subst z; exact rt1.hp.wf b _ hw
            · rw [MM.set_ne z] at q; exact rt1.hp.wf b l q
          · by_cases zb : b = a
            · subst zb; rw [MM.set_same] at eb; injection eb with eb; exact absurd eb.symm h1
            · by_cases zc : c = a
              · subst zc; rw [MM.set_same] at ec; injection ec with ec; exact absurd ec.symm h1
              · rw [MM.set_ne zb] at eb; rw [MM.set_ne zc] at ec; exact rt1.hp.uq b c l h1 h2 eb ec
          · rw [MM.set_ne (ne b l q (by intro z; rw [z] at h1; cases h1))]; exact q
    | fld _ _ => exact h1.2.elim
    | ent _ _ => exact h1.2.elim
theorem t_retN (h : tS1 K W C .retN D σ H) : L2.tRetN D σ H := by
  obtain ⟨M, s, rt, h⟩ := h
  exact h.2 M H .non .refl rt.hp (.val .non) rfl
theorem t_ite {c : E} {a b : List St} (h : tS1 K W C (.ite c a b) D σ H) : L2.tIfS (tT K W C c) (tS K W C a) (tS K W C b) D σ H := by
  obtain ⟨M, s, rt, h⟩ := h
  refine ⟨M, s, rt, ?_⟩
  simp only [execS] at h
  refine h.term (pu := pure c) fun x s1 M1 H1 v hx e1 p1 rt1 rl1 h1 => ?_
  cases rl1
  cases x with
  | true => exact ⟨M1, s1, rt1, h1⟩
  | false => exact ⟨M1, s1, rt1, h1⟩
theorem t_pas (h : tS1 K W C .pas D σ H) : L2.tNext D σ H := by
  obtain ⟨M, s, rt, h⟩ := h
  exact h.2 M H σ .refl rt
theorem t_brk (h : tS1 K W C .brk D σ H) : L2.tBreak D σ H := by
  obtain ⟨M, s, rt, h⟩ := h
  exact h.2 M H σ .refl rt
theorem t_snil (h : tS K W C [] D σ H) : L2.tNext D σ H := by
  obtain ⟨M, s, rt, h⟩ := h
  exact h.2 M H σ .refl rt
theorem t_scons {st : St} {r : List St} (h : tS K W C (st :: r) D σ H) : L2.tSeq (tS1 K W C st) (tS K W C r) D σ H := by
  obtain ⟨M, s, rt, h⟩ := h
  refine ⟨M, s, rt, h.1, ?_⟩
  simp only [execs] at h
  cases q : execS C st s with
  | stuck => rw [q] at h; exact h.2
  | raise x s' => rw [q] at h; exact h.2
  | ok f s' =>
    rw [q, bind_ok] at h
    cases f with
    | next => exact fun M' H' σ' e rt' => ⟨M', s', rt', OutS.later (show OutS K W M H s (execs C r s') D from h) e⟩
    | brk => exact h.2
    | ret v => exact h.2
/-- while -/
theorem t_whil {c : E} {b : List St} (h : tS1 K W C (.whil c b) D σ H) : L2.tWhile (tT K W C c) (tS K W C b) D σ H := by
  obtain ⟨M, s, rt, h⟩ := h
  refine ⟨fun m σ H => ∃ M s, RT K M H σ s ∧ OutS K W M H s (whileLoop (fun s => isTruth (evalE C c s)) (fun s => execs C b s) m s) D, ⟨wFuel, M, s, rt, by simp only [execS] at h; exact h⟩, ?_⟩
  clear h rt
  rintro m σ H ⟨M, s, rt, h⟩
  cases m with
  | zero => exact h.2.elim
  | succ m =>
    simp only [whileLoop] at h
    refine ⟨M, s, rt, h.term (pu := pure c) fun x s1 M1 H1 v hx e1 p1 rt1 rl1 h1 => ?_⟩
    cases rl1
    cases x with
    | false => exact h1.2 M1 H1 σ .refl rt1
    | true =>
      rw [if_pos rfl] at h1
      rw [if_pos rfl]
      refine ⟨_, fun σ' H' w => ⟨m, Nat.lt_succ_self m, w⟩, M1, s1, rt1, h1.1, ?_⟩
      cases q : execs C b s1 with
      | stuck => rw [q] at h1; exact h1.2
      | raise y s2 => rw [q] at h1; exact h1.2
      | ok f s2 =>
        rw [q, bind_ok] at h1
        cases f with
        | next => exact fun M' H' σ' e rt' => ⟨M', s2, rt', OutS.later (show OutS K W M1 H1 s1 (whileLoop _ _ m s2) D from h1) e⟩
        | brk => exact h1.2
        | ret v => exact h1.2
end
end KW
/-! KwStmt2: for, targets, fields, entries. -/
namespace KW
open PySem (Str Addr Value Program World Heap Operator CmpOp binaryOp compareOp PyData Scope Const Env wpAny_bind wpAny_mono)
open PySem.Spec PyProof.Rows
open L2 (V Hp HO upd upd_same upd_ne upd_upd SqL SqT Rd RelV Mut TE TT TA TS TI TG PI PG WX PE PT PW PA PS PSs Cx Inv OpR UnR CallR MtR IxR SlR TruR VK EP XK rI0)
/-- what is new is let be for good -/
def MM.still (M : MM) : MM := { M with who := fun a => if M.who a = some .tmp then none else M.who a }
section
variable {K : Fr} {W : WX} {C : CallF} {M M1 : MM} {H H1 : Hp} {σ : L2.St} {s s1 : S} {D : L2.Ends}
theorem still_of {a : Addr} (h : M.who a ≠ some .tmp) : M.still.who a = M.who a := by simp [MM.still, h]
theorem still_at {a : Addr} (h : M.who a = some .tmp) : M.still.who a = none := by simp [MM.still, h]
theorem still_inv {a : Addr} {l : Lb} (h : M.still.who a = some l) : M.who a = some l ∧ l ≠ .tmp := by
  by_cases e : M.who a = some .tmp
  · rw [still_at e] at h; cases h
  · rw [still_of e] at h
    exact ⟨h, fun z => e (by rw [h, z])⟩
theorem RT.still (r : RT K M H σ s) : RT K M.still H σ s ∧ ExtS s.h.length M H s.h.length M.still H ∧ Keep s.h.length M H s.h.length M.still H := by
  have kp : Keep s.h.length M H s.h.length M.still H := ⟨r.hp.wf, fun a o q z => ⟨q, by rw [still_of (by rw [z]; intro e; cases e)]; exact z⟩, fun _ _ => rfl, Nat.le_refl _⟩
  have hp : ∀ a l, M.who a = some l → l ≠ .tmp → M.still.who a = some l := fun a l q h => by rw [still_of (by rw [q]; intro z; injection z with z; exact h z)]; exact q
  refine ⟨⟨r.hp.relab rfl (fun a l q => r.hp.wf a l (still_inv q).1) (fun a b l h1 h2 ea eb => r.hp.uq a b l h1 h2 (still_inv ea).1 (still_inv eb).1) (fun a q _ => by rw [still_of (by rw [q]; intro e; cases e)]; exact q)
    fun a l q h1 _ => hp a l q (by intro z; subst z; cases h1), r.len, fun j sv q => ?_⟩, ⟨fun a o q p => ⟨q, ?_⟩, fun _ q => q, fun _ _ => rfl, Nat.le_refl _, fun a h => ?_, rfl⟩, kp⟩
  · obtain ⟨v, h1, h2⟩ := r.sl j sv q
    exact ⟨v, h1, h2.mono kp fun b hb => ⟨hp b _ hb (by intro z; cases z), rfl⟩⟩
  · exact still_of (by rcases p with p | p <;> rw [p] <;> intro z <;> cases z)
  · cases q : M.still.who a with
    | none => rw [q] at h; cases h
    | some l =>
      rw [q] at h
      rw [(still_inv q).1]
      exact .inl h
/-- a walk -/
theorem for_core {is : List Nat} {b : List St} {ds : List KW.D} {s0 : S} {J : L2.It} {w : Addr → Prop} (rt1 : RT K M1 H1 σ s0) (wk : Wk K J ds false s0.h.length M1 H1 w) (h : OutS K W M1 H1 s0 (forLoop is (fun s => execs C b s) ds s0) D) :
    ∃ W0 : Nat → Nat → L2.St → Hp → Prop, (∃ m, W0 0 m σ H1) ∧ ∀ i m σ H, W0 i m σ H →
      (J.stop i H ∧ D.nx σ H) ∨ (J.go i H ∧ ∃ N : L2.St → Hp → Prop, (∀ σ' H', N σ' H' → ∃ m', m' < m ∧ W0 (i + 1) m' σ' H') ∧ ∀ x H', J.yld i H x H' → tG K is x σ H' fun σ2 H2 => tS K W C b { D with nx := N, ct := N, bk := D.nx } σ2 H2) := by
  obtain ⟨rt2, e2, k2⟩ := rt1.still
  have wn : ∀ b, w b → H1 b ≠ none ∧ (M1.still.who b = none ∨ M1.still.who b = some .oth) := fun b wb => by
    obtain ⟨g1, g2⟩ := wk.at_ b wb
    refine ⟨g1, ?_⟩
    rcases g2 rfl with p | p | p
    · exact .inl (by rw [still_of (by rw [p]; intro z; cases z)]; exact p)
    · exact .inl (still_at p)
    · exact .inr (by rw [still_of (by rw [p]; intro z; cases z)]; exact p)
  have h := OutS.later h e2
  let Pv : Nat → L2.St → Hp → Prop := fun i σ' H' => ∃ M' s', RT K M' H' σ' s' ∧ ExtS s0.h.length M1.still H1 s'.h.length M' H' ∧ OutS K W M' H' s' (forLoop is (fun s => execs C b s) (ds.drop i) s') D
  have wat : ∀ {n' M' H'}, ExtS s0.h.length M1.still H1 n' M' H' → ∀ b, w b → H' b = H1 b := fun {n' M' H'} ex b wb => by
    obtain ⟨g1, g2⟩ := wn b wb
    cases z : H1 b with
    | none => exact absurd z g1
    | some o => exact (ex.keep b o z g2).1
  refine ⟨fun i m σ' H' => m = ds.length - i ∧ i ≤ ds.length ∧ Pv i σ' H', ⟨ds.length, by simp, Nat.zero_le _, M1.still, s0, rt2, .refl, by rw [List.drop_zero]; exact h⟩, ?_⟩
  rintro i m σ' H' ⟨rfl, hle, M', s', rt', ex, h'⟩
  by_cases hlt : i < ds.length
  · refine .inr ⟨wk.go i H' hlt (wat ex), fun σ2 H2 => Pv (i + 1) σ2 H2, fun σ2 H2 p => ⟨ds.length - (i + 1), by omega, rfl, hlt, p⟩, fun x H2 hy => ?_⟩
    have kp : Keep s0.h.length M1 H1 s'.h.length M' H' := by
      have a := ex.kept rt2.hp.wf
      refine ⟨rt1.hp.wf, fun c o z y => a.k c o z ?_, fun j hj => (a.loc j hj), a.le⟩
      rw [still_of (by rw [y]; intro e; cases e)]; exact y
    obtain ⟨M2, d, hd, g2, rt3, rd3⟩ := wk.yld i M' H' _ _ x H2 hlt rt' kp (wat ex) hy
    rw [List.drop_eq_getElem_cons hlt] at h'
    have ed : ds[i] = d := by rw [List.getElem?_eq_getElem hlt] at hd; exact Option.some.inj hd
    rw [ed] at h'
    simp only [forLoop] at h'
    cases hb : bindT is d s' with
    | none => rw [hb] at h'; exact h'.2.elim
    | some s3 =>
      rw [hb] at h'
      refine ⟨M2, d, s', s3, rt3, rd3, hb, fun M3 σ3 rt4 hh ex3 _ _ => ?_⟩
      have e4 : ExtS s'.h.length M' H' s3.h.length M3 H2 := by
        rw [hh]
        exact (g2.ext (n := s'.h.length)).toS.trans ex3.toS
      refine ⟨M3, s3, rt4, e4.lk.trans h'.1, ?_⟩
      have h' := OutS.later (s1 := s3) h' e4
      cases hf : execs C b s3 with
      | stuck => simp only [hf] at h'; exact h'.2
      | raise y s4 => simp only [hf] at h'; exact h'.2
      | ok f s4 =>
        simp only [hf, bind_ok] at h'
        cases f with
        | next => exact fun M5 H5 σ5 e5 rt5 => ⟨M5, s4, rt5, (ex.trans e4).trans e5, OutS.later (show OutS K W M3 H2 s3 (forLoop is _ (ds.drop (i + 1)) s4) D from h') e5⟩
        | brk => exact h'.2
        | ret v => exact h'.2
  · have ei : i = ds.length := by omega
    subst ei
    refine .inl ⟨wk.stop H' (wat ex), ?_⟩
    rw [List.drop_length] at h'
    exact h'.2 M' H' σ' .refl rt'
theorem t_forr {is : List Nat} {it : It} {b : List St} (hn : nk it = true) (h : tS1 K W C (.forr is it b) D σ H) : L2.tFor (tI K W C it) (tG K is) (tS K W C b) D σ H := by
  obtain ⟨M, s, rt, h⟩ := h
  have hk : isK it = false := by cases it <;> first | rfl | cases hn
  simp only [execS, hk, calmIf_false] at h
  refine ⟨M, s, h.1, rt, ?_⟩
  cases q : evalIt C it s with
  | stuck => rw [q] at h; exact h.2
  | raise x s1 => rw [q] at h; exact fun M' H' cls d e rt' rx => h.2 M' H' σ cls d e.toS rt' rx
  | ok p s0 =>
    obtain ⟨ds, mu⟩ := p
    rw [q, bind_ok] at h
    intro M1 H1 J w e1 rt1 wk
    cases mu with
    | true => exact h.2.elim
    | false => exact for_core rt1 wk (OutS.later (show OutS K W M H s (forLoop is (fun s => execs C b s) ds s0) D from h) e1.toS)
/-- while a dict is locked -/
def lkEnds (d : Addr) (o : PySem.Obj) (u : HO) (D : L2.Ends) : L2.Ends := ⟨fun σ' H' => H' d = some (.frz o u) ∧ D.nx σ' (upd H' d u), fun v H' => H' d = some (.frz o u) ∧ D.rt v (upd H' d u), fun σ' H' => H' d = some (.frz o u) ∧ D.bk σ' (upd H' d u), fun σ' H' => H' d = some (.frz o u) ∧ D.ct σ' (upd H' d u)⟩
theorem OutS.lock {d : Addr} {o : PySem.Obj} {gs : List (L2.Key × V)} {r : R Flow} (ra : H d = some (.dK gs)) (hw : M.who d = none) (h : OutS K W M H s r.calm D) : OutS K W M (upd H d (.frz o (.dK gs))) s r (lkEnds d o (.dK gs) D) := by
  refine ⟨h.1, ?_⟩
  have h2 := h.2
  have ext : ∀ {n' M' H'}, ExtS s.h.length M (upd H d (.frz o (.dK gs))) n' M' H' → H' d = some (.frz o (.dK gs)) ∧ ExtS s.h.length M H n' M' (upd H' d (.dK gs)) := fun {n' M' H'} e => by
    refine ⟨(e.keep d _ upd_same (.inl hw)).1, fun b o hb pb => ?_, fun b hb => ?_, e.loc, e.le, fun b hb => ?_, e.lk⟩
    · by_cases eb : b = d
      · subst eb
        rw [ra] at hb; cases hb
        exact ⟨upd_same, (e.keep b _ upd_same pb).2⟩
      · obtain ⟨k1, k2⟩ := e.keep b o (by rw [upd_ne eb]; exact hb) pb
        exact ⟨by rw [upd_ne eb]; exact k1, k2⟩
    · by_cases eb : b = d
      · subst eb; rw [upd_same] at hb; cases hb
      · rw [upd_ne eb] at hb
        have := e.dom b hb
        rw [upd_ne eb] at this
        exact this
    · rcases e.nl b hb with k | k
      · exact .inl k
      · by_cases eb : b = d
        · subst eb; rw [upd_same] at k; cases k
        · rw [upd_ne eb] at k; exact .inr k
  have wf : ∀ {M' : MM} {H' : Hp}, H' d = some (.frz o (.dK gs)) → (∀ a l, M'.who a = some l → Mx M'.lk a (H' a)) → ∀ a l, M'.who a = some l → Mx M'.lk a ((upd H' d (.dK gs)) a) := fun {M' H'} _ w b l q => by
    by_cases eb : b = d
    · subst eb; rw [upd_same]; exact .inl trivial
    · rw [upd_ne eb]; exact w b l q
  cases r with
  | stuck => exact h2
  | raise x s' => exact h2.elim
  | ok f s' =>
    cases f with
    | next => exact fun M' H' σ' e rt => ⟨(ext e).1, h2 M' _ σ' (ext e).2 (rt.sw (sw_unlock (ext e).1) rfl rfl (wf (ext e).1 rt.hp.wf))⟩
    | brk => exact fun M' H' σ' e rt => ⟨(ext e).1, h2 M' _ σ' (ext e).2 (rt.sw (sw_unlock (ext e).1) rfl rfl (wf (ext e).1 rt.hp.wf))⟩
    | ret v => exact fun M' H' u e rh rr pk => ⟨(ext e).1, h2 M' _ u (ext e).2 (rh.sw (sw_unlock (ext e).1) rfl rfl (wf (ext e).1 rh.wf)) (rr.sw (sw_unlock (ext e).1) rfl rfl) pk⟩
/-- for over the keys of a dict that nobody changes -/
theorem t_forKeys {G : Tabs} {X : Cx} {is : List Nat} {b : List St} {e0 : E} {p : Py} (hp : isPath e0 = true) (fl : ∀ c f, G.fl.contains (c, f) = true → L2.Cls X.K (cA X.K c) ∧ L2.NoAttr X.K (cA X.K c) (sst f)) (hm : mE G X.env.scope X.N e0 p = true) (h : tS1 X.K W C (.forr is (.keys e0) b) D σ H) :
    L2.tLock (L2.tFor (L2.iKeysM (pathT X.K e0)) (tG X.K is) (tS X.K W C b)) D σ H ∨ L2.tFor (L2.iKeysM (pathT X.K e0)) (tG X.K is) (tS X.K W C b) D σ H := by
  obtain ⟨M, s, rt, h⟩ := h
  simp only [execS, evalIt, isK, calmIf_true] at h
  cases q : evalE C e0 s with
  | stuck => rw [q] at h; exact h.2.elim
  | raise x s1 => exact (path_no hp q).elim
  | ok x s' =>
    obtain ⟨rfl, ⟨v, rr, pt⟩, nown⟩ := path_at rt hp fl hm q
    rw [q, bind_ok] at h
    cases hd : dctOf s'.h x with
    | none => rw [hd] at h; exact h.2.elim
    | some qd =>
      rw [hd] at h
      obtain ⟨a, gs, rfl, ra, ko, rg⟩ := dct_at rt rr hd
      simp only [Option.map_some, opt, bind_ok] at h
      cases hmu : muOf x with
      | true => rw [hmu] at h; exact h.2.elim
      | false =>
        rw [hmu] at h
        have hw : M.who a = none := by
          cases rr with
          | own _ _ => exact absurd rfl (nown _)
          | pk _ _ => cases hmu
          | val r => cases r with
            | dct _ hw _ _ _ => exact hw
            | ref _ => cases hmu
            | _ => cases hd
        have h : OutS X.K W M H s' (forLoop is (fun s => execs C b s) (qd.2.map fun e => keyD e.1) s').calm D := h
        have lk := h.1
        rcases ra with ra | ⟨od, ra⟩
        · left
          refine ⟨a, .dK gs, ra, trivial, fun od => ?_⟩
          refine pt _ _ (sw_lock ra) ⟨a, od, gs, rfl, upd_same, ?_⟩
          have rt1 : RT X.K M (upd H a (.frz od (.dK gs))) σ s' := by
            refine rt.sw (sw_lock ra) rfl rfl fun b l hb => ?_
            by_cases eb : b = a
            · subst eb; rw [hw] at hb; cases hb
            · rw [upd_ne eb]; exact rt.hp.wf b l hb
          exact for_core (D := lkEnds a od (.dK gs) D) rt1 (wk_keys upd_same ko rg fun _ => .inl hw) (h.lock ra hw)
        · right
          refine pt _ _ .refl ⟨a, od, gs, rfl, ra, ?_⟩
          refine for_core rt (wk_keys ra ko rg fun _ => .inl hw) ⟨lk, ?_⟩
          have h2 := h.2
          cases z : forLoop is (fun s => execs C b s) (qd.2.map fun e => keyD e.1) s' with
          | stuck => rw [z] at h2; exact h2
          | raise x s1 => rw [z] at h2; exact h2.elim
          | ok f s1 => rw [z] at h2; exact h2
theorem ps_orLock {X : Cx} {e : PyS} {t : TS} (h : PS X e t) : PS X e (fun D σ H => L2.tLock t D σ H ∨ t D σ H) := ⟨fun pins s σ H D I q => q.elim (fun q => (L2.ps_lock h).run pins s σ H D I q) (fun q => h.run pins s σ H D I q)⟩
/-- a, b = .. -/
theorem t_unp {is : List Nat} {e : E} (h : tS1 K W C (.unp is e) D σ H) : L2.tAsg (tD K W C e) (tG K is) D σ H := by
  obtain ⟨M, s, rt, h⟩ := h
  refine ⟨M, s, rt, ?_⟩
  simp only [execS] at h
  refine h.term fun d s1 M1 H1 v hx e1 p1 rt1 rl1 h1 => ?_
  cases hb : bindT is d s1 with
  | none => rw [hb] at h1; exact h1.2.elim
  | some s2 =>
    rw [hb] at h1
    refine ⟨M1, d, s1, s2, rt1, rl1, hb, fun M2 σ2 rt2 hh ex _ _ => h1.2 M2 H1 σ2 ?_ rt2⟩
    rw [hh]
    exact ex.toS
end
end KW
/-! KwStmt3: fields and entries are set. -/
namespace KW
open PySem (Str Addr Value Program World Heap Operator CmpOp binaryOp compareOp PyData Scope Const Env wpAny_bind wpAny_mono)
open PySem.Spec PyProof.Rows
open L2 (V Hp HO upd upd_same upd_ne upd_upd SqL SqT Rd RelV Mut TE TT TA TS TI TG PI PG WX PE PT PW PA PS PSs Cx Inv OpR UnR CallR MtR IxR SlR TruR VK EP XK rI0)
section
variable {K : Fr} {W : WX} {C : CallF} {M M' : MM} {H H' : Hp} {σ : L2.St} {s s1 : S} {D : L2.Ends} {n n' : Nat}
/-- place p is given to what stands at a (or to a plain value): the labels -/
structure Give (p : Pl) (M : MM) (H : Hp) (M' : MM) : Prop where
  loc : M'.loc = M.loc
  wf : ∀ b l, M'.who b = some l → ∃ l', M.who b = some l'
  lk : M'.lk = M.lk
  uq : ∀ b c l, l ≠ .tmp → l ≠ .oth → M'.who b = some l → M'.who c = some l → b = c
  no : ∀ b, M.who b = none → M'.who b = none
  oth : ∀ b, M.who b = some .oth → M'.who b = some .oth
  keep : ∀ b l, M.who b = some l → l ≠ .tmp → l ≠ .oth → l ≠ .pl p → M'.who b = some l
  nl : ∀ b, isLoc (M'.who b) = true → plIx p = none ∨ isLoc (M.who b) = true ∨ H b = none
theorem Give.drop (p : Pl) (uq : ∀ b c l, l ≠ .tmp → l ≠ .oth → M.who b = some l → M.who c = some l → b = c) : Give p M H (M.drop p) where
  loc := rfl
  wf := fun b l q => drop_some q
  lk := rfl
  uq := fun b c l h1 h2 eb ec => uq b c l h1 h2 (drop_inv eb h2) (drop_inv ec h2)
  no := fun b q => drop_none q
  oth := fun b q => by rw [drop_of (by rw [q]; intro z; cases z)]; exact q
  keep := fun b l q _ _ h3 => by rw [drop_of (by rw [q]; intro z; injection z with z; exact h3 z)]; exact q
  nl := fun b h => .inr (drop_nl b h)
theorem Give.own {p : Pl} {a : Addr} (ha : M.who a = some .tmp) (uq : ∀ b c l, l ≠ .tmp → l ≠ .oth → M.who b = some l → M.who c = some l → b = c) : Give p M H ((M.drop p).set a (some (.pl p))) := by
  have sn : ∀ {b}, b ≠ a → ((M.drop p).set a (some (.pl p))).who b = (M.drop p).who b := fun ne => MM.set_ne ne
  have no : ∀ b, ((M.drop p).set a (some (.pl p))).who b = some (.pl p) → b = a := fun b q => by
    by_cases z : b = a
    · exact z
    · rw [sn z] at q
      have := drop_inv q (by intro z; cases z)
      rw [drop_at this] at q
      cases q
  refine ⟨rfl, fun b l q => ?_, rfl, fun b c l h1 h2 eb ec => ?_, fun b q => ?_, fun b q => ?_, fun b l q h1 h2 h3 => ?_, fun b h => ?_⟩
  · by_cases z : b = a
    · subst z; exact ⟨_, ha⟩
    · rw [sn z] at q; exact drop_some q
  · by_cases el : l = .pl p
    · subst el; rw [no b eb, no c ec]
    · have f : ∀ c, ((M.drop p).set a (some (.pl p))).who c = some l → M.who c = some l := fun c q => by
        by_cases z : c = a
        · subst z; rw [MM.set_same] at q; injection q with q; exact absurd q.symm el
        · rw [sn z] at q; exact drop_inv q h2
      exact uq b c l h1 h2 (f _ eb) (f _ ec)
  · rw [sn (fun z => by rw [z, ha] at q; cases q)]; exact drop_none q
  · rw [sn (fun z => by rw [z, ha] at q; cases q), drop_of (by rw [q]; intro z; cases z)]; exact q
  · rw [sn (fun z => by rw [z, ha] at q; injection q with q; exact h1 q.symm), drop_of (by rw [q]; intro z; injection z with z; exact h3 z)]; exact q
  · by_cases z : b = a
    · subst z; rw [ha]; exact .inr (.inl rfl)
    · rw [sn z] at h; exact .inr (drop_nl b h)
/-- a cell is written, one of its places is given -/
theorem RT.wrPlace (r : RT K M H σ s) {p : Pl} {i : Nat} {c c' : Cell} {o : HO} (hpi : plIx p = some i) (e : s.h[i]? = some c) (hm : Mut (some o)) (g : Give p M H M') (rc : Keep s.h.length M H s.h.length M' (upd H (M.loc i) o) → RCell K s.h.length M' (upd H (M.loc i) o) i c') :
    RT K M' (upd H (M.loc i) o) σ { s with h := s.h.set i c' } ∧ ExtS s.h.length M H (s.h.set i c').length M' (upd H (M.loc i) o) := by
  have hi := (List.getElem?_eq_some_iff.mp e).1
  have hw := r.hp.lb i hi
  have nb : ∀ b, M.who b ≠ some (.cell i) → (upd H (M.loc i) o) b = H b := fun b hb => upd_ne fun z => hb (by rw [z]; exact hw)
  have kp : Keep s.h.length M H s.h.length M' (upd H (M.loc i) o) := ⟨r.hp.wf, fun b o' q z => ⟨by rw [nb b (by rw [z]; intro y; cases y)]; exact q, g.no b z⟩, fun _ _ => by rw [g.loc], Nat.le_refl _⟩
  have rc := rc kp
  have lb : ∀ j, j < s.h.length → M'.who (M'.loc j) = some (.cell j) := fun j hj => by
    rw [g.loc]
    exact g.keep _ _ (r.hp.lb j hj) (by intro z; cases z) (by intro z; cases z) (by intro z; cases z)
  refine ⟨⟨⟨fun b l q => ?_, ?_, g.uq, fun i' c2 q => ?_⟩, r.len, fun j sv q => ?_⟩, fun b o' q pr => ?_, fun b q => ?_, fun _ _ => by rw [g.loc], by rw [List.length_set]; exact Nat.le_refl _, fun b h => ?_, g.lk⟩
  · obtain ⟨l', q'⟩ := g.wf b l q
    by_cases z : b = M.loc i
    · subst z; rw [upd_same]; exact .inl hm
    · rw [upd_ne z, g.lk]; exact r.hp.wf b l' q'
  · simpa using lb
  · have q : (s.h.set i c')[i']? = _ := q
    show RCell K (s.h.set i c').length _ _ _ _
    rw [List.length_set]
    by_cases ei : i = i'
    · subst ei
      rw [List.getElem?_set_self hi] at q
      injection q with q
      subst q
      exact rc
    · rw [List.getElem?_set_ne ei] at q
      have hi' := (List.getElem?_eq_some_iff.mp q).1
      refine (r.hp.cell i' c2 q).keep kp hi' (nb _ (by rw [r.hp.lb i' hi']; intro z; injection z with z; injection z with z; exact ei z.symm)) fun p' hp' b hb => ⟨?_, nb b (by rw [hb]; intro z; cases z)⟩
      exact g.keep b _ hb (by intro z; cases z) (by intro z; cases z) (by intro z; injection z with z; subst z; rw [hpi] at hp'; injection hp' with hp'; exact ei hp')
  · obtain ⟨v, h1, h2⟩ := r.sl j sv q
    refine ⟨v, h1, ?_⟩
    show RS K (s.h.set i c').length _ _ _ _ _
    rw [List.length_set]
    exact h2.mono kp fun b hb => ⟨g.keep b _ hb (by intro z; cases z) (by intro z; cases z) (by intro z; injection z with z; subst z; cases hpi), nb b (by rw [hb]; intro z; cases z)⟩
  · rcases pr with pr | pr
    · exact ⟨by rw [nb b (by rw [pr]; intro z; cases z)]; exact q, (g.no b pr).trans pr.symm⟩
    · exact ⟨by rw [nb b (by rw [pr]; intro z; cases z)]; exact q, (g.oth b pr).trans pr.symm⟩
  · by_cases z : b = M.loc i
    · subst z; rw [upd_same] at q; cases q
    · rw [upd_ne z] at q; exact q
  · rcases g.nl b h with z | z
    · rw [hpi] at z; cases z
    · exact z
theorem RFs.setF {i : Nat} {f : String} {sv : SV} {v : V} (kp : Keep n M H n' M' H') (hp : ∀ q, q ≠ .fld i f → plIx q = some i → ∀ b, M.who b = some (.pl q) → M'.who b = some (.pl q) ∧ H' b = H b) (rs : RS K n' M' H' (.fld i f) sv v) {fs : List (String × SV)} {gs : List (Str × V)} (r : RFs K n M H i fs gs) :
    (fs.map (·.1)).Nodup → RFs K n' M' H' i (fput f sv fs) (L2.putF (sst f) v gs) := by
  induction r with
  | nil => intro _; exact .cons rs .nil
  | @cons x sv0 v0 fs gs ra rb ih =>
    intro hn
    have hn2 := List.nodup_cons.mp (show (x :: fs.map (·.1)).Nodup from hn)
    unfold fput L2.putF
    by_cases ef : x = f
    · subst ef
      rw [if_pos rfl, if_pos rfl]
      refine .cons rs (RFs.mono kp (fun f' hf' b hb => hp _ (fun z => ?_) rfl b hb) rb)
      injection z with _ z
      subst z
      exact hn2.1 hf'
    · rw [if_neg ef, if_neg fun z => ef (sst_inj z)]
      refine .cons (ra.mono kp (fun b hb => hp _ (fun z => ?_) rfl b hb)) (ih hn2.2)
      injection z with _ z
      exact ef z
theorem fput_nodup {α : Type} {f : String} {v : α} : ∀ {fs : List (String × α)}, (fs.map (·.1)).Nodup → ((fput f v fs).map (·.1)).Nodup ∧ ∀ g ∈ (fput f v fs).map (·.1), g = f ∨ g ∈ fs.map (·.1)
  | [], _ => ⟨by simp [fput], fun g h => by simp [fput] at h; exact .inl h⟩
  | (x, y) :: r, h => by
    have hn2 := List.nodup_cons.mp (show (x :: r.map (·.1)).Nodup from h)
    obtain ⟨i1, i2⟩ := fput_nodup (f := f) (v := v) hn2.2
    unfold fput
    by_cases e : x = f
    · rw [if_pos e]
      subst e
      exact ⟨h, fun g hg => .inr hg⟩
    · rw [if_neg e]
      refine ⟨List.nodup_cons.mpr ⟨fun z => ?_, i1⟩, fun g hg => ?_⟩
      · rcases i2 x z with z | z
        · exact e z
        · exact hn2.1 z
      · rcases List.mem_cons.mp (show g ∈ x :: (fput f v r).map (·.1) from hg) with z | z
        · exact .inr (by rw [z]; exact List.mem_cons_self)
        · exact (i2 g z).imp id fun z => List.mem_cons_of_mem _ z
/-- o.f = v -/
theorem t_fset {cs : List String} {o e : E} {f : String} (hc : ∀ c, cs.contains c = true → L2.Cls K (cA K c) ∧ L2.NoAttr K (cA K c) (sst f)) (h : tS1 K W C (.fset cs o f e) D σ H) : L2.sFld K (tE K W C o) (tE K W C e) (sst f) D σ H := by
  obtain ⟨M, s, rt, h⟩ := h
  refine ⟨M, s, rt, ?_⟩
  simp only [execS] at h
  refine h.term fun v s1 M1 H1 y hy e1 p1 rt1 rl1 h1 => ?_
  refine ⟨M1, s1, rt1, h1.term fun x s2 M2 H2 u hx e2 p2 rt2 rl2 h2 => ?_⟩
  split at h2
  · rename_i i sv ev
    split at h2
    · rename_i c fs q
      split at h2
      · rename_i gg
        cases rl2.1 with
        | val rd =>
          cases rd with
          | ref hi =>
            cases rt2.hp.cell i _ q with
            | @ins _ _ gs dx c1 c2 c3 =>
              obtain ⟨k1, k2⟩ := hc c gg.1
              have lenfs : ∀ {fs : List (String × SV)} {gs : List (Str × V)}, RFs K s2.h.length M2 H2 i fs gs → fs.length = gs.length := fun r => by
                induction r with
                | nil => rfl
                | cons _ _ ih => rw [List.length_cons, List.length_cons, ih]
              refine ⟨_, _, dx, gs, rfl, c1, k1, k2, by rw [← lenfs c3]; exact gg.2, ?_⟩
              have fin : ∀ M', Give (.fld i f) M2 H2 M' → (Keep s2.h.length M2 H2 s2.h.length M' (upd H2 (M2.loc i) (.ins (cA K c) dx (L2.putF (sst f) y gs))) → RS K s2.h.length M' (upd H2 (M2.loc i) (.ins (cA K c) dx (L2.putF (sst f) y gs))) (.fld i f) sv y) →
                  D.nx σ (upd H2 (M2.loc i) (.ins (cA K c) dx (L2.putF (sst f) y gs))) := fun M' g rs => by
                have hw := rt2.hp.lb i hi
                obtain ⟨t1, t2⟩ := rt2.wrPlace (p := .fld i f) (o := .ins (cA K c) dx (L2.putF (sst f) y gs)) (c' := .ins c (fput f sv fs)) rfl q trivial g fun kp => by
                  refine .ins (by rw [g.loc, upd_same]) (fput_nodup c2).1 (c3.setF kp (fun q' nq _ b hb => ⟨?_, upd_ne fun z => ?_⟩) (rs kp) c2)
                  · exact g.keep b _ hb (by intro z; cases z) (by intro z; cases z) (fun z => nq (by injection z))
                  · rw [z, hw] at hb; cases hb
                exact h2.2 M' _ σ t2 t1
              cases v with
              | pk p c => cases ev
              | val d =>
                injection ev with ev
                subst ev
                refine fin _ (.drop _ rt2.hp.uq) fun kp => .val ?_
                have r2 := rl1.1.mono rt1.hp.wf e2 rfl
                cases r2 with
                | val r => exact r.mono kp
              | own c0 =>
                injection ev with ev
                subst ev
                have r2 := rl1.1.mono rt1.hp.wf e2 rfl
                cases r2 with
                | @own _ a hw0 hc0 =>
                  refine fin _ (.own hw0 rt2.hp.uq) fun kp => .own MM.set_same (hc0.mono kp (upd_ne fun z => ?_))
                  rw [z, rt2.hp.lb i hi] at hw0
                  cases hw0
      · exact h2.2.elim
    · exact h2.2.elim
  · exact h2.2.elim
end
end KW
/-! KwISet: an entry is set. -/
namespace KW
open PySem (Str Addr Value Program World Heap Operator CmpOp binaryOp compareOp PyData Scope Const Env wpAny_bind wpAny_mono)
open PySem.Spec PyProof.Rows
open L2 (V Hp HO upd upd_same upd_ne upd_upd SqL SqT Rd RelV Mut TE TT TA TS TI TG PI PG WX PE PT PW PA PS PSs Cx Inv OpR UnR CallR MtR IxR SlR TruR VK EP XK rI0)
section
variable {K : Fr} {W : WX} {C : CallF} {M M' : MM} {H H' : Hp} {σ : L2.St} {s s1 : S} {D : L2.Ends}
theorem t_iset {o k e : E} (h : tS1 K W C (.iset o k e) D σ H) : L2.sDPut (tE K W C o) (tD K W C k) (tE K W C e) D σ H := by
  obtain ⟨M, s, rt, h⟩ := h
  simp only [execS] at h
  refine ⟨M, s, rt, h.term fun vx s1 M1 H1 v hv e1 p1 rt1 rl1 h1 => ?_⟩
  by_cases gv : isPk vx = true
  · rw [if_pos gv] at h1; exact h1.2.elim
  rw [if_neg gv] at h1
  have gv : isPk vx = false := by simpa using gv
  refine ⟨M1, s1, rt1, h1.term fun x s2 M2 H2 u hx e2 p2 rt2 rl2 h2 => ?_⟩
  by_cases gx : (isPk x && !pure k) = true
  · rw [if_pos gx] at h2; exact h2.2.elim
  rw [if_neg gx] at h2
  refine ⟨M2, s2, rt2, h2.term fun kd s3 M3 H3 y hk e3 p3 rt3 rl3 h3 => ?_⟩
  have lk := h3.1
  have rv : RR K s3.h.length M3 H3 vx v := (rl1.1.mono rt1.hp.wf e2 gv).mono rt2.hp.wf e3 gv
  have rx : RR K s3.h.length M3 H3 x u := by
    cases q : isPk x with
    | false => exact rl2.1.mono rt2.hp.wf e3 q
    | true =>
      have pb : pure k = true := by cases z : pure k with
        | true => rfl
        | false => exact absurd (by rw [q, z]; rfl) gx
      obtain ⟨es, gr⟩ := p3 pb
      rw [es]
      exact rl2.1.grow rt2.hp.wf gr
  cases x with
  | own c => simp only [runISet] at h3; exact h3.2.elim
  | pk p c =>
    simp only [runISet] at h3
    split at h3
    · rename_i kvs gp
      split at h3
      · rename_i k' d hk' hd'
        split at h3
        · rename_i s4 gq
          by_cases gl : kvs.length < sizeLine
          · rw [if_pos gl, bind_ok] at h3
            obtain ⟨M4, rt4, lk4, loc4, rd4, hp4, hn4, ho4, hl4, _⟩ := rr_D rv hd' rt3
            cases rx with
            | pk hw hc =>
              obtain ⟨a', w', rc⟩ := rt4.getPl gp
              obtain rfl := rt4.hp.uq _ _ _ (by intro z; cases z) (by intro z; cases z) w' (hp4 _ _ hw)
              obtain ⟨gs, r1, r2, r3⟩ := rc_rg rc
              have hH := rt4.mut (lk4.trans lk) w' r1
              obtain ⟨rfl, okk⟩ := key_ok rl3 hk'
              refine ⟨_, _, rfl, .inl ⟨gs, mkey k', hH, rfl, ?_, rfl⟩, ?_⟩
              · have := r3.len
                rw [sizeLine_is, ← this]
                simpa [plainEs] using gl
              · have kp := keep_upd (o := .dK (L2.putK gs (mkey k') v)) (n := s3.h.length) rt4.hp.wf w'
                have rcn : RC K s3.h.length M4 (upd H3 a' (.dK (L2.putK gs (mkey k') v))) (.dct (kput k' d kvs)) a' := by
                  refine rc_dct (.inl upd_same) (kput_ok okk r2) ?_
                  rw [plain_put]
                  have := (RG.mono (n' := s3.h.length) (M' := M4) (H' := upd H3 a' (.dK (L2.putK gs (mkey k') v))) (P' := fun _ sv w0 => RD K s3.h.length M4 (upd H3 a' (.dK (L2.putK gs (mkey k') v))) (unSV sv) w0) (fun _ _ _ p => RD.mono kp p) r3)
                  exact this.put (k := k') (sv := .val d) (rd4.mono kp) (by rw [plain_keys]; exact r2.nd)
                obtain ⟨t1, t2⟩ := rt4.wrPl (o := .dK (L2.putK gs (mkey k') v)) gp w' trivial rcn gq
                refine h3.2 M4 _ σ ?_ t1
                refine ⟨fun b o hb pb => ?_, t2.dom, fun i hi => by rw [loc4], t2.le, fun b z => ?_, lk4⟩
                · have pb4 : M4.who b = M3.who b := by
                    rcases pb with q | q
                    · rw [q]; exact hn4 b q
                    · rw [q]; exact ho4 b q
                  obtain ⟨q1, q2⟩ := t2.keep b o hb (by rw [pb4]; exact pb.elim .inl fun z => .inr (.inr z))
                  exact ⟨q1, pb4⟩
                · exact .inl (hl4 b z)
          · rw [if_neg gl] at h3; exact h3.2.elim
        · exact h3.2.elim
      · exact h3.2.elim
    · exact h3.2.elim
  | val dx =>
    cases dx with
    | ref i =>
      simp only [runISet] at h3
      split at h3
      · rename_i kvs q
        split at h3
        · rename_i k' sv hk' hsv
          by_cases gl : kvs.length < sizeLine
          · rw [if_pos gl, bind_ok] at h3
            cases rx with
            | val rd =>
              cases rd with
              | ref hi =>
                obtain ⟨rfl, okk⟩ := key_ok rl3 hk'
                cases rt3.hp.cell i _ q with
                | @dct _ gs c1 c2 c3 =>
                  have hw := rt3.hp.lb i hi
                  have hH := rt3.mut lk hw c1
                  refine ⟨_, _, rfl, .inl ⟨gs, mkey k', hH, rfl, ?_, rfl⟩, ?_⟩
                  · have := c3.rg.len
                    rw [sizeLine_is, ← this]
                    exact gl
                  · have fin : ∀ M', Give (.ent i k') M3 H3 M' → (Keep s3.h.length M3 H3 s3.h.length M' (upd H3 (M3.loc i) (.dK (L2.putK gs (mkey k') v))) → RS K s3.h.length M' (upd H3 (M3.loc i) (.dK (L2.putK gs (mkey k') v))) (.ent i k') sv v) →
                      D.nx σ (upd H3 (M3.loc i) (.dK (L2.putK gs (mkey k') v))) := fun M' g rs => by
                      obtain ⟨t1, t2⟩ := rt3.wrPlace (p := .ent i k') (o := .dK (L2.putK gs (mkey k') v)) (c' := .dct (kput k' sv kvs)) rfl q trivial g fun kp => by
                        refine .dct (by rw [g.loc]; exact .inl upd_same) (kput_ok okk c2) (c3.setE kp (fun q' nq _ b hb => ⟨?_, upd_ne fun z => ?_⟩) (rs kp) c2.nd)
                        · exact g.keep b _ hb (by intro z; cases z) (by intro z; cases z) (fun z => nq (by injection z))
                        · rw [z, hw] at hb; cases hb
                      exact h3.2 M' _ σ t2 t1
                    cases vx with
                    | pk p c => cases hsv
                    | val d =>
                      injection hsv with hsv
                      subst hsv
                      refine fin _ (.drop _ rt3.hp.uq) fun kp => .val ?_
                      cases rv with
                      | val r => exact r.mono kp
                    | own c0 =>
                      injection hsv with hsv
                      subst hsv
                      cases rv with
                      | @own _ a hw0 hc0 =>
                        refine fin _ (.own hw0 rt3.hp.uq) fun kp => .own MM.set_same (hc0.mono kp (upd_ne fun z => ?_))
                        rw [z, hw] at hw0
                        cases hw0
          · rw [if_neg gl] at h3; exact h3.2.elim
        · exact h3.2.elim
      · exact h3.2.elim
    | _ => simp only [runISet] at h3; exact h3.2.elim
end
end KW
set_option maxHeartbeats 2000000
/-! KwMS: statements that match. -/
namespace KW
open PySem (Str Addr Value Program World Heap Operator CmpOp binaryOp compareOp PyData Scope Const Env wpAny_bind wpAny_mono)
open PySem.Spec PyProof.Rows
open L2 (V Hp HO upd upd_same upd_ne upd_upd SqL SqT Rd RelV Mut TE TT TA TS TI TG PI PG WX PE PT PW PA PS PSs Cx Inv OpR UnR CallR MtR IxR SlR TruR VK EP XK rI0)
def noCompB : Py → Bool
  | .ListComp _ _ _ _ | .SetComp _ _ _ _ | .DictComp _ _ _ _ _ => false
  | _ => true
def noTupB : Py → Bool
  | .Tuple _ _ _ => false
  | _ => true
/-- one of two names that are stored is a cell -/
def cellT (sc : Scope) : Py → Bool
  | .Tuple [.Name x _, .Name y _] _ _ => decide (sc.names.lookup x = some .cell) || decide (sc.names.lookup y = some .cell)
  | _ => false
def isTupB : Py → Bool
  | .Tuple _ _ _ => true
  | _ => false
/-- a comprehension that goes to a name on its line -/
def swB (sc : Scope) (y : Str) (py : PySem.Pos) : Py → Bool
  | .ListComp _ _ scope pos => decide (py.line = pos.line) && (match sc.kind with
    | .function => true
    | _ => false) && !(scope.names.any fun (n, k) => n == y && (k == .local || k == .cell))
  | _ => false
def isCmp : E → Bool
  | .comp _ it _ _ => nk it
  | _ => false
/-- a written target of a statement -/
def tgtS (sc : Scope) (N : List Str) (is : List Nat) (t : Py) : Bool := match is, t with
  | [i], .Name x _ => decide (N[i]? = some x) && locB sc x
  | [i, j], .Tuple [.Name x _, .Name y _] _ _ => decide (N[i]? = some x) && locB sc x && (decide (N[j]? = some y) && locB sc y) && decide (i ≠ j)
  | _, _ => false
mutual
def mS (G : Tabs) (sc : Scope) (N : List Str) : St → PyS → Bool
  | .asgn i e, p => match p with
    | .Assign [.Name x q] v pos => decide (N[i]? = some x) && locB sc x && (noCompB v || ((isCmp e && decide (sc.names.lookup x = some .local) && swB sc x q v) || decide (sc.names.lookup x = some .cell))) && mE G sc N e v
    | _ => false
  | .unp is e, p => match p with
    | .Assign [t] v pos => tgtS sc N is t && isTupB t && noCompB v && (noTupB v || cellT sc t) && mE G sc N e v
    | _ => false
  | .fset cs o f e, p => match p with
    | .Assign [.Attribute b g q] v pos => decide (g = sst f) && (cs.all fun c => G.fl.contains (c, f)) && mE G sc N o b && mE G sc N e v
    | _ => false
  | .iset o k e, p => match p with
    | .Assign [.Subscript b i q] v pos => noSliceB i && mE G sc N o b && mE G sc N k i && mE G sc N e v
    | _ => false
  | .expr e, p => match p with
    | .Expr v pos => noCompB v && mE G sc N e v
    | _ => false
  | .ret e, p => match p with
    | .Return (some v) pos => mE G sc N e v
    | _ => false
  | .retN, p => match p with
    | .Return none pos => true
    | _ => false
  | .ite c a b, p => match p with
    | .If x y z pos => mE G sc N c x && mSs G sc N a y && mSs G sc N b z
    | _ => false
  | .whil c b, p => match p with
    | .While x y [] pos => mE G sc N c x && mSs G sc N b y
    | _ => false
  | .forr is it b, p => match p with
    | .For t i y [] pos => noSetB i && tgtS sc N is t && mI G sc N it i && mSs G sc N b y
    | _ => false
  | .brk, p => match p with
    | .Break pos => true
    | _ => false
  | .pas, p => match p with
    | .Pass pos => true
    | _ => false
  | .par is es, p => match is, p with
    | [i, j], .Assign [.Tuple [.Name x px, .Name y py] kt pt] (.Tuple [a, b] k2 pt2) pos => decide (N[i]? = some x) && decide (N[j]? = some y) && decide (i ≠ j) && decide (x ≠ y) && decide (sc.names.lookup x = some .local) && decide (sc.names.lookup y = some .local) &&
        (match sc.kind with
        | .function => true
        | _ => false) && decide (px.line = py.line) && [a, b].all noStarB && !([a, b].all (PySem.foldedForSure 8)) && !([a, b].all (PySem.constantsAlone 8)) && mEs G sc N es [a, b]
    | _, _ => false
  | _, _ => false
def mSs (G : Tabs) (sc : Scope) (N : List Str) : List St → List PyS → Bool
  | [], p => p.isEmpty
  | e :: es, p => match p with
    | x :: xs => mS G sc N e x && mSs G sc N es xs
    | [] => false
end
section
variable {G : Tabs} {X : Cx} {W : WX} {C : CallF}
theorem _root_.L2.PS.imp {X : Cx} {e : PyS} {t u : TS} (h : PS X e t) (k : ∀ D σ H, u D σ H → t D σ H) : PS X e u := ⟨fun pins s σ H D I q => h.run pins s σ H D I (k D σ H q)⟩
theorem _root_.L2.PSs.imp {X : Cx} {e : List PyS} {t u : TS} (h : PSs X e t) (k : ∀ D σ H, u D σ H → t D σ H) : PSs X e u := ⟨fun pins s σ H D I q => h.run pins s σ H D I (k D σ H q)⟩
theorem swn {v : Py} {t : Option Py} {l : Nat} {env : Env} (h : noCompB v = true) : PySem.swapsWith v t l env = Pure.pure false := by
  cases v <;> first | rfl | cases h
theorem sw_cellT {env : Env} {x y : Str} {px py pt : PySem.Pos} {kt : Nat} {v : Py} (h : env.scope.names.lookup x = some .cell ∨ env.scope.names.lookup y = some .cell) : PySem.swappedStores [.Tuple [.Name x px, .Name y py] kt pt] v env = Pure.pure none := by
  cases v <;> first | rfl | skip
  rename_i vs k2 pt2
  unfold PySem.swappedStores
  rcases h with h | h
  · have kx : env.kindOf x = some .cell := h
    simp [kx]
    intro _ _ _ h4
    exact absurd (Nat.le_trans (Nat.le_of_eq h4.symm) (List.length_filterMap_le _ _)) (show ¬ (2 ≤ 1) by decide)
  · have ky : env.kindOf y = some .cell := h
    simp [ky]
    intro _ _ _ h4
    exfalso
    rw [List.filterMap_cons] at h4
    split at h4
    · simp [List.filterMap_cons, ky] at h4
    · simp [List.filterMap_cons, ky] at h4
theorem p_iset {o k e : E} {b i v : Py} {q pos : PySem.Pos} (ev : Ev G X W C) (hs : noSliceB i = true) (ho : PE X b (tE X.K W C o)) (hk : PE X i (tE X.K W C k)) (he : PE X v (tE X.K W C e)) : PS X (.Assign [.Subscript b i q] v pos) (tS1 X.K W C (.iset o k e)) := by
  have hu := ev.hu
  refine (L2.ps_dput (by omega) ho (hk.imp fun _ _ _ q => t_D q) he ?_).imp fun _ _ _ q => t_iset q
  cases v <;> rfl
theorem locB_loc {sc : Scope} {x : Str} (h : locB sc x = true) : L2.Loc sc x := by
  unfold locB at h
  split at h
  · rename_i e; exact .inl e
  · rename_i e; exact .inr e
  · cases h
theorem p_tgtS {is : List Nat} {t : Py} (hfn : ∀ x, X.fn x = true) (hc : X.calm = true) (hN : X.N.Nodup) (h : tgtS X.env.scope X.N is t = true) : PG X t (tG X.K is) := by
  unfold tgtS at h
  split at h
  · rename_i i x p
    simp only [Bool.and_eq_true, decide_eq_true_eq] at h
    refine ⟨fun pins s σ H v u Q I r q => ?_⟩
    refine (L2.pg_name hN h.1 (locB_loc h.2) (.inl (hfn _))).run pins s σ H v u Q I r ?_
    obtain ⟨M, d, s0, s1, rt, rd, hb, q⟩ := q
    simp only [bindT] at hb
    injection hb with hb
    subst hb
    obtain ⟨t1, t2⟩ := rt.asgnE (j := i) rd
    exact q _ _ t1 rfl t2 (fun j hj => List.getElem?_set_ne fun z => hj (by simp [z])) (by simp)
  · rename_i i j x p y p2 k p3
    simp only [Bool.and_eq_true, decide_eq_true_eq] at h
    obtain ⟨⟨⟨h1, h2⟩, h3, h4⟩, h5⟩ := h
    refine ⟨fun pins s σ H v u Q I r q => ?_⟩
    refine (L2.pg_tup (n := 2) hc (L2.pgs_cons (L2.pg_name hN h1 (locB_loc h2) (.inl (hfn _))) (L2.pgs_cons (L2.pg_name hN h3 (locB_loc h4) (.inl (hfn _))) L2.pgs_nil))).run pins s σ H v u Q I r ?_
    obtain ⟨M, d, s0, s1, rt, rd, hb, q⟩ := q
    simp only [bindT] at hb
    split at hb
    · rename_i xs
      split at hb
      · rename_i hl
        injection hb with hb
        subst hb
        cases rd with
        | tup hq hs =>
          cases hs with
          | nil => cases hl
          | cons r1 hs =>
            cases hs with
            | nil => cases hl
            | cons r2 hs =>
              cases hs with
              | cons _ _ => simp at hl
              | nil =>
                obtain ⟨t1, t2⟩ := rt.asgnE (j := i) r1
                obtain ⟨u1, u2⟩ := t1.asgnE (j := j) (r2.mono (t2.kept rt.hp.wf))
                refine ⟨_, _, rfl, hq, rfl, _, _, rfl, ?_⟩
                refine ⟨_, _, rfl, rfl, ?_⟩
                refine q _ _ u1 rfl (t2.trans u2) (fun k hk => ?_) (by simp)
                rw [List.getElem?_set_ne (fun z => hk (by simp [z])), List.getElem?_set_ne (fun z => hk (by simp [z]))]
      · cases hb
    · cases hb
  · cases h
theorem sw_cell {v : Py} {x : Str} {q : PySem.Pos} {l : Nat} {env : Env} (h : env.scope.names.lookup x = some .cell) : PySem.swapsWith v (some (.Name x q)) l env = Pure.pure false := by
  have hk : env.kindOf x = some .cell := h
  unfold PySem.swapsWith
  have e : (PySem.NameKind.cell == PySem.NameKind.local) = false := rfl
  cases v <;> first | rfl | simp [hk, e]
/-- name = [..] -/
theorem p_setc {i : Nat} {x : Str} {q pos : PySem.Pos} {is : List Nat} {it : It} {cs : List E} {e : E} {p : Py} (ev : Ev G X W C) (hi : X.N[i]? = some x) (hx : X.env.scope.names.lookup x = some .local) (hsw : swB X.env.scope x q p = true) (hnk : nk it = true) (h : mE G X.env.scope X.N (.comp is it cs e) p = true) :
    PS X (.Assign [.Name x q] p pos) (tS1 X.K W C (.asgn i (.comp is it cs e))) := by
  simp only [mE] at h
  split at h
  · rename_i b i' fs s2 e0
    obtain ⟨h12, h3⟩ := andT h
    obtain ⟨h1, h2⟩ := andT h12
    unfold vComp at e0
    split at e0
    · rename_i b' t i'' fs' a scope pos'
      split at e0
      · rename_i g
        injection e0 with e0
        injection e0 with z1 e0
        injection e0 with z2 e0
        injection e0 with z3 z4
        subst z1 z2 z3 z4
        simp only [Bool.and_eq_true, decide_eq_true_eq] at g
        obtain ⟨⟨g1, g2⟩, g3⟩ := g
        subst g1
        unfold blkB at g3
        split at g3
        · rename_i own eo
          obtain ⟨g4, g5⟩ := andT g3
          have hix := own_ix eo
          have tgi : tgIs is := by
            unfold tgtB at g5
            split at g5
            · exact .inl ⟨_, rfl⟩
            · simp only [Bool.and_eq_true, decide_eq_true_eq] at g5
              exact .inr ⟨_, _, rfl, g5.2⟩
            · cases g5
          unfold swB at hsw
          simp only [Bool.and_eq_true, decide_eq_true_eq, Bool.not_eq_true'] at hsw
          obtain ⟨⟨w1, w2⟩, w3⟩ := hsw
          have wk : X.env.scope.kind = .function := by
            revert w2
            cases X.env.scope.kind <;> intro w2 <;> first | rfl | cases w2
          refine ((L2.ps_setLc (g := tG X.K is) (tt := tTs X.K C cs) (te := tD X.K noW C e) ev.calm ev.nd hi hx (L2.sw_true wk hx (by rw [w1]; exact beq_self_eq_true _) w3) (sI it X W _ _ ev hnk h1) (L2.blkOk_by g4) (fun s H D cl fp => ?_) (fun s H D cl fp => ?_) (fun s H D cl fp => ?_) (fold_set g2))).imp fun D σ H q => ?_
          · exact (p_tgt (X := X.blk s H scope (PySem.compEnvC scope cl D X.env) fp) ev.calm ev.nd g5).1
          · cases cs with
            | nil =>
              simp only [mC] at h2
              cases fs' with
              | nil => exact pts_none
              | cons _ _ => cases h2
            | cons c cs =>
              simp only [mC] at h2
              split at h2
              · obtain ⟨k1, k2⟩ := andT h2
                cases cs with
                | cons _ _ => cases k2
                | nil => exact pts_some (sE c _ _ _ ev.blk k1).t
              · cases h2
          · exact (sE e _ _ _ ev.blk h3).v.imp fun _ _ _ q => t_D q
          · rw [hix]
            have := t_asgn q
            exact t_comp tgi this
        · cases g3
      · cases e0
    · cases e0
  · cases h
theorem noStar_is {a : Py} (h : noStarB a = true) : (match a with
    | .Starred .. => true
    | _ => false) = false := by
  cases a <;> first | rfl | cases h
theorem par_sw {env : Env} {x y : Str} {px py pt pt2 : PySem.Pos} {kt k2 : Nat} {a b : Py} (hk : env.scope.kind = .function) (hx : env.scope.names.lookup x = some .local) (hy : env.scope.names.lookup y = some .local) (hne : x ≠ y) (hl : px.line = py.line) (hs : [a, b].all noStarB = true)
    (hf : ([a, b].all (PySem.foldedForSure 8)) = false) (hc : ([a, b].all (PySem.constantsAlone 8)) = false) : PySem.swappedStores [.Tuple [.Name x px, .Name y py] kt pt] (.Tuple [a, b] k2 pt2) env = Pure.pure (some [x, y]) := by
  have kx : env.kindOf x = some .local := hx
  have ky : env.kindOf y = some .local := hy
  have hb : env.blockKind = .function := by unfold PySem.Env.blockKind; rw [hk]; rfl
  have st := all_two hs
  have ne : (y == x) = false := by simpa using fun z => hne z.symm
  have ne2 : (x == y) = false := by simpa using hne
  unfold PySem.swappedStores
  simp only [hb, kx, ky, hf, hc, List.length_cons, List.length_nil, List.filterMap_cons, List.filterMap_nil, List.any_cons, List.any_nil, noStar_is st.1, noStar_is st.2, List.head?_cons, Option.map_some, Option.getD_some, PySem.Expr.pos, hl]
  simp [List.eraseDups_cons, ne, ne2]
  intro hz
  rcases hz with hz | hz
  · have z := st.1
    cases a <;> first | (cases hz; done) | (cases z; done)
  · have z := st.2
    cases b <;> first | (cases hz; done) | (cases z; done)
theorem t_par {K : Fr} {W : WX} {C : CallF} {σ : L2.St} {H : Hp} {D : L2.Ends} {i j : Nat} {es : List E} (h : tS1 K W C (.par [i, j] es) D σ H) : L2.tPar i j (tEs K W C es) D σ H := by
  obtain ⟨M, s, rt, h⟩ := h
  refine ⟨M, s, rt, ?_⟩
  simp only [execS] at h
  refine h.term fun ds s1 M1 H1 vs hx e1 p1 rt1 rl1 h1 => ?_
  by_cases g : ds.length = [i, j].length
  · rw [if_pos g] at h1
    cases rl1 with
    | nil => cases g
    | cons r1 rl1 =>
      cases rl1 with
      | nil => cases g
      | cons r2 rl1 =>
        cases rl1 with
        | cons _ _ => simp at g
        | nil =>
          obtain ⟨t1, t2⟩ := rt1.asgnV (j := i) r1
          obtain ⟨u1, u2⟩ := t1.asgnV (j := j) (r2.mono (t2.kept rt1.hp.wf))
          exact ⟨_, _, rfl, h1.2 _ _ _ (t2.trans u2) u1⟩
  · rw [if_neg g] at h1; exact h1.2.elim
mutual
theorem sS : ∀ (st : St) (p : PyS), Ev G X W C → (PySem.PassesOwn (PySem.model X.prog X.w) X.A X.env X.xe ∧ ∀ x, X.fn x = true) → mS G X.env.scope X.N st p = true → PS X p (tS1 X.K W C st)
  | .asgn i e, p, ev, po, h => by
    simp only [mS] at h
    split at h
    · rename_i x q v pos
      simp only [Bool.and_eq_true, decide_eq_true_eq, Bool.or_eq_true] at h
      obtain ⟨⟨⟨h1, h2⟩, h3⟩, h4⟩ := h
      rcases h3 with h3 | ⟨⟨h3, h6⟩, h5⟩ | h3
      · exact (L2.ps_set ev.nd h1 (locB_loc h2) (sE e X W v ev h4).v (swn h3) (.inl (po.2 _))).imp fun _ _ _ q => t_asgn q
      · cases e with
        | comp is it cs e => exact p_setc ev h1 h6 h5 h3 h4
        | _ => cases h3
      · exact (L2.ps_set ev.nd h1 (locB_loc h2) (sE e X W v ev h4).v (sw_cell h3) (.inl (po.2 _))).imp fun _ _ _ q => t_asgn q
    · cases h
  | .unp is e, p, ev, po, h => by
    simp only [mS] at h
    split at h
    · rename_i t v pos
      simp only [Bool.and_eq_true] at h
      obtain ⟨⟨⟨⟨h1, h2⟩, h3⟩, h4⟩, h5⟩ := h
      refine (L2.ps_asg ((sE e X W v ev h5).v.imp fun _ _ _ q => t_D q) (p_tgtS po.2 ev.calm ev.nd h1) (swn h3) ?_ ?_).imp fun _ _ _ q => t_unp q
      · rcases Bool.or_eq_true_iff.mp h4 with h6 | h6
        · cases t <;> first | (cases v <;> first | rfl | (cases h6; done)) | cases h2
        · unfold cellT at h6
          split at h6
          · exact sw_cellT (by simpa using h6)
          · cases h6
      · cases t <;> first | rfl | cases h2
    · cases h
  | .fset cs o f e, p, ev, po, h => by
    simp only [mS] at h
    split at h
    · rename_i b g q v pos
      simp only [Bool.and_eq_true, decide_eq_true_eq] at h
      obtain ⟨⟨⟨h1, h2⟩, h3⟩, h4⟩ := h
      subst h1
      refine (L2.ps_fld (sE o X W b ev h3).v (sE e X W v ev h4).v ?_).imp fun _ _ _ q => t_fset (fun c hc => ev.fl c f (List.all_eq_true.mp h2 c (by simpa using hc))) q
      cases v <;> rfl
    · cases h
  | .iset o k e, p, ev, po, h => by
    simp only [mS] at h
    split at h
    · rename_i b i q v pos
      simp only [Bool.and_eq_true] at h
      obtain ⟨⟨⟨h1, h2⟩, h3⟩, h4⟩ := h
      exact p_iset ev h1 (sE o X W b ev h2).v (sE k X W i ev h3).v (sE e X W v ev h4).v
    · cases h
  | .expr e, p, ev, po, h => by
    simp only [mS] at h
    split at h
    · obtain ⟨h1, h2⟩ := andT h
      exact (L2.ps_expr (sE e X W _ ev h2).v (swn h1)).imp fun _ _ _ q => t_drop q
    · cases h
  | .ret e, p, ev, po, h => by
    simp only [mS] at h
    split at h
    · exact (L2.ps_ret (sE e X W _ ev h).v).imp fun _ _ _ q => t_ret q
    · cases h
  | .retN, p, ev, po, h => by
    simp only [mS] at h
    split at h
    · exact L2.ps_retN.imp fun _ _ _ q => t_retN q
    · cases h
  | .ite c a b, p, ev, po, h => by
    simp only [mS] at h
    split at h
    · obtain ⟨h12, h3⟩ := andT h
      obtain ⟨h1, h2⟩ := andT h12
      exact (L2.ps_if (sE c X W _ ev h1).t (sSs a _ ev po h2) (sSs b _ ev po h3)).imp fun _ _ _ q => t_ite q
    · cases h
  | .whil c b, p, ev, po, h => by
    simp only [mS] at h
    split at h
    · obtain ⟨h1, h2⟩ := andT h
      exact (L2.ps_while po.1 (sE c X W _ ev h1).t (sSs b _ ev po h2)).imp fun _ _ _ q => t_whil q
    · cases h
  | .forr is it b, p, ev, po, h => by
    simp only [mS] at h
    split at h
    · obtain ⟨h123, h4⟩ := andT h
      obtain ⟨h12, h3⟩ := andT h123
      obtain ⟨h1, h2⟩ := andT h12
      have pb := sSs b _ ev po h4
      by_cases hn : nk it = true
      · exact (L2.ps_for po.1 ev.calm (sI it X W _ _ ev hn h3) (p_tgtS po.2 ev.calm ev.nd h2) pb (fold_set h1)).imp fun _ _ _ q => t_forr hn q
      · cases it with
        | keys e0 =>
          simp only [mI] at h3
          split at h3
          · rename_i b0 hk
            obtain ⟨j1, j2⟩ := andT h3
            exact (ps_orLock (L2.ps_for po.1 ev.calm (pi_keysE j1 hk j2) (p_tgtS po.2 ev.calm ev.nd h2) pb (fold_set h1))).imp fun _ _ _ q => t_forKeys j1 ev.fl j2 q
          · cases h3
        | vals e0 => simp [mI] at h3
        | _ => exact absurd rfl hn
    · cases h
  | .brk, p, ev, po, h => by
    simp only [mS] at h
    split at h
    · exact L2.ps_break.imp fun _ _ _ q => t_brk q
    · cases h
  | .pas, p, ev, po, h => by
    simp only [mS] at h
    split at h
    · exact L2.ps_pass.imp fun _ _ _ q => t_pas q
    · cases h
  | .par is es, p, ev, po, h => by
    simp only [mS] at h
    split at h
    · rename_i i j x px y py kt pt a b k2 pt2 pos
      simp only [Bool.and_eq_true, decide_eq_true_eq, Bool.not_eq_true'] at h
      obtain ⟨⟨⟨⟨⟨⟨⟨⟨⟨⟨⟨h1, h2⟩, h3⟩, h4⟩, h5⟩, h6⟩, h7⟩, h8⟩, h9⟩, h10⟩, h11⟩, h12⟩ := h
      have hk : X.env.scope.kind = .function := by
        revert h7
        cases X.env.scope.kind <;> intro h7 <;> first | rfl | cases h7
      exact (L2.ps_par ev.calm ev.nd h1 h2 h3 h5 h6 (p_list (fun e he p hp => sEs es X W ev e he p hp) h9 h12) (par_sw hk h5 h6 h4 h8 h9 h10 h11)).imp fun _ _ _ q => t_par q
    · cases h
  | .rais c es, p, ev, po, h => by simp [mS] at h
  | .tryx b c n su, p, ev, po, h => by simp [mS] at h
theorem sSs : ∀ (sts : List St) (p : List PyS), Ev G X W C → (PySem.PassesOwn (PySem.model X.prog X.w) X.A X.env X.xe ∧ ∀ x, X.fn x = true) → mSs G X.env.scope X.N sts p = true → PSs X p (tS X.K W C sts)
  | [], p, ev, po, h => by
    simp only [mSs] at h
    cases p with
    | nil => exact L2.pss_nil.imp fun _ _ _ q => t_snil q
    | cons _ _ => cases h
  | st :: r, p, ev, po, h => by
    cases p with
    | nil => simp [mSs] at h
    | cons x xs =>
      simp only [mSs] at h
      obtain ⟨h1, h2⟩ := andT h
      exact (L2.pss_cons (sS st x ev po h1) (sSs r xs ev po h2)).imp fun _ _ _ q => t_scons q
end
end
end KW
/-! KwFun: the defs. -/
namespace KW
open PySem (Str Addr Value Program World Heap Operator CmpOp binaryOp compareOp PyData Scope Const Env wpAny_bind wpAny_mono)
open PySem.Spec PyProof.Rows
open L2 (V Hp HO upd upd_same upd_ne upd_upd SqL SqT Rd RelV Mut TE TT TA TS TI TG PI PG WX PE PT PW PA PS PSs Cx Inv OpR UnR CallR MtR IxR SlR TruR VK EP XK rI0)
/-- what is known of a def of the top -/
structure FnFact (K : Fr) (G : Tabs) (name : String) (fn : Fn) (a : Addr) : Prop where
  ex : ∃ (x : Str) (qual : Str) (params : PySem.Arguments) (body : List PyS) (scope : Scope) (kws : List (Str × V)) (fd : PySem.FuncData) (N ps : List Str), L2.FunD K x qual params body scope [] kws a fd ∧ L2.FnScope N ps scope ∧ L2.Binds K fd ps [] ∧
    N.length = fn.ns ∧ ps.length = fn.np ∧ mSs G scope N fn.body body = true
/-- what is known of the whole -/
structure Facts (K : Fr) (w : World) (mg : Str → Option Value) (G : Tabs) (g : Prog) : Prop where
  bl : ∀ x ∈ bltNames, mg (sst x) = none
  gl : ∀ x d, (G.gl.any fun q => q.1 == x && beqD q.2 d) = true → GlobOk K mg x d
  tb : ∀ x kvs, (G.tb.any fun q => q.1 == x && beqTs q.2 kvs) = true → TabOk K w mg x kvs
  ls : ∀ x ts, (G.ls.any fun q => q.1 == x && decide (q.2 = ts)) = true → LsOk K mg x ts
  fs : ∀ f, G.fs.contains f = true → ∃ a fn, g f = some fn ∧ mg (sst f) = some (.ref a) ∧ FnFact K G f fn a
  cs : ∀ c, G.cs.contains c = true → ∃ a fn, g (c ++ ".__init__") = some fn ∧ mg (sst c) = some (.ref (cA K c)) ∧ L2.Mk K (cA K c) a ∧ FnFact K G (c ++ ".__init__") fn a
  ms : ∀ c m, G.ms.contains (c, m) = true → ∃ a fn, g (c ++ "." ++ m) = some fn ∧ L2.Cls K (cA K c) ∧ L2.Meth K (cA K c) (sst m) a ∧ FnFact K G (c ++ "." ++ m) fn a
  fl : ∀ c f, G.fl.contains (c, f) = true → L2.Cls K (cA K c) ∧ L2.NoAttr K (cA K c) (sst f)
section
variable {P : Program} {w : World} {K : Fr} {mg : Str → Option Value} {base : Heap} {G : Tabs} {g : Prog}
theorem callF_len {d : Nat} {f : String} {ds : List D} {h : List Cell} (hn : callF g d f ds h ≠ .stuck) : ∃ fn, g f = some fn ∧ ds.length = fn.np := by
  cases d with
  | zero => exact absurd rfl hn
  | succ d =>
    simp only [callF] at hn
    cases q : g f with
    | none => rw [q] at hn; exact absurd rfl hn
    | some fn =>
      rw [q] at hn
      refine ⟨fn, rfl, ?_⟩
      by_cases e : ds.length = fn.np
      · exact e
      · simp only [if_neg e] at hn; exact absurd rfl hn
theorem sp_not {C : CallF} {f : String} {vs : List V} {H : Hp} {Q : VK} {E : XK} (h : spOf K C f vs H Q E) : ∃ ds hh, C f ds hh ≠ .stuck ∧ ds.length = vs.length := by
  obtain ⟨M, ds, hh, _, _, _, rs, q⟩ := h
  exact ⟨ds, hh, fun z => by rw [z] at q; exact q, RD.len_eq rs⟩
/-- the end of a def -/
theorem fun_end {C : CallF} {M : MM} {H : Hp} {h : List Cell} {σ0 : List (Option SV)} {Q : VK} {E : XK} {r : R Flow} (nl : noLoc M) (lk : M.lk = none)
    (hq : match (r.bind fun f s => match f with
        | .next => .ok (.val .non) ⟨[], s.h⟩
        | .ret v => .ok v ⟨[], s.h⟩
        | .brk => .stuck : R RV) with
      | .ok x s' => ∀ M' H' v, Ext h.length M H s'.h.length M' H' → RH K M' H' s'.h → noSlot M' → RR K s'.h.length M' H' x v → isPk x = false → Fresh H x v → Q v H'
      | .raise x s' => ∀ M' H' cls d, Ext h.length M H s'.h.length M' H' → RH K M' H' s'.h → noSlot M' → RX K s'.h.length M' H' x cls d → E cls d H'
      | .stuck => False) : OutS K (fun cls d _ H => E cls d H) M H ⟨σ0, h⟩ r { nx := fun _ H' => Q .non H', rt := Q } := by
  refine ⟨lk, ?_⟩
  have ns : ∀ {M' : MM}, noLoc M' → noSlot M' := fun {M'} z a j e => by have := z a; rw [e] at this; cases this
  have ex : ∀ {n' M' H'}, ExtS h.length M H n' M' H' → Ext h.length M H n' M'.call H' := fun {n' M' H'} e => by
    refine ⟨fun a o q p => ?_, e.dom, e.loc, e.le, fun a z => ?_, e.lk⟩
    · have p2 : M.who a = none ∨ M.who a = some .oth := by
        rcases p with p | p | p
        · exact .inl p
        · have := nl a; rw [p] at this; cases this
        · exact .inr p
      obtain ⟨h1, h2⟩ := e.keep a o q p2
      refine ⟨h1, ?_⟩
      rw [call_who (by rw [h2]; exact nl a)]
      exact h2
    · cases q : isLoc (M'.who a) with
      | true => rw [call_loc q] at z; cases z
      | false => rw [call_who q, q] at z; cases z
  cases r with
  | stuck => exact hq
  | raise x s' =>
    intro M' H' σ' cls d e rt rx
    obtain ⟨r1, r2⟩ := rt.hp.call
    refine hq M'.call H' cls d (ex e) r1 (ns r2) ⟨rx.1, ?_⟩
    rcases rx.2 with z | ⟨a, gs, e1, e2, e3⟩
    · exact .inl z
    · exact .inr ⟨a, gs, e1, e2, e3.mono (keep_call rt.hp.wf)⟩
  | ok f s' =>
    cases f with
    | next =>
      intro M' H' σ' e rt
      obtain ⟨r1, r2⟩ := rt.hp.call
      exact hq M'.call H' .non (ex e) r1 (ns r2) (.val .non) rfl fun c z => by cases z
    | brk => exact hq.elim
    | ret v =>
      intro M' H' u e rh rr pk
      obtain ⟨r1, r2⟩ := rh.call
      cases rr with
      | val rd => exact hq M'.call H' u (ex e) r1 (ns r2) (.val (rd.mono (keep_call rh.wf))) rfl fun c z => by cases z
      | pk _ _ => cases pk
      | @own c a hw hc =>
        have hn : H a = none := by
          rcases e.nl a (by rw [hw]; rfl) with z | z
          · rw [nl a] at z; cases z
          · exact z
        have ne : ∀ b l, M'.call.who b = some l → l ≠ .oth → b ≠ a := fun b l q hl z => by
          rw [z, call_loc (by rw [hw]; rfl)] at q
          injection q with q
          exact hl q.symm
        have nn : ∀ b, M'.call.who b = none → b ≠ a := fun b q z => by rw [z, call_loc (by rw [hw]; rfl)] at q; cases q
        have kp : Keep s'.h.length M'.call H' s'.h.length (M'.call.set a (some .tmp)) H' := ⟨r1.wf, fun b o q z => ⟨q, by rw [MM.set_ne (nn b z)]; exact z⟩, fun _ _ => rfl, Nat.le_refl _⟩
        have e2 := ex e
        refine hq (M'.call.set a (some .tmp)) H' (.ref a) ⟨fun b o q p => ?_, e2.dom, e2.loc, e2.le, fun b z => ?_, e2.lk⟩ ?_ (fun b j z => ?_) (.own MM.set_same ((hc.mono (keep_call rh.wf) rfl).mono kp rfl)) rfl fun c _ b z => ?_
        · obtain ⟨k1, k2⟩ := e2.keep b o q p
          refine ⟨k1, ?_⟩
          rw [MM.set_ne fun z => by rw [z, hn] at q; cases q]
          exact k2
        · by_cases q : b = a
          · subst q; exact .inr hn
          · rw [MM.set_ne q] at z; exact e2.nl b z
        · refine r1.relab rfl (fun b l q => ?_) (fun b c l h1 h2 eb ec => ?_) (fun b q _ => by rw [MM.set_ne (nn b q)]; exact q) fun b l q h1 h2 => by rw [MM.set_ne (ne b l q h2)]; exact q
          · by_cases z : b = a
            · subst z; exact rh.wf b _ hw
            · rw [MM.set_ne z] at q; exact r1.wf b l q
          · by_cases zb : b = a
            · subst zb; rw [MM.set_same] at eb; injection eb with eb; exact absurd eb.symm h1
            · by_cases zc : c = a
              · subst zc; rw [MM.set_same] at ec; injection ec with ec; exact absurd ec.symm h1
              · rw [MM.set_ne zb] at eb; rw [MM.set_ne zc] at ec; exact r1.uq b c l h1 h2 eb ec
        · by_cases q : b = a
          · subst q; rw [MM.set_same] at z; cases z
          · rw [MM.set_ne q] at z; exact ns r2 b j z
        · injection z with z
          subst z
          exact hn
theorem start_get {N : List Str} {vs : List V} {j : Nat} {v : V} (h : vs[j]? = some v) : (L2.start N vs)[j]? = some (some v) := by
  unfold L2.start
  have hj : j < vs.length := (List.getElem?_eq_some_iff.mp h).1
  rw [List.getElem?_append_left (by simpa using hj), List.getElem?_map, h]
  rfl
theorem start_rt {M : MM} {H : Hp} {h : List Cell} {ds : List D} {vs : List V} {N : List Str} {ns : Nat} (rh : RH K M H h) (rs : RDs K h.length M H ds vs) (hn : N.length = ns) :
    RT K M H (L2.start N vs) ⟨(ds.map fun d => some (.val d)) ++ List.replicate (ns - ds.length) none, h⟩ := by
  have hl := RD.len_eq rs
  refine ⟨rh, ?_, fun j sv q => ?_⟩
  · unfold L2.start
    simp [hl, hn]
  · have q : ((ds.map fun d => some (SV.val d)) ++ List.replicate (ns - ds.length) none)[j]? = _ := q
    by_cases hj : j < ds.length
    · rw [List.getElem?_append_left (by simpa using hj), List.getElem?_map, List.getElem?_eq_getElem hj] at q
      injection q with q
      injection q with q
      subst q
      obtain ⟨v, g1, g2⟩ := rs.get (List.getElem?_eq_getElem hj)
      exact ⟨v, start_get g1, .val g2⟩
    · rw [List.getElem?_append_right (by simpa using hj), List.getElem?_replicate] at q
      split at q
      · cases q
      · cases q
/-- every def keeps what the small language says of it -/
theorem fn_at (F : Facts K w mg G g) : ∀ (d : Nat) (name : String) (fn : Fn) (a : Addr) (x qual : Str) (params : PySem.Arguments) (body : List PyS) (scope : Scope) (kws : List (Str × V)) (fd : PySem.FuncData) (N ps : List Str),
    g name = some fn → L2.FunD K x qual params body scope [] kws a fd → L2.FnScope N ps scope → N.length = fn.ns → ps.length = fn.np → mSs G scope N fn.body body = true → L2.FnOk P w K mg base (L2.CX P w) (2 * d) a fd ps (spOf K (callF g d) name) := by
  intro d
  induction d with
  | zero =>
    intro name fn a x qual params body scope kws fd N ps hg hF hS hN hp hm
    refine ⟨fun vs H Q E z => ?_, fun A outer s H args us vs Q E _ _ _ _ z => ?_⟩
    · obtain ⟨ds, hh, hn, _⟩ := sp_not z
      exact absurd rfl hn
    · obtain ⟨ds, hh, hn, _⟩ := sp_not z
      exact absurd rfl hn
  | succ d ih =>
    intro name fn a x qual params body scope kws fd N ps hg hF hS hN hp hm
    show L2.FnOk P w K mg base (L2.CX P w) (2 * d + 1 + 1) a fd ps _
    refine hF.ok hS (fun vs H Q E z => ?_) fun cdv A outer s H vs Q E hr hsp => ?_
    · obtain ⟨ds, hh, hn, hl⟩ := sp_not z
      obtain ⟨fn', e1, e2⟩ := callF_len hn
      rw [hg] at e1
      injection e1 with e1
      subst e1
      omega
    · obtain ⟨M, ds, h, lk, rh, nl, rs, q⟩ := hsp
      have hn : callF g (d + 1) name ds h ≠ .stuck := fun z => by rw [z] at q; exact q
      obtain ⟨fn', e1, e2⟩ := callF_len hn
      rw [hg] at e1
      injection e1 with e1
      subst e1
      simp only [callF, hg, if_pos e2] at q
      refine ⟨tS K (fun cls d _ H => E cls d H) (callF g d) fn.body, ?_, M, _, start_rt rh rs hN, ?_⟩
      · have ok : ∀ (f : String) (fn : Fn) (b : Addr), g f = some fn → FnFact K G f fn b → CallOk (L2.cxOf (L2.CX P w) P w K mg base N qual scope a cdv A outer s H E) (callF g d) f b := fun f fn b h1 h2 => by
          obtain ⟨x', qual', params', body', scope', kws', fd', N', ps', hF', hS', hb', hN', hp', hm'⟩ := h2.ex
          exact ⟨fd', ps', 2 * d, hF'.kp, hb', ih f fn b _ _ _ _ _ _ _ _ _ h1 hF' hS' hN' hp' hm', hr⟩
        have ev : Ev G (L2.cxOf (L2.CX P w) P w K mg base N qual scope a cdv A outer s H E) (fun cls d _ H => E cls d H) (callF g d) := by
          refine ⟨?_, rfl, hS.nd, L2.takes_of rfl rfl rfl rfl, F.bl, F.gl, F.tb, F.ls, fun f hf => ?_, fun c hc => ?_, fun c m hm => ?_, F.fl⟩
          · have := hr.un
            show (A.deeper _).units + 65 < _
            omega
          · obtain ⟨b, fn, k1, k2, k3⟩ := F.fs f hf
            exact ⟨b, k2, ok _ _ _ k1 k3⟩
          · obtain ⟨b, fn, k1, k2, k3, k4⟩ := F.cs c hc
            exact ⟨b, k2, k3, ok _ _ _ k1 k4⟩
          · obtain ⟨b, fn, k1, k2, k3, k4⟩ := F.ms c m hm
            exact ⟨b, k2, k3, ok _ _ _ k1 k4⟩
        exact sSs fn.body body ev ⟨L2.passes_of rfl, fun _ => rfl⟩ hm
      · rw [← e2] at q
        exact fun_end (C := callF g d) nl lk q
end
end KW
/-! KwHead: what the top leaves, looked at once. -/
namespace KW
open PySem (Str Addr Value Program World Heap Operator CmpOp binaryOp compareOp PyData Scope Const Env Shared)
open PySem.Spec PyProof.Rows
open L2 (V Hp HO upd upd_same upd_ne upd_upd SqL SqT Rd RelV)
/-! ### what is looked at -/
/-- level by level from the module's names -/
def lvl (g : Addr → Option PySem.Obj) (as : List Addr) : List Addr := as.flatMap fun a => match g a with
  | some o => He.refsO o
  | none => []
def asK (g : Addr → Option PySem.Obj) : Nat → List Addr → List Addr
  | 0, as => as
  | n + 1, as => as ++ asK g n (lvl g as)
abbrev AlK : Type := He.AlT × Bool
def obsK (fa : List He.Fa) (fn : List He.DefD) (ts : List He.Tab) (x : Fr → Bool) (K : Fr) : AlK := (He.obsT fa fn ts K, x K)
def valK (fn : List He.DefD) (ts : List He.Tab) (w : World) : AlK := (He.valT fn ts w, true)
def obsKG (n : Nat) (fa : List He.Fa) (fn : List He.DefD) (ts : List He.Tab) (x : Fr → Bool) (g : Addr → Option PySem.Obj) : AlK := obsK fa fn ts x (He.frG g (asK g n [PySem.mainGlobals]))
def SaysK (fa : List He.Fa) (fn : List He.DefD) (ts : List He.Tab) (x : Fr → Bool) (w : World) (K : Fr) : Prop := obsK fa fn ts x K = valK fn ts w
def hookK (n : Nat) (fa : List He.Fa) (fn : List He.DefD) (ts : List He.Tab) (x : Fr → Bool) : PySem.W.Hook where
  α := AlK
  obs := fun s => obsKG n fa fn ts x s.heap.get?
  val := fun w => valK fn ts w
  says := fun w h => ∃ K : PySem.W.Frag, K.In h ∧ SaysK fa fn ts x w K
  of := fun _ _ e => ⟨_, He.frG_in, e⟩
  keeps := fun _ _ _ ⟨K, hK, c⟩ k => ⟨K, PySem.W.Frag.In.keeps hK k, c⟩
theorem obsKG_eq {n : Nat} {fa : List He.Fa} {fn : List He.DefD} {ts : List He.Tab} {x : Fr → Bool} {g : Addr → Option PySem.Obj} {s : Shared} (h : ∀ a, g a = s.heap.get? a) : obsKG n fa fn ts x g = (hookK n fa fn ts x).obs s := by
  have e : g = s.heap.get? := funext h
  rw [e] <;> rfl
section
variable {fa : List He.Fa} {fn : List He.DefD} {ts : List He.Tab} {x : Fr → Bool} {w : World} {K : Fr}
theorem SaysK.t (c : SaysK fa fn ts x w K) : He.SaysT fa fn ts w K := congrArg (fun z : AlK => z.1) c
theorem SaysK.more (c : SaysK fa fn ts x w K) : x K = true := congrArg (fun z : AlK => z.2) c
end
/-! ### constants -/
/-- an int, a text, a tuple of these, as a datum of the text -/
def dvOf : D → Option He.Dv
  | .int i => some (.int i)
  | .str t => some (.str (mst t))
  | _ => none
/-- the object u reads as d for ever -/
def litB (K : Fr) (u : Value) (d : D) : Bool := match d with
  | .int i => He.relB (.int i) u
  | .str t => okTB t && He.relB (.str (mst t)) u
  | .tup xs => match u with
    | .ref a => match K.lookup a with
      | some ⟨.type c, _, .seq its _, _⟩ => decide (c = "tuple") && decide (its.size ≤ PySem.sizeLine) && atomsB xs && He.relAll (xs.map vOf) its.toList
      | _ => false
    | _ => false
  | _ => false
where
  atomsB : List D → Bool
    | [] => true
    | .int _ :: r => atomsB r
    | .str t :: r => okTB t && atomsB r
    | _ :: _ => false
theorem atomsB_rd {K : Fr} {n : Nat} {M : MM} {H : Hp} : ∀ {xs : List D}, litB.atomsB xs = true → RDs K n M H xs (xs.map vOf)
  | [], _ => .nil
  | .int i :: r, h => .cons (.int i) (atomsB_rd (xs := r) h)
  | .str t :: r, h => by
    obtain ⟨h1, h2⟩ := Bool.and_eq_true_iff.mp (show (okTB t && litB.atomsB r) = true from h)
    exact .cons (.str t (okTB_ok h1)) (atomsB_rd h2)
  | .non :: _, h => by cases h
  | .bl _ :: _, h => by cases h
  | .tup _ :: _, h => by cases h
  | .lst _ :: _, h => by cases h
  | .dct _ :: _, h => by cases h
  | .ref _ :: _, h => by cases h
  | .exc _ _ :: _, h => by cases h
theorem litB_ok {K : Fr} {u : Value} {d : D} (h : litB K u d = true) : ∃ v, RelV v u ∧ ∀ n M H, RD K n M H d v := by
  unfold litB at h
  split at h
  · exact ⟨_, He.relB_ok h, fun _ _ _ => .int _⟩
  · obtain ⟨h1, h2⟩ := Bool.and_eq_true_iff.mp h
    exact ⟨_, He.relB_ok h2, fun _ _ _ => .str _ (okTB_ok h1)⟩
  · split at h
    · rename_i a
      split at h
      · rename_i c od its nn sl q
        simp only [Bool.and_eq_true, decide_eq_true_eq] at h
        obtain ⟨⟨⟨h1, h2⟩, h3⟩, h4⟩ := h
        subst h1
        refine ⟨.ref a, rfl, fun n M H => .tup (.inr ?_) (atomsB_rd h3)⟩
        exact ⟨_, its, nn, q, rfl, rfl, h2, He.relAll_ok h4⟩
      · cases h
    · cases h
  · cases h
/-- the module's name x stands for d -/
def gloB (K : Fr) (x : String) (d : D) : Bool := match PySem.W.nsIn K PySem.mainGlobals (sst x) with
  | some (some u) => litB K u d
  | _ => false
theorem gloB_ok {K : Fr} {mg : Str → Option Value} {h : Heap} {x : String} {d : D} (X : K.In h) (G : h.Ns PySem.mainGlobals mg) (c : gloB K x d = true) : GlobOk K mg x d := by
  unfold gloB at c
  split at c
  · rename_i u e
    obtain ⟨v, h1, h2⟩ := litB_ok c
    exact ⟨u, v, PySem.W.mg_of X G e, h1, h2⟩
  · cases c
end KW
/-! KwFacts: what the defs lean on, from what was looked at. -/
namespace KW
open PySem (Str Addr Value Program World Heap Operator CmpOp binaryOp compareOp PyData Scope Const Env Shared)
open PySem.Spec PyProof.Rows
open L2 (V Hp HO upd upd_same upd_ne upd_upd SqL SqT Rd RelV)
/-- one def of the top -/
structure FnI where
  key : String
  at_ : String × Option String
  name : String
  qual : String
  st : PyS
  fn : Fn
  N : List String
def FnI.dd (f : FnI) : He.DefD := ⟨(sst f.at_.1, f.at_.2.map sst), sst f.name, sst f.qual, L2.defArgs f.st, L2.defBody f.st, L2.defScope f.st, [], []⟩
def FnI.NN (f : FnI) : List Str := f.N.map sst
def FnI.ps (f : FnI) : List Str := (f.N.take f.fn.np).map sst
structure FnI.Ok (G : Tabs) (f : FnI) : Prop where
  sc : C8.scC f.NN f.ps (L2.defScope f.st) = true
  ln : f.NN.length = f.fn.ns
  lp : f.ps.length = f.fn.np
  bd : ∀ (kV doc pm : Value) (an : Option Addr) (cdv ct : Value) (us : List Value), us.length = f.ps.length → PySem.bindArgs (PySem.W.fnOf (sst f.name) (sst f.qual) (L2.defArgs f.st) (L2.defBody f.st) (L2.defScope f.st) .none kV doc pm an cdv ct) ⟨us, []⟩ = Pure.pure (f.ps.zip us)
  mt : mSs G (L2.defScope f.st) f.NN f.fn.body (L2.defBody f.st) = true
def faOf (G : Tabs) : List He.Fa := (bltNames.map fun x => .free (sst x)) ++ ((G.fs.map fun f => .glo (sst f)) ++ ((G.cs.map fun c => .glo (sst c)) ++ ((G.cs.map fun c => .cls (sst c)) ++ ((G.cs.map fun c => .mkr (sst c)) ++ ((G.ms.map fun q => .meth (sst q.1) (sst q.2)) ++
  ((G.fl.map fun q => .noat (sst q.1) (sst q.2)) ++ ((G.tb.map fun q => .glo (sst q.1)) ++ (G.ls.map fun q => .glo (sst q.1)))))))))
/-- a table: its keys and values -/
def entB (K : Fr) : List PySem.DictEntry → List (T × D) → Bool
  | [], [] => true
  | e :: r, q :: qs => (match e.key with
    | .str x _ => decide (x = mst q.1)
    | _ => false) && litB K e.val q.2 && entB K r qs
  | _, _ => false
def tabB (K : Fr) (x : String) (kvs : List (T × D)) : Bool := match K.lookup (He.ga K (sst x)) with
  | some ⟨_, _, .dict es _, _⟩ => entB K es.toList kvs
  | _ => false
def lsB (K : Fr) (x : String) (ts : List T) : Bool := He.lstB K (sst x) (ts.map fun t => .str (mst t)) && ts.all okTB
/-- no list of whole numbers stands at the top -/
def noInts (K : Fr) : Bool := K.all fun q => match q.2 with
  | ⟨.type c, _, .seq its _, _⟩ => !decide (c = "list") || its.toList.any fun u => match u with
    | .int _ _ => false
    | _ => true
  | _ => true
def xOf (G : Tabs) (K : Fr) : Bool := noInts K && ((G.gl.all fun q => gloB K q.1 q.2) && ((G.tb.all fun q => tabB K q.1 q.2) && (G.ls.all fun q => lsB K q.1 q.2)))
def tsOf (G : Tabs) : List He.Tab := G.tb.map fun q => (fun K => He.ga K (sst q.1), q.2.map fun z => mst z.1)
def findI (fis : List FnI) (k : String) : Option FnI := fis.find? fun f => f.key == k
def chkI (fis : List FnI) (k : String) (p : String × Option String) : Bool := match findI fis k with
  | some f => f.at_ == p
  | none => false
def chkG (G : Tabs) (fis : List FnI) : Bool := (G.fs.all fun f => chkI fis f (f, none)) && ((G.cs.all fun c => chkI fis (c ++ ".__init__") (c, some "__init__")) && ((G.ms.all fun q => chkI fis (q.1 ++ "." ++ q.2) (q.1, some q.2) && G.cs.contains q.1) && G.fl.all fun q => G.cs.contains q.1))
theorem entB_at {K : Fr} {t : T} : ∀ {es : List PySem.DictEntry} {kvs : List (T × D)}, entB K es kvs = true → match tfind t kvs with
    | some d => ∃ e v, es.find? (·.key.isStr (mst t)) = some e ∧ RelV v e.val ∧ ∀ n M H, RD K n M H d v
    | none => es.find? (·.key.isStr (mst t)) = none ∧ es.any (·.refKey) = false
  | [], [], _ => ⟨rfl, rfl⟩
  | [], _ :: _, h => by cases h
  | _ :: _, [], h => by cases h
  | e :: r, q :: qs, h => by
    obtain ⟨h12, h3⟩ := Bool.and_eq_true_iff.mp (show (((match e.key with
      | .str x _ => decide (x = mst q.1)
      | _ => false) && litB K e.val q.2) && entB K r qs) = true from h)
    obtain ⟨h1, h2⟩ := Bool.and_eq_true_iff.mp h12
    split at h1
    · rename_i x tt ek
      have ex := of_decide_eq_true h1
      have ih := entB_at (t := t) h3
      unfold tfind
      by_cases z : q.1 = t
      · rw [if_pos z]
        obtain ⟨v, h4, h5⟩ := litB_ok h2
        refine ⟨e, v, ?_, h4, h5⟩
        rw [List.find?_cons, ek]
        simp [Value.isStr, ex, z]
      · rw [if_neg z]
        have hk : e.key.isStr (mst t) = false := by
          rw [ek, ex]
          simp [Value.isStr, mst_iff, z]
        have hr : e.refKey = false := by
          unfold PySem.DictEntry.refKey
          rw [ek]
        cases y : tfind t qs with
        | none =>
          rw [y] at ih
          refine ⟨?_, ?_⟩
          · rw [List.find?_cons, hk]; exact ih.1
          · rw [List.any_cons, hr, ih.2]; rfl
        | some d =>
          rw [y] at ih
          obtain ⟨e2, v, i1, i2⟩ := ih
          exact ⟨e2, v, by rw [List.find?_cons, hk]; exact i1, i2⟩
    · cases h1
theorem tabB_ok {K : Fr} {w : World} {mg : Str → Option Value} {h : Heap} {x : String} {kvs : List (T × D)} {es : Array PySem.DictEntry} {n : Nat} (X : K.In h) (G : h.Ns PySem.mainGlobals mg) (hg : mg (sst x) = some (.ref (He.ga K (sst x)))) (hk : L2.KDict K w (He.ga K (sst x)) es n) (c : tabB K x kvs = true) : TabOk K w mg x kvs := by
  refine ⟨_, es, n, hg, hk, fun t => ?_⟩
  unfold tabB at c
  split at c
  · rename_i oc od es' ep sl q
    have := entB_at (t := t) c
    split
    · rename_i d e
      rw [e] at this
      obtain ⟨en, v, i1, i2, i3⟩ := this
      refine ⟨en.val, v, ?_, i2, i3⟩
      unfold PySem.W.nsIn
      rw [q]
      show (match es'.toList.find? (·.key.isStr (mst t)) with
        | some e => some (some e.val)
        | none => if es'.toList.any (·.refKey) then none else some none) = _
      rw [i1]
    · rename_i e
      rw [e] at this
      obtain ⟨i1, i2⟩ := this
      unfold PySem.W.nsIn
      rw [q]
      show (match es'.toList.find? (·.key.isStr (mst t)) with
        | some e => some (some e.val)
        | none => if es'.toList.any (·.refKey) then none else some none) = _
      rw [i1, i2]
      rfl
  · cases c
theorem findI_in {fis : List FnI} {k : String} {f : FnI} (h : findI fis k = some f) : f ∈ fis ∧ f.key = k := by
  refine ⟨List.mem_of_find?_eq_some h, ?_⟩
  have := List.find?_some h
  simpa using this
theorem lookI : ∀ {fis : List FnI} {k : String} {f : FnI}, findI fis k = some f → (fis.map fun f => (f.key, f.fn)).lookup k = some f.fn
  | [], _, _, h => by cases h
  | f0 :: r, k, f, h => by
    unfold findI at h
    rw [List.find?_cons] at h
    rw [List.map_cons, List.lookup_cons]
    by_cases e : f0.key = k
    · rw [show (f0.key == k) = true from by rw [e]; exact beq_self_eq_true _] at h
      cases h
      rw [show (k == f0.key) = true from by rw [e]; exact beq_self_eq_true _]
    · rw [show (f0.key == k) = false from by simpa using e] at h
      rw [show (k == f0.key) = false from by simpa using fun z => e z.symm]
      exact lookI h
section
variable {w : World} {K : Fr} {mg : Str → Option Value} {h : Heap} {G : Tabs} {g : Prog} {fis : List FnI}
theorem factK {fa : List He.Fa} {fn : List He.DefD} {K : Fr} (c : He.SaysD fa fn K) {f : He.Fa} (hf : f ∈ fa) : f.ok K = true := by
  obtain ⟨i, hi⟩ := List.getElem?_of_mem hf
  exact c.fact i hi
theorem SaysK.noI (c : SaysK (faOf G) (fis.map FnI.dd) (tsOf G) (xOf G) w K) : noInts K = true := (Bool.and_eq_true_iff.mp (show (noInts K && ((G.gl.all fun q => gloB K q.1 q.2) && ((G.tb.all fun q => tabB K q.1 q.2) && (G.ls.all fun q => lsB K q.1 q.2)))) = true from c.more)).1
theorem facts_of (hg : ∀ n, g n = (fis.map fun f => (f.key, f.fn)).lookup n) (ok : ∀ f ∈ fis, f.Ok G) (ck : chkG G fis = true) (X : K.In h) (Gn : h.Ns PySem.mainGlobals mg) (c : SaysK (faOf G) (fis.map FnI.dd) (tsOf G) (xOf G) w K) : Facts K w mg G g := by
  have cd := c.t.d
  have m1 : ∀ x ∈ bltNames, He.Fa.free (sst x) ∈ faOf G := fun x hx => by
    unfold faOf; exact List.mem_append_left _ (List.mem_map_of_mem hx)
  have m2 : ∀ x ∈ G.fs, He.Fa.glo (sst x) ∈ faOf G := fun x hx => by
    unfold faOf; exact List.mem_append_right _ (List.mem_append_left _ (List.mem_map_of_mem (f := fun f => He.Fa.glo (sst f)) hx))
  have m3 : ∀ x ∈ G.cs, He.Fa.glo (sst x) ∈ faOf G ∧ He.Fa.cls (sst x) ∈ faOf G ∧ He.Fa.mkr (sst x) ∈ faOf G := fun x hx => by
    unfold faOf
    refine ⟨?_, ?_, ?_⟩
    · exact List.mem_append_right _ (List.mem_append_right _ (List.mem_append_left _ (List.mem_map_of_mem (f := fun f => He.Fa.glo (sst f)) hx)))
    · exact List.mem_append_right _ (List.mem_append_right _ (List.mem_append_right _ (List.mem_append_left _ (List.mem_map_of_mem (f := fun f => He.Fa.cls (sst f)) hx))))
    · exact List.mem_append_right _ (List.mem_append_right _ (List.mem_append_right _ (List.mem_append_right _ (List.mem_append_left _ (List.mem_map_of_mem (f := fun f => He.Fa.mkr (sst f)) hx)))))
  have m4 : ∀ q ∈ G.ms, He.Fa.meth (sst q.1) (sst q.2) ∈ faOf G := fun q hx => by
    unfold faOf
    exact List.mem_append_right _ (List.mem_append_right _ (List.mem_append_right _ (List.mem_append_right _ (List.mem_append_right _ (List.mem_append_left _ (List.mem_map_of_mem (f := fun q : String × String => He.Fa.meth (sst q.1) (sst q.2)) hx))))))
  have m5 : ∀ q ∈ G.fl, He.Fa.noat (sst q.1) (sst q.2) ∈ faOf G := fun q hx => by
    unfold faOf
    exact List.mem_append_right _ (List.mem_append_right _ (List.mem_append_right _ (List.mem_append_right _ (List.mem_append_right _ (List.mem_append_right _ (List.mem_append_left _ (List.mem_map_of_mem (f := fun q : String × String => He.Fa.noat (sst q.1) (sst q.2)) hx)))))))
  have m6 : ∀ q ∈ G.tb, He.Fa.glo (sst q.1) ∈ faOf G := fun q hx => by
    unfold faOf
    exact List.mem_append_right _ (List.mem_append_right _ (List.mem_append_right _ (List.mem_append_right _ (List.mem_append_right _ (List.mem_append_right _ (List.mem_append_right _ (List.mem_append_left _ (List.mem_map_of_mem (f := fun q : String × List (T × D) => He.Fa.glo (sst q.1)) hx))))))))
  have m7 : ∀ q ∈ G.ls, He.Fa.glo (sst q.1) ∈ faOf G := fun q hx => by
    unfold faOf
    exact List.mem_append_right _ (List.mem_append_right _ (List.mem_append_right _ (List.mem_append_right _ (List.mem_append_right _ (List.mem_append_right _ (List.mem_append_right _ (List.mem_append_right _ (List.mem_map_of_mem (f := fun q : String × List T => He.Fa.glo (sst q.1)) hx))))))))
  obtain ⟨x1, x23⟩ := Bool.and_eq_true_iff.mp (Bool.and_eq_true_iff.mp (show (noInts K && ((G.gl.all fun q => gloB K q.1 q.2) && ((G.tb.all fun q => tabB K q.1 q.2) && (G.ls.all fun q => lsB K q.1 q.2)))) = true from c.more)).2
  obtain ⟨x2, x3⟩ := Bool.and_eq_true_iff.mp x23
  obtain ⟨k1, k234⟩ := Bool.and_eq_true_iff.mp (show ((G.fs.all fun f => chkI fis f (f, none)) && ((G.cs.all fun c => chkI fis (c ++ ".__init__") (c, some "__init__")) && ((G.ms.all fun q => chkI fis (q.1 ++ "." ++ q.2) (q.1, some q.2) && G.cs.contains q.1) && G.fl.all fun q => G.cs.contains q.1))) = true from ck)
  obtain ⟨k2, k34⟩ := Bool.and_eq_true_iff.mp k234
  obtain ⟨k3, k4⟩ := Bool.and_eq_true_iff.mp k34
  have fnf : ∀ {k : String} {p : String × Option String}, chkI fis k p = true → ∃ fn, g k = some fn ∧ FnFact K G k fn (He.fAd K (sst p.1, p.2.map sst)) := fun {k p} hk => by
    unfold chkI at hk
    split at hk
    · rename_i f hf
      have ep : f.at_ = p := eq_of_beq hk
      obtain ⟨hm, hkey⟩ := findI_in hf
      have o := ok f hm
      obtain ⟨i, hi⟩ := List.getElem?_of_mem (List.mem_map_of_mem (f := FnI.dd) hm)
      obtain ⟨fd, F⟩ := cd.def_ i hi
      refine ⟨f.fn, (hg k).trans (lookI hf), ⟨sst f.name, sst f.qual, L2.defArgs f.st, L2.defBody f.st, L2.defScope f.st, f.dd.kws K, fd, f.NN, f.ps, ?_, C8.fnScope_by o.sc, ?_, o.ln, o.lp, o.mt⟩⟩
      · rw [← ep]
        exact F
      · exact F.bindsN o.bd
    · cases hk
  refine ⟨fun x hx => He.free_ok X Gn (factK cd (m1 x hx)), fun x d hx => ?_, fun x kvs hx => ?_, fun x ts hx => ?_, fun f hf => ?_, fun c' hc => ?_, fun c' m hm => ?_, fun c' f hf => ?_⟩
  · obtain ⟨q, hq, e⟩ := List.any_eq_true.mp hx
    obtain ⟨e1, e2⟩ := Bool.and_eq_true_iff.mp e
    have e1 := eq_of_beq e1
    have e2 := beqD_eq _ _ e2
    subst e1 e2
    exact gloB_ok X Gn (List.all_eq_true.mp x1 q hq)
  · obtain ⟨q, hq, e⟩ := List.any_eq_true.mp hx
    obtain ⟨e1, e2⟩ := Bool.and_eq_true_iff.mp e
    have e1 := eq_of_beq e1
    have e2 := beqTs_eq _ _ e2
    subst e1 e2
    obtain ⟨i, hi⟩ := List.getElem?_of_mem (List.mem_map_of_mem (f := fun q : String × List (T × D) => ((fun K => He.ga K (sst q.1), q.2.map fun z => mst z.1) : He.Tab)) hq)
    obtain ⟨es, n, kd⟩ := c.t.tab i hi
    exact tabB_ok X Gn (He.glo_ok X Gn (factK cd (m6 q hq))) kd (List.all_eq_true.mp x2 q hq)
  · obtain ⟨q, hq, e⟩ := List.any_eq_true.mp hx
    obtain ⟨e1, e2⟩ := Bool.and_eq_true_iff.mp e
    have e1 := eq_of_beq e1
    have e2 := of_decide_eq_true e2
    subst e1 e2
    obtain ⟨l1, l2⟩ := Bool.and_eq_true_iff.mp (List.all_eq_true.mp x3 q hq)
    refine ⟨_, He.glo_ok X Gn (factK cd (m7 q hq)), fun t ht => okTB_ok (List.all_eq_true.mp l2 t ht), fun H => ?_⟩
    have := He.lstB_ok l1 H
    rw [List.map_map] at this ⊢
    exact this
  · obtain ⟨fn, h1, h2⟩ := fnf (List.all_eq_true.mp k1 f (by simpa using hf))
    exact ⟨_, fn, h1, He.glo_ok X Gn (factK cd (m2 f (by simpa using hf))), h2⟩
  · have hc' : c' ∈ G.cs := by simpa using hc
    obtain ⟨fn, h1, h2⟩ := fnf (List.all_eq_true.mp k2 c' hc')
    obtain ⟨n1, n2, n3⟩ := m3 c' hc'
    exact ⟨_, fn, h1, He.glo_ok X Gn (factK cd n1), He.mkr_ok (factK cd n3), h2⟩
  · have hm' : (c', m) ∈ G.ms := by simpa using hm
    obtain ⟨j1, j2⟩ := Bool.and_eq_true_iff.mp (List.all_eq_true.mp k3 (c', m) hm')
    obtain ⟨fn, h1, h2⟩ := fnf j1
    obtain ⟨n1, n2, n3⟩ := m3 c' (by simpa using j2)
    exact ⟨_, fn, h1, He.cls_ok (factK cd n2), He.meth_ok (factK cd (m4 (c', m) hm')), h2⟩
  · have hf' : (c', f) ∈ G.fl := by simpa using hf
    obtain ⟨n1, n2, n3⟩ := m3 c' (by simpa using List.all_eq_true.mp k4 (c', f) hf')
    exact ⟨He.cls_ok (factK cd n2), He.noat_ok (factK cd (m5 (c', f) hf'))⟩
end
end KW
/-! KwSp: the law's promise, from the plain one. -/
namespace KW
open PySem (Str Addr Value Program World Heap Operator CmpOp binaryOp compareOp PyData Scope Const Env Shared)
open PySem.Spec PyProof.Rows
open L2 (V Hp HO upd upd_same upd_ne upd_upd SqL SqT Rd RelV)
theorem ints_all : ∀ {ns : List Int} {us : List Value}, L2.Vals (ns.map V.int) us → (us.any fun u => match u with
    | .int _ _ => false
    | _ => true) = false
  | [], _, .nil => rfl
  | n :: ns, _, .cons (b := u) r h => by
    obtain ⟨t, rfl⟩ : ∃ t, u = Value.int n t := by
      cases u with
      | int j t => exact ⟨t, by cases r; rename_i e; cases e; rfl⟩
      | _ => cases r <;> contradiction
    rw [List.any_cons, ints_all h]; rfl
theorem look_mem {K : Fr} {a : Addr} {o : PySem.Obj} (h : K.lookup a = some o) : (a, o) ∈ K := by
  induction K with
  | nil => cases h
  | cons q r ih =>
    rw [List.lookup_cons] at h
    split at h
    · rename_i e
      have e2 := eq_of_beq e
      injection h with h
      subst h e2
      exact List.mem_cons_self
    · exact List.mem_cons_of_mem _ (ih h)
theorem scr_rd {K : Fr} {H : Hp} {a : Addr} {ns : List Int} (c : noInts K = true) (h : SqL K H a (ns.map V.int)) : Rd H a (.lst (ns.map V.int)) := by
  rcases h with h | ⟨o, its, n, h1, h2, h3, h4, h5, h6⟩
  · exact h
  · have := List.all_eq_true.mp c _ (look_mem h1)
    obtain ⟨oc, od, dt, sl⟩ := o
    cases h2; cases h4
    have e := ints_all h6
    have this : (!decide ("list" = "list") || its.toList.any fun u => match u with
      | .int _ _ => false
      | _ => true) = true := this
    rw [e] at this
    cases this
theorem ints_rd {K : Fr} {n : Nat} {M : MM} {H : Hp} : ∀ ns : List Int, RDs K n M H (ns.map D.int) (ns.map V.int)
  | [] => .nil
  | n :: r => .cons (.int n) (ints_rd r)
theorem rh0 {K : Fr} {H : Hp} : RH K ⟨fun _ => 0, fun _ => none, none⟩ H [] :=
  ⟨fun _ _ e => (by cases e), fun _ e => (absurd e (Nat.not_lt_zero _)), fun _ _ _ _ _ e => (by cases e), fun _ _ e => (by cases e)⟩
theorem sp_law {K : Fr} {H : Hp} {a : Addr} {ns : List Int} {C : CallF} {h : List Cell} (c : noInts K = true) (hS : SqL K H a (ns.map V.int)) (p : C "law" [.lst (ns.map D.int)] [] = .ok (.val (.bl true)) ⟨[], h⟩) :
    spOf K C "law" [.ref a] H (fun v _ => v = .bl true) fun _ _ _ => False := by
  refine ⟨⟨fun _ => 0, fun _ => none, none⟩, [.lst (ns.map D.int)], [], rfl, rh0, fun _ => rfl, .cons (.lst (scr_rd c hS) rfl (ints_rd ns)) .nil, ?_⟩
  rw [p]
  intro M' H' v _ _ _ r _ _
  cases r with
  | val r => cases r; rfl
end KW
/-! KwProg: the law in the small language. -/
namespace KW
def kcls : List String := ["Store"]
def kt_KEY_WORDS : List (T × D) := [([104, 97, 115], (.tup [(.int 1), (.int 199)])), ([100, 114, 111, 112], (.tup [(.int 1), (.int 199)])), ([107, 105, 110, 100], (.tup [(.int 1), (.int 1)])), ([107, 101, 121, 115], (.tup [(.int 0), (.int 0)])), ([114, 101, 110, 97, 109, 101], (.tup [(.int 2), (.int 2)])), ([101, 110, 100], (.tup [(.int 2), (.int 2)])), ([108, 101, 102, 116], (.tup [(.int 1), (.int 1)])), ([115, 116, 97, 121], (.tup [(.int 1), (.int 1)]))]
def kt_ROW_WORDS : List (T × D) := [([102, 105, 114, 115, 116], (.tup [(.int 2), (.int 199)])), ([108, 97, 115, 116], (.tup [(.int 2), (.int 199)])), ([116, 97, 107, 101, 102, 105, 114, 115, 116], (.tup [(.int 1), (.int 1)])), ([116, 97, 107, 101, 108, 97, 115, 116], (.tup [(.int 1), (.int 1)])), ([109, 97, 110, 121], (.tup [(.int 1), (.int 1)])), ([115, 108, 105, 99, 101], (.tup [(.int 3), (.int 3)])), ([99, 97, 114, 114, 121], (.tup [(.int 2), (.int 2)]))]
def kt_SET_WORDS : List (T × D) := [([105, 110], (.tup [(.int 2), (.int 199)])), ([111, 117, 116], (.tup [(.int 2), (.int 199)])), ([119, 105, 116, 104, 105, 110], (.tup [(.int 2), (.int 2)])), ([97, 108, 108], (.tup [(.int 1), (.int 1)])), ([98, 111, 116, 104], (.tup [(.int 2), (.int 2)])), ([101, 105, 116, 104, 101, 114], (.tup [(.int 2), (.int 2)])), ([108, 101, 115, 115], (.tup [(.int 2), (.int 2)]))]
def kl_OF_TWO : List T := [[98, 111, 116, 104], [101, 105, 116, 104, 101, 114], [108, 101, 115, 115]]
def kt_TABLE_WORDS : List (T × D) := [([102, 105, 101, 108, 100], (.tup [(.int 3), (.int 3)])), ([97, 115, 107], (.tup [(.int 2), (.int 2)])), ([110, 111, 102, 105, 101, 108, 100], (.tup [(.int 2), (.int 199)])), ([102, 105, 101, 108, 100, 115], (.tup [(.int 1), (.int 1)]))]
def kt_RANK_WORDS : List (T × D) := [([114, 97, 110, 107], (.tup [(.int 3), (.int 3)])), ([117, 110, 114, 97, 110, 107], (.tup [(.int 2), (.int 199)])), ([112, 108, 97, 99, 101], (.tup [(.int 2), (.int 2)])), ([115, 99, 111, 114, 101], (.tup [(.int 2), (.int 2)])), ([98, 101, 115, 116], (.tup [(.int 3), (.int 3)]))]
def kt_TEXT_WORDS : List (T × D) := [([112, 117, 116], (.tup [(.int 2), (.int 2)])), ([112, 117, 116, 110, 101, 119], (.tup [(.int 2), (.int 2)])), ([103, 101, 116], (.tup [(.int 1), (.int 1)])), ([115, 119, 97, 112], (.tup [(.int 2), (.int 2)])), ([97, 100, 100], (.tup [(.int 2), (.int 2)])), ([106, 111, 105, 110], (.tup [(.int 2), (.int 2)])), ([108, 111, 110, 103], (.tup [(.int 1), (.int 1)]))]
/-- _wall: k -/
def f__wall : Fn := ⟨1, 1, [.whil (.cst (.bl true)) [.pas]]⟩
/-- number_in: text, figures, sign -/
def f_number_in : Fn := ⟨1, 3, [.asgn 1 (.ife (.p2 .startswith (.var 0) (.cst (.str [45]))) (.p2 .slFrom (.var 0) (.cst (.int 1))) (.var 0)), .ite (.or (.not (.chain .le .le (.cst (.int 1)) (.p1 .len (.var 1)) (.glb "MOST_FIGURES" (.int 15)))) (.not (.p1 .all (.comp [2] (.seq (.frz (.var 1))) [] (.p2 (.cmp .isIn) (.var 2) (.glb "FIGURES" (.str [48, 49, 50, 51, 52, 53, 54, 55, 56, 57]))))))) [.ret (.cst .non)] [], .ret (.ife (.p2 (.cmp .eq) (.p1 .str (.p1 .int (.var 0))) (.var 0)) (.p1 .int (.var 0)) (.cst .non))]⟩
/-- is_small: number -/
def f_is_small : Fn := ⟨1, 1, [.ret (.p2 (.cmp .le) (.p1 .abs (.var 0)) (.glb "MOST_NUMBER" (.int 999999999999999)))]⟩
/-- Store.__init__: self -/
def f_Store___init__ : Fn := ⟨1, 1, [.fset kcls (.var 0) "held" (.dct [] []), .fset kcls (.var 0) "ends" (.dct [] []), .fset kcls (.var 0) "stamps" (.dct [] []), .fset kcls (.var 0) "now" (.cst (.int 0)), .fset kcls (.var 0) "stamp" (.cst (.int 0))]⟩
/-- Store.kind: self, key -/
def f_Store_kind : Fn := ⟨2, 2, [.ret (.ife (.p2 (.cmp .isIn) (.var 1) (.fld kcls (.var 0) "held")) (.p2 .idx (.p2 .idx (.fld kcls (.var 0) "held") (.var 1)) (.cst (.int 0))) (.cst (.str [110, 111, 110, 101])))]⟩
/-- Store.value: self, key, kind, empty -/
def f_Store_value : Fn := ⟨4, 4, [.ite (.p2 (.cmp .notIn) (.var 1) (.fld kcls (.var 0) "held")) [.ret (.var 3)] [], .ret (.ife (.p2 (.cmp .eq) (.p2 .idx (.p2 .idx (.fld kcls (.var 0) "held") (.var 1)) (.cst (.int 0))) (.var 2)) (.p2 .idx (.p2 .idx (.fld kcls (.var 0) "held") (.var 1)) (.cst (.int 1))) (.cst .non))]⟩
/-- Store.changed: self, key -/
def f_Store_changed : Fn := ⟨2, 2, [.fset kcls (.var 0) "stamp" (.p2 .add (.fld kcls (.var 0) "stamp") (.cst (.int 1))), .iset (.fld kcls (.var 0) "stamps") (.var 1) (.fld kcls (.var 0) "stamp")]⟩
/-- Store.keep: self, key, kind, value -/
def f_Store_keep : Fn := ⟨4, 4, [.ite (.and (.p2 (.cmp .ne) (.var 2) (.cst (.str [116, 101, 120, 116]))) (.p2 (.cmp .eq) (.p1 .len (.var 3)) (.cst (.int 0)))) [.expr (.meth "Store" "drop" (.var 0) [(.var 1)])] [.iset (.fld kcls (.var 0) "held") (.var 1) (.tup [(.var 2), (.var 3)]), .expr (.meth "Store" "changed" (.var 0) [(.var 1)])]]⟩
/-- Store.drop: self, key -/
def f_Store_drop : Fn := ⟨2, 2, [.expr (.mut .popD (.fld kcls (.var 0) "ends") [(.var 1), (.cst .non)]), .ite (.p1 .isNone (.mut .popD (.fld kcls (.var 0) "held") [(.var 1), (.cst .non)])) [.ret (.cst (.bl false))] [], .expr (.meth "Store" "changed" (.var 0) [(.var 1)]), .ret (.cst (.bl true))]⟩
/-- Store.pass_time: self, many -/
def f_Store_pass_time : Fn := ⟨2, 2, [.expr (.call "_wall" [(.cst (.int 0))])]⟩
def b_Store_picture_0 : List St := [.unp [3, 4] (.p2 .idx (.fld kcls (.var 0) "held") (.var 2)), .ite (.p2 (.cmp .isIn) (.var 3) (.tup [(.cst (.str [116, 97, 98, 108, 101])), (.cst (.str [114, 97, 110, 107]))])) [.asgn 4 (.p1 .tuple (.comp [5] (.seq (.p1 .sortedKeys (.var 4))) [] (.tup [(.var 5), (.p2 .idx (.var 4) (.var 5))])))] [.ite (.p2 (.cmp .eq) (.var 3) (.cst (.str [114, 111, 119]))) [.asgn 4 (.p1 .tuple (.var 4))] [.ite (.p2 (.cmp .eq) (.var 3) (.cst (.str [115, 101, 116]))) [.asgn 4 (.p1 .tuple (.p1 .sortedKeys (.var 4)))] []]], .expr (.mut .append (.var 1) [(.tup [(.var 2), (.var 3), (.var 4), (.ife (.p2 (.cmp .isIn) (.var 2) (.fld kcls (.var 0) "ends")) (.p2 .sub (.p2 .idx (.fld kcls (.var 0) "ends") (.var 2)) (.fld kcls (.var 0) "now")) (.cst .non))])])]
/-- Store.picture: self, found, key, kind, value, one -/
def f_Store_picture : Fn := ⟨1, 6, [.asgn 1 (.lst []), .forr [2] (.seq (.p1 .sortedKeys (.fld kcls (.var 0) "held"))) b_Store_picture_0, .ret (.var 1)]⟩
/-- texts_row: some, one -/
def f_texts_row : Fn := ⟨1, 2, [.ret (.tup [(.cst (.str [114, 111, 119])), (.p1 .tuple (.comp [1] (.seq (.var 0)) [] (.tup [(.cst (.str [116, 101, 120, 116])), (.var 1)])))])]⟩
/-- as_number: truth -/
def f_as_number : Fn := ⟨1, 1, [.ret (.tup [(.cst (.str [110, 117, 109, 98, 101, 114])), (.ife (.var 0) (.cst (.int 1)) (.cst (.int 0)))])]⟩
/-- between: row, first, last, many -/
def f_between : Fn := ⟨3, 4, [.asgn 3 (.p1 .len (.var 0)), .asgn 1 (.ife (.p2 (.cmp .lt) (.var 1) (.cst (.int 0))) (.p2 .max2 (.cst (.int 0)) (.p2 .add (.var 1) (.var 3))) (.var 1)), .asgn 2 (.ife (.p2 (.cmp .lt) (.var 2) (.cst (.int 0))) (.p2 .add (.var 2) (.var 3)) (.var 2)), .ret (.ife (.p2 (.cmp .ge) (.var 2) (.var 1)) (.p1 .list (.p3 .slBoth (.var 0) (.var 1) (.p2 .add (.var 2) (.cst (.int 1))))) (.lst []))]⟩
/-- renamed: store, old, new, kind, value, end -/
def f_renamed : Fn := ⟨3, 6, [.ite (.p2 (.cmp .notIn) (.var 1) (.fld kcls (.var 0) "held")) [.ret (.tup [(.cst (.str [98, 97, 100])), (.cst (.str [110, 111, 110, 101]))])] [], .unp [3, 4] (.p2 .idx (.fld kcls (.var 0) "held") (.var 1)), .asgn 5 (.p3 .dget (.fld kcls (.var 0) "ends") (.var 1) (.cst .non)), .expr (.meth "Store" "drop" (.var 0) [(.var 1)]), .expr (.meth "Store" "drop" (.var 0) [(.var 2)]), .expr (.meth "Store" "keep" (.var 0) [(.var 2), (.var 3), (.var 4)]), .ite (.p1 .notNone (.var 5)) [.iset (.fld kcls (.var 0) "ends") (.var 2) (.var 5)] [], .ret (.glb "DONE" (.tup [(.str [111, 107]), (.str [100, 111, 110, 101])]))]⟩
/-- ended: store, key, text, many -/
def f_ended : Fn := ⟨3, 4, [.asgn 3 (.call "number_in" [(.var 2)]), .ite (.or (.p1 .isNone (.var 3)) (.not (.chain .le .le (.cst (.int 1)) (.var 3) (.glb "MOST_TICKS" (.int 1000000))))) [.ret (.glb "NUMBER" (.tup [(.str [98, 97, 100]), (.str [110, 117, 109, 98, 101, 114])]))] [], .ite (.p2 (.cmp .isIn) (.var 1) (.fld kcls (.var 0) "held")) [.iset (.fld kcls (.var 0) "ends") (.var 1) (.p2 .add (.fld kcls (.var 0) "now") (.var 3))] [], .ret (.call "as_number" [(.p2 (.cmp .isIn) (.var 1) (.fld kcls (.var 0) "held"))])]⟩
/-- left_ticks: store, key -/
def f_left_ticks : Fn := ⟨2, 2, [.ite (.p2 (.cmp .notIn) (.var 1) (.fld kcls (.var 0) "held")) [.ret (.tup [(.cst (.str [110, 117, 109, 98, 101, 114])), (.p1 .neg (.cst (.int 2)))])] [], .ret (.tup [(.cst (.str [110, 117, 109, 98, 101, 114])), (.ife (.p2 (.cmp .isIn) (.var 1) (.fld kcls (.var 0) "ends")) (.p2 .sub (.p2 .idx (.fld kcls (.var 0) "ends") (.var 1)) (.fld kcls (.var 0) "now")) (.p1 .neg (.cst (.int 1))))])]⟩
/-- key_done: store, word, args, key -/
def f_key_done : Fn := ⟨3, 4, [.ite (.p2 (.cmp .eq) (.var 1) (.cst (.str [104, 97, 115]))) [.ret (.tup [(.cst (.str [110, 117, 109, 98, 101, 114])), (.p1 .len (.comp [3] (.seq (.var 2)) [(.p2 (.cmp .isIn) (.var 3) (.fld kcls (.var 0) "held"))] (.var 3)))])] [], .ite (.p2 (.cmp .eq) (.var 1) (.cst (.str [100, 114, 111, 112]))) [.ret (.tup [(.cst (.str [110, 117, 109, 98, 101, 114])), (.p1 .len (.comp [3] (.seq (.var 2)) [(.meth "Store" "drop" (.var 0) [(.var 3)])] (.var 3)))])] [], .ite (.p2 (.cmp .eq) (.var 1) (.cst (.str [107, 105, 110, 100]))) [.ret (.tup [(.cst (.str [111, 107])), (.meth "Store" "kind" (.var 0) [(.p2 .idx (.var 2) (.cst (.int 0)))])])] [], .ite (.p2 (.cmp .eq) (.var 1) (.cst (.str [107, 101, 121, 115]))) [.ret (.ife (.p2 (.cmp .gt) (.p1 .len (.fld kcls (.var 0) "held")) (.glb "MOST_PARTS" (.int 200))) (.glb "LONG" (.tup [(.str [98, 97, 100]), (.str [108, 111, 110, 103])])) (.call "texts_row" [(.p1 .sortedKeys (.fld kcls (.var 0) "held"))]))] [], .ite (.p2 (.cmp .eq) (.var 1) (.cst (.str [114, 101, 110, 97, 109, 101]))) [.ret (.call "renamed" [(.var 0), (.p2 .idx (.var 2) (.cst (.int 0))), (.p2 .idx (.var 2) (.cst (.int 1)))])] [], .ite (.p2 (.cmp .eq) (.var 1) (.cst (.str [101, 110, 100]))) [.ret (.call "ended" [(.var 0), (.p2 .idx (.var 2) (.cst (.int 0))), (.p2 .idx (.var 2) (.cst (.int 1)))])] [], .ite (.p2 (.cmp .eq) (.var 1) (.cst (.str [108, 101, 102, 116]))) [.ret (.call "left_ticks" [(.var 0), (.p2 .idx (.var 2) (.cst (.int 0)))])] [], .ret (.call "as_number" [(.p1 .notNone (.mut .popD (.fld kcls (.var 0) "ends") [(.p2 .idx (.var 2) (.cst (.int 0))), (.cst .non)]))])]⟩
/-- put_in_rows: store, word, key, row, texts, later -/
def f_put_in_rows : Fn := ⟨5, 6, [.asgn 5 (.ife (.p2 (.cmp .eq) (.var 1) (.cst (.str [102, 105, 114, 115, 116]))) (.p2 .add (.p1 .rev (.var 4)) (.var 3)) (.p2 .add (.var 3) (.var 4))), .ite (.p2 (.cmp .gt) (.p1 .len (.var 5)) (.glb "MOST_PARTS" (.int 200))) [.ret (.glb "LONG" (.tup [(.str [98, 97, 100]), (.str [108, 111, 110, 103])]))] [], .expr (.meth "Store" "keep" (.var 0) [(.var 2), (.cst (.str [114, 111, 119])), (.frz (.var 5))]), .ret (.tup [(.cst (.str [110, 117, 109, 98, 101, 114])), (.p1 .len (.var 5))])]⟩
/-- taken: store, word, key, row, found -/
def f_taken : Fn := ⟨4, 5, [.ite (.not (.var 3)) [.ret (.glb "NONE" (.tup [(.str [110, 111, 110, 101])]))] [], .asgn 4 (.ife (.p2 (.cmp .eq) (.var 1) (.cst (.str [116, 97, 107, 101, 102, 105, 114, 115, 116]))) (.p2 .idx (.var 3) (.cst (.int 0))) (.p2 .idx (.var 3) (.p1 .neg (.cst (.int 1))))), .expr (.meth "Store" "keep" (.var 0) [(.var 2), (.cst (.str [114, 111, 119])), (.ife (.p2 (.cmp .eq) (.var 1) (.cst (.str [116, 97, 107, 101, 102, 105, 114, 115, 116]))) (.p2 .slFrom (.var 3) (.cst (.int 1))) (.p2 .slTo (.var 3) (.p1 .neg (.cst (.int 1)))))]), .ret (.tup [(.cst (.str [116, 101, 120, 116])), (.var 4)])]⟩
/-- carried: store, key, row, goal, other, found -/
def f_carried : Fn := ⟨4, 6, [.asgn 4 (.meth "Store" "value" (.var 0) [(.var 3), (.cst (.str [114, 111, 119])), (.lst [])]), .ite (.p1 .isNone (.var 4)) [.ret (.glb "KIND" (.tup [(.str [98, 97, 100]), (.str [107, 105, 110, 100])]))] [], .ite (.not (.var 2)) [.ret (.glb "NONE" (.tup [(.str [110, 111, 110, 101])]))] [], .ite (.p2 (.cmp .eq) (.var 3) (.var 1)) [.expr (.meth "Store" "keep" (.var 0) [(.var 1), (.cst (.str [114, 111, 119])), (.p2 .add (.p2 .slFrom (.var 2) (.p1 .neg (.cst (.int 1)))) (.p2 .slTo (.var 2) (.p1 .neg (.cst (.int 1)))))]), .ret (.tup [(.cst (.str [116, 101, 120, 116])), (.p2 .idx (.var 2) (.p1 .neg (.cst (.int 1))))])] [], .ite (.p2 (.cmp .eq) (.p1 .len (.var 4)) (.glb "MOST_PARTS" (.int 200))) [.ret (.glb "LONG" (.tup [(.str [98, 97, 100]), (.str [108, 111, 110, 103])]))] [], .asgn 5 (.call "taken" [(.var 0), (.cst (.str [116, 97, 107, 101, 108, 97, 115, 116])), (.var 1), (.var 2)]), .expr (.call "put_in_rows" [(.var 0), (.cst (.str [102, 105, 114, 115, 116])), (.var 3), (.meth "Store" "value" (.var 0) [(.var 3), (.cst (.str [114, 111, 119])), (.lst [])]), (.lst [(.p2 .idx (.var 5) (.cst (.int 1)))])]), .ret (.var 5)]⟩
/-- row_done: store, word, args, key, row, first, last -/
def f_row_done : Fn := ⟨3, 7, [.asgn 3 (.p2 .idx (.var 2) (.cst (.int 0))), .asgn 4 (.meth "Store" "value" (.var 0) [(.var 3), (.cst (.str [114, 111, 119])), (.lst [])]), .ite (.p1 .isNone (.var 4)) [.ret (.glb "KIND" (.tup [(.str [98, 97, 100]), (.str [107, 105, 110, 100])]))] [], .ite (.p2 (.cmp .isIn) (.var 1) (.tup [(.cst (.str [102, 105, 114, 115, 116])), (.cst (.str [108, 97, 115, 116]))])) [.ret (.call "put_in_rows" [(.var 0), (.var 1), (.var 3), (.var 4), (.p2 .slFrom (.var 2) (.cst (.int 1)))])] [], .ite (.p2 (.cmp .isIn) (.var 1) (.tup [(.cst (.str [116, 97, 107, 101, 102, 105, 114, 115, 116])), (.cst (.str [116, 97, 107, 101, 108, 97, 115, 116]))])) [.ret (.call "taken" [(.var 0), (.var 1), (.var 3), (.var 4)])] [], .ite (.p2 (.cmp .eq) (.var 1) (.cst (.str [109, 97, 110, 121]))) [.ret (.tup [(.cst (.str [110, 117, 109, 98, 101, 114])), (.p1 .len (.var 4))])] [], .ite (.p2 (.cmp .eq) (.var 1) (.cst (.str [99, 97, 114, 114, 121]))) [.ret (.call "carried" [(.var 0), (.var 3), (.var 4), (.p2 .idx (.var 2) (.cst (.int 1)))])] [], .asgn 5 (.call "number_in" [(.p2 .idx (.var 2) (.cst (.int 1)))]), .asgn 6 (.call "number_in" [(.p2 .idx (.var 2) (.cst (.int 2)))]), .ite (.or (.p1 .isNone (.var 5)) (.p1 .isNone (.var 6))) [.ret (.glb "NUMBER" (.tup [(.str [98, 97, 100]), (.str [110, 117, 109, 98, 101, 114])]))] [], .ret (.call "texts_row" [(.call "between" [(.var 4), (.var 5), (.var 6)])])]⟩
def b_put_in_sets_0 : List St := [.iset (.var 4) (.var 5) (.cst (.bl true))]
/-- put_in_sets: store, key, some, texts, later, text -/
def f_put_in_sets : Fn := ⟨4, 6, [.asgn 4 (.p1 .copy (.var 2)), .forr [5] (.seq (.var 3)) b_put_in_sets_0, .ite (.p2 (.cmp .gt) (.p1 .len (.var 4)) (.glb "MOST_PARTS" (.int 200))) [.ret (.glb "LONG" (.tup [(.str [98, 97, 100]), (.str [108, 111, 110, 103])]))] [], .ite (.p2 (.cmp .gt) (.p1 .len (.var 4)) (.p1 .len (.var 2))) [.expr (.meth "Store" "keep" (.var 0) [(.var 1), (.cst (.str [115, 101, 116])), (.frz (.var 4))])] [], .ret (.tup [(.cst (.str [110, 117, 109, 98, 101, 114])), (.p2 .sub (.p1 .len (.var 4)) (.p1 .len (.var 2)))])]⟩
def b_taken_out_0 : List St := [.expr (.mut .popD (.var 4) [(.var 5), (.cst .non)])]
/-- taken_out: store, key, some, texts, later, text -/
def f_taken_out : Fn := ⟨4, 6, [.asgn 4 (.p1 .copy (.var 2)), .forr [5] (.seq (.var 3)) b_taken_out_0, .ite (.p2 (.cmp .lt) (.p1 .len (.var 4)) (.p1 .len (.var 2))) [.expr (.meth "Store" "keep" (.var 0) [(.var 1), (.cst (.str [115, 101, 116])), (.frz (.var 4))])] [], .ret (.tup [(.cst (.str [110, 117, 109, 98, 101, 114])), (.p2 .sub (.p1 .len (.var 2)) (.p1 .len (.var 4)))])]⟩
/-- of_two: word, some, other, text -/
def f_of_two : Fn := ⟨3, 4, [.ite (.p2 (.cmp .eq) (.var 0) (.cst (.str [98, 111, 116, 104]))) [.ret (.comp [3] (.keys (.var 1)) [(.p2 (.cmp .isIn) (.var 3) (.var 2))] (.var 3))] [], .ite (.p2 (.cmp .eq) (.var 0) (.cst (.str [108, 101, 115, 115]))) [.ret (.comp [3] (.keys (.var 1)) [(.p2 (.cmp .notIn) (.var 3) (.var 2))] (.var 3))] [], .ret (.p2 .add (.p1 .listKeys (.var 1)) (.comp [3] (.keys (.var 2)) [(.p2 (.cmp .notIn) (.var 3) (.var 1))] (.var 3)))]⟩
/-- set_done: store, word, args, key, some, other, found -/
def f_set_done : Fn := ⟨3, 7, [.asgn 3 (.p2 .idx (.var 2) (.cst (.int 0))), .asgn 4 (.meth "Store" "value" (.var 0) [(.var 3), (.cst (.str [115, 101, 116])), (.dct [] [])]), .asgn 5 (.ife (.inL "OF_TWO" kl_OF_TWO (.var 1)) (.meth "Store" "value" (.var 0) [(.p2 .idx (.var 2) (.cst (.int 1))), (.cst (.str [115, 101, 116])), (.dct [] [])]) (.dct [] [])), .ite (.or (.p1 .isNone (.var 4)) (.p1 .isNone (.var 5))) [.ret (.glb "KIND" (.tup [(.str [98, 97, 100]), (.str [107, 105, 110, 100])]))] [], .ite (.p2 (.cmp .eq) (.var 1) (.cst (.str [105, 110]))) [.ret (.call "put_in_sets" [(.var 0), (.var 3), (.var 4), (.p2 .slFrom (.var 2) (.cst (.int 1)))])] [], .ite (.p2 (.cmp .eq) (.var 1) (.cst (.str [111, 117, 116]))) [.ret (.call "taken_out" [(.var 0), (.var 3), (.var 4), (.p2 .slFrom (.var 2) (.cst (.int 1)))])] [], .ite (.p2 (.cmp .eq) (.var 1) (.cst (.str [119, 105, 116, 104, 105, 110]))) [.ret (.call "as_number" [(.p2 (.cmp .isIn) (.p2 .idx (.var 2) (.cst (.int 1))) (.var 4))])] [], .ite (.p2 (.cmp .eq) (.var 1) (.cst (.str [97, 108, 108]))) [.ret (.call "texts_row" [(.p1 .sortedKeys (.var 4))])] [], .asgn 6 (.p1 .sorted (.call "of_two" [(.var 1), (.var 4), (.frz (.var 5))])), .ret (.ife (.p2 (.cmp .gt) (.p1 .len (.var 6)) (.glb "MOST_PARTS" (.int 200))) (.glb "LONG" (.tup [(.str [98, 97, 100]), (.str [108, 111, 110, 103])])) (.call "texts_row" [(.frz (.var 6))]))]⟩
/-- with_entry: store, key, kind, some, name, value, is_new, later -/
def f_with_entry : Fn := ⟨6, 8, [.asgn 6 (.p2 (.cmp .notIn) (.var 4) (.var 3)), .ite (.and (.var 6) (.p2 (.cmp .eq) (.p1 .len (.var 3)) (.glb "MOST_FIELDS" (.int 100)))) [.ret (.glb "LONG" (.tup [(.str [98, 97, 100]), (.str [108, 111, 110, 103])]))] [], .asgn 7 (.p1 .copy (.var 3)), .iset (.var 7) (.var 4) (.var 5), .ite (.or (.var 6) (.p2 (.cmp .ne) (.p2 .idx (.var 3) (.var 4)) (.var 5))) [.expr (.meth "Store" "keep" (.var 0) [(.var 1), (.var 2), (.frz (.var 7))])] [], .ret (.call "as_number" [(.var 6)])]⟩
def b_without_0 : List St := [.expr (.mut .popD (.var 5) [(.var 6), (.cst .non)])]
/-- without: store, key, kind, some, names, later, name -/
def f_without : Fn := ⟨5, 7, [.asgn 5 (.p1 .copy (.var 3)), .forr [6] (.seq (.var 4)) b_without_0, .ite (.p2 (.cmp .lt) (.p1 .len (.var 5)) (.p1 .len (.var 3))) [.expr (.meth "Store" "keep" (.var 0) [(.var 1), (.var 2), (.frz (.var 5))])] [], .ret (.tup [(.cst (.str [110, 117, 109, 98, 101, 114])), (.p2 .sub (.p1 .len (.var 3)) (.p1 .len (.var 5)))])]⟩
def b_table_done_0 : List St := [.expr (.mut .extend (.var 5) [(.lst [(.var 6), (.p2 .idx (.var 4) (.var 6))])])]
/-- table_done: store, word, args, key, some, found, name -/
def f_table_done : Fn := ⟨3, 7, [.asgn 3 (.p2 .idx (.var 2) (.cst (.int 0))), .asgn 4 (.meth "Store" "value" (.var 0) [(.var 3), (.cst (.str [116, 97, 98, 108, 101])), (.dct [] [])]), .ite (.p1 .isNone (.var 4)) [.ret (.glb "KIND" (.tup [(.str [98, 97, 100]), (.str [107, 105, 110, 100])]))] [], .ite (.p2 (.cmp .eq) (.var 1) (.cst (.str [102, 105, 101, 108, 100]))) [.ret (.call "with_entry" [(.var 0), (.var 3), (.cst (.str [116, 97, 98, 108, 101])), (.var 4), (.p2 .idx (.var 2) (.cst (.int 1))), (.p2 .idx (.var 2) (.cst (.int 2)))])] [], .ite (.p2 (.cmp .eq) (.var 1) (.cst (.str [110, 111, 102, 105, 101, 108, 100]))) [.ret (.call "without" [(.var 0), (.var 3), (.cst (.str [116, 97, 98, 108, 101])), (.var 4), (.p2 .slFrom (.var 2) (.cst (.int 1)))])] [], .ite (.p2 (.cmp .eq) (.var 1) (.cst (.str [97, 115, 107]))) [.ret (.ife (.p2 (.cmp .isIn) (.p2 .idx (.var 2) (.cst (.int 1))) (.var 4)) (.tup [(.cst (.str [116, 101, 120, 116])), (.p2 .idx (.var 4) (.p2 .idx (.var 2) (.cst (.int 1))))]) (.glb "NONE" (.tup [(.str [110, 111, 110, 101])])))] [], .asgn 5 (.lst []), .forr [6] (.seq (.p1 .sortedKeys (.var 4))) b_table_done_0, .ret (.call "texts_row" [(.frz (.var 5))])]⟩
/-- in_order: some, number, name -/
def f_in_order : Fn := ⟨1, 3, [.ret (.comp [1, 2] (.seq (.p1 .sorted (.comp [2] (.keys (.var 0)) [] (.tup [(.p2 .idx (.var 0) (.var 2)), (.var 2)])))) [] (.var 2))]⟩
/-- rank_done: store, word, args, key, some, number, first, last -/
def f_rank_done : Fn := ⟨3, 8, [.asgn 3 (.p2 .idx (.var 2) (.cst (.int 0))), .asgn 4 (.meth "Store" "value" (.var 0) [(.var 3), (.cst (.str [114, 97, 110, 107])), (.dct [] [])]), .ite (.p1 .isNone (.var 4)) [.ret (.glb "KIND" (.tup [(.str [98, 97, 100]), (.str [107, 105, 110, 100])]))] [], .ite (.p2 (.cmp .eq) (.var 1) (.cst (.str [114, 97, 110, 107]))) [.asgn 5 (.call "number_in" [(.p2 .idx (.var 2) (.cst (.int 1)))]), .ret (.ife (.p1 .isNone (.var 5)) (.glb "NUMBER" (.tup [(.str [98, 97, 100]), (.str [110, 117, 109, 98, 101, 114])])) (.call "with_entry" [(.var 0), (.var 3), (.cst (.str [114, 97, 110, 107])), (.var 4), (.p2 .idx (.var 2) (.cst (.int 2))), (.var 5)]))] [], .ite (.p2 (.cmp .eq) (.var 1) (.cst (.str [117, 110, 114, 97, 110, 107]))) [.ret (.call "without" [(.var 0), (.var 3), (.cst (.str [114, 97, 110, 107])), (.var 4), (.p2 .slFrom (.var 2) (.cst (.int 1)))])] [], .ite (.p2 (.cmp .eq) (.var 1) (.cst (.str [98, 101, 115, 116]))) [.asgn 6 (.call "number_in" [(.p2 .idx (.var 2) (.cst (.int 1)))]), .asgn 7 (.call "number_in" [(.p2 .idx (.var 2) (.cst (.int 2)))]), .ite (.or (.p1 .isNone (.var 6)) (.p1 .isNone (.var 7))) [.ret (.glb "NUMBER" (.tup [(.str [98, 97, 100]), (.str [110, 117, 109, 98, 101, 114])]))] [], .ret (.call "texts_row" [(.call "between" [(.call "in_order" [(.var 4)]), (.var 6), (.var 7)])])] [], .ite (.p2 (.cmp .notIn) (.p2 .idx (.var 2) (.cst (.int 1))) (.var 4)) [.ret (.glb "NONE" (.tup [(.str [110, 111, 110, 101])]))] [], .ret (.tup [(.cst (.str [110, 117, 109, 98, 101, 114])), (.ife (.p2 (.cmp .eq) (.var 1) (.cst (.str [115, 99, 111, 114, 101]))) (.p2 .idx (.var 4) (.p2 .idx (.var 2) (.cst (.int 1)))) (.p2 .index (.call "in_order" [(.var 4)]) (.p2 .idx (.var 2) (.cst (.int 1)))))])]⟩
/-- told_text: text -/
def f_told_text : Fn := ⟨1, 1, [.ret (.ife (.p1 .isNone (.var 0)) (.glb "NONE" (.tup [(.str [110, 111, 110, 101])])) (.tup [(.cst (.str [116, 101, 120, 116])), (.var 0)]))]⟩
/-- put: store, key, text -/
def f_put : Fn := ⟨3, 3, [.expr (.mut .popD (.fld kcls (.var 0) "ends") [(.var 1), (.cst .non)]), .expr (.meth "Store" "keep" (.var 0) [(.var 1), (.cst (.str [116, 101, 120, 116])), (.var 2)]), .ret (.glb "DONE" (.tup [(.str [111, 107]), (.str [100, 111, 110, 101])]))]⟩
/-- added: store, key, old, text, more, number -/
def f_added : Fn := ⟨4, 6, [.asgn 4 (.call "number_in" [(.var 3)]), .asgn 5 (.call "number_in" [(.ife (.p1 .isNone (.var 2)) (.cst (.str [48])) (.var 2))]), .ite (.or (.p1 .isNone (.var 4)) (.or (.p1 .isNone (.var 5)) (.not (.call "is_small" [(.p2 .add (.var 5) (.var 4))])))) [.ret (.glb "NUMBER" (.tup [(.str [98, 97, 100]), (.str [110, 117, 109, 98, 101, 114])]))] [], .expr (.meth "Store" "keep" (.var 0) [(.var 1), (.cst (.str [116, 101, 120, 116])), (.p1 .str (.p2 .add (.var 5) (.var 4)))]), .ret (.tup [(.cst (.str [110, 117, 109, 98, 101, 114])), (.p2 .add (.var 5) (.var 4))])]⟩
/-- joined: store, key, old, text, found -/
def f_joined : Fn := ⟨4, 5, [.asgn 4 (.p2 .add (.ife (.p1 .isNone (.var 2)) (.cst (.str [])) (.var 2)) (.var 3)), .ite (.p2 (.cmp .gt) (.p1 .len (.var 4)) (.glb "MOST_TEXT" (.int 300))) [.ret (.glb "LONG" (.tup [(.str [98, 97, 100]), (.str [108, 111, 110, 103])]))] [], .expr (.meth "Store" "keep" (.var 0) [(.var 1), (.cst (.str [116, 101, 120, 116])), (.frz (.var 4))]), .ret (.tup [(.cst (.str [110, 117, 109, 98, 101, 114])), (.p1 .len (.var 4))])]⟩
/-- text_done: store, word, args, key, is_new, old -/
def f_text_done : Fn := ⟨3, 6, [.asgn 3 (.p2 .idx (.var 2) (.cst (.int 0))), .ite (.p2 (.cmp .eq) (.var 1) (.cst (.str [112, 117, 116]))) [.ret (.call "put" [(.var 0), (.var 3), (.p2 .idx (.var 2) (.cst (.int 1)))])] [], .ite (.p2 (.cmp .eq) (.var 1) (.cst (.str [112, 117, 116, 110, 101, 119]))) [.asgn 4 (.p2 (.cmp .notIn) (.var 3) (.fld kcls (.var 0) "held")), .ite (.var 4) [.expr (.meth "Store" "keep" (.var 0) [(.var 3), (.cst (.str [116, 101, 120, 116])), (.p2 .idx (.var 2) (.cst (.int 1)))])] [], .ret (.call "as_number" [(.var 4)])] [], .ite (.p2 (.cmp .notIn) (.meth "Store" "kind" (.var 0) [(.var 3)]) (.tup [(.cst (.str [110, 111, 110, 101])), (.cst (.str [116, 101, 120, 116]))])) [.ret (.glb "KIND" (.tup [(.str [98, 97, 100]), (.str [107, 105, 110, 100])]))] [], .asgn 5 (.meth "Store" "value" (.var 0) [(.var 3), (.cst (.str [116, 101, 120, 116])), (.cst .non)]), .ite (.p2 (.cmp .eq) (.var 1) (.cst (.str [103, 101, 116]))) [.ret (.call "told_text" [(.var 5)])] [], .ite (.p2 (.cmp .eq) (.var 1) (.cst (.str [115, 119, 97, 112]))) [.expr (.call "put" [(.var 0), (.var 3), (.p2 .idx (.var 2) (.cst (.int 1)))]), .ret (.call "told_text" [(.var 5)])] [], .ite (.p2 (.cmp .eq) (.var 1) (.cst (.str [97, 100, 100]))) [.ret (.call "added" [(.var 0), (.var 3), (.var 5), (.p2 .idx (.var 2) (.cst (.int 1)))])] [], .ite (.p2 (.cmp .eq) (.var 1) (.cst (.str [106, 111, 105, 110]))) [.ret (.call "joined" [(.var 0), (.var 3), (.var 5), (.p2 .idx (.var 2) (.cst (.int 1)))])] [], .ret (.tup [(.cst (.str [110, 117, 109, 98, 101, 114])), (.ife (.p1 .isNone (.var 5)) (.cst (.int 0)) (.p1 .len (.var 5)))])]⟩
/-- count_of: word, found -/
def f_count_of : Fn := ⟨1, 2, [.asgn 1 (.cst .non), .ite (.gIn "KEY_WORDS" kt_KEY_WORDS (.var 0)) [.asgn 1 (.gIdx "KEY_WORDS" kt_KEY_WORDS (.var 0))] [.ite (.gIn "TEXT_WORDS" kt_TEXT_WORDS (.var 0)) [.asgn 1 (.gIdx "TEXT_WORDS" kt_TEXT_WORDS (.var 0))] [.ite (.gIn "ROW_WORDS" kt_ROW_WORDS (.var 0)) [.asgn 1 (.gIdx "ROW_WORDS" kt_ROW_WORDS (.var 0))] [.ite (.gIn "SET_WORDS" kt_SET_WORDS (.var 0)) [.asgn 1 (.gIdx "SET_WORDS" kt_SET_WORDS (.var 0))] [.ite (.gIn "TABLE_WORDS" kt_TABLE_WORDS (.var 0)) [.asgn 1 (.gIdx "TABLE_WORDS" kt_TABLE_WORDS (.var 0))] [.ite (.gIn "RANK_WORDS" kt_RANK_WORDS (.var 0)) [.asgn 1 (.gIdx "RANK_WORDS" kt_RANK_WORDS (.var 0))] []]]]]], .ret (.var 1)]⟩
/-- wrong: word, args, count -/
def f_wrong : Fn := ⟨2, 3, [.asgn 2 (.call "count_of" [(.var 0)]), .ite (.p1 .isNone (.var 2)) [.ret (.tup [(.cst (.str [98, 97, 100])), (.cst (.str [119, 111, 114, 100]))])] [], .ret (.ife (.chain .le .le (.p2 .idx (.var 2) (.cst (.int 0))) (.p1 .len (.var 1)) (.p2 .idx (.var 2) (.cst (.int 1)))) (.cst .non) (.tup [(.cst (.str [98, 97, 100])), (.cst (.str [99, 111, 117, 110, 116]))]))]⟩
/-- answer: store, words, word, args, found -/
def f_answer : Fn := ⟨2, 5, [.asgn 2 (.p2 .idx (.var 1) (.cst (.int 0))), .asgn 3 (.p2 .slFrom (.var 1) (.cst (.int 1))), .asgn 4 (.call "wrong" [(.var 2), (.frz (.var 3))]), .ite (.p1 .notNone (.var 4)) [.ret (.var 4)] [], .ite (.gIn "KEY_WORDS" kt_KEY_WORDS (.var 2)) [.ret (.call "key_done" [(.var 0), (.var 2), (.frz (.var 3))])] [], .ite (.gIn "TEXT_WORDS" kt_TEXT_WORDS (.var 2)) [.ret (.call "text_done" [(.var 0), (.var 2), (.frz (.var 3))])] [], .ite (.gIn "ROW_WORDS" kt_ROW_WORDS (.var 2)) [.ret (.call "row_done" [(.var 0), (.var 2), (.frz (.var 3))])] [], .ite (.gIn "SET_WORDS" kt_SET_WORDS (.var 2)) [.ret (.call "set_done" [(.var 0), (.var 2), (.frz (.var 3))])] [], .ret (.ife (.gIn "TABLE_WORDS" kt_TABLE_WORDS (.var 2)) (.call "table_done" [(.var 0), (.var 2), (.frz (.var 3))]) (.call "rank_done" [(.var 0), (.var 2), (.frz (.var 3))]))]⟩
/-- _law_cell: _law_script, _law_k -/
def f__law_cell : Fn := ⟨2, 2, [.ite (.var 0) [.ret (.p2 .idx (.var 0) (.p2 .mod (.var 1) (.p1 .len (.var 0))))] [], .ret (.cst (.int 0))]⟩
/-- _law_mix: _law_script, _law_k, _law_number -/
def f__law_mix : Fn := ⟨2, 3, [.asgn 2 (.p2 .mod (.p2 .add (.call "_law_cell" [(.var 0), (.var 1)]) (.p2 .mul (.cst (.int 104729)) (.p2 .add (.var 1) (.cst (.int 1))))) (.cst (.int 4294967291))), .asgn 2 (.p2 .mod (.p2 .mul (.var 2) (.cst (.int 48271))) (.cst (.int 4294967279))), .ret (.p2 .mod (.p2 .add (.p2 .mul (.p2 .fdiv (.var 2) (.cst (.int 64))) (.cst (.int 69621))) (.var 2)) (.cst (.int 4294967231)))]⟩
/-- _law_draw: _law_script, _law_town, _law_many -/
def f__law_draw : Fn := ⟨3, 3, [.expr (.mut .append (.var 1) [(.cst (.int 0))]), .ret (.p2 .mod (.p2 .fdiv (.call "_law_mix" [(.var 0), (.p1 .len (.var 1))]) (.cst (.int 8))) (.var 2))]⟩
/-- _law_pick: _law_script, _law_town, _law_some -/
def f__law_pick : Fn := ⟨3, 3, [.ret (.p2 .idx (.var 2) (.call "_law_draw" [(.var 0), (.var 1), (.p1 .len (.var 2))]))]⟩
/-- _law_words: _law_parcel, _law_part -/
def f__law_words : Fn := ⟨1, 2, [.ret (.comp [1] (.seq (.p2 .idx (.var 0) (.cst (.int 1)))) [] (.p2 .idx (.var 1) (.cst (.int 1))))]⟩
def b_law_0 : List St := [.asgn 5 (.call "_law_pick" [(.var 0), (.var 1), (.lst [(.cst (.str [120])), (.cst (.str [121])), (.cst (.str [122]))])]), .asgn 6 (.call "_law_pick" [(.var 0), (.var 1), (.lst [(.cst (.str [105, 110])), (.cst (.str [105, 110])), (.cst (.str [111, 117, 116]))])]), .expr (.call "answer" [(.var 2), (.p2 .add (.lst [(.var 6), (.var 5)]) (.comp [16] (.rng1 (.p2 .add (.cst (.int 1)) (.call "_law_draw" [(.var 0), (.var 1), (.cst (.int 4))]))) [] (.call "_law_pick" [(.var 0), (.var 1), (.frz (.var 3))])))])]
def b_law_1 : List St := [.asgn 11 (.call "_law_words" [(.call "answer" [(.var 2), (.lst [(.cst (.str [97, 108, 108])), (.var 10)])])]), .asgn 12 (.call "_law_words" [(.call "answer" [(.var 2), (.lst [(.cst (.str [98, 111, 116, 104])), (.var 8), (.var 10)])])]), .asgn 13 (.call "_law_words" [(.call "answer" [(.var 2), (.lst [(.cst (.str [108, 101, 115, 115])), (.var 8), (.var 10)])])]), .asgn 14 (.call "_law_words" [(.call "answer" [(.var 2), (.lst [(.cst (.str [101, 105, 116, 104, 101, 114])), (.var 8), (.var 10)])])]), .asgn 15 (.call "_law_words" [(.call "answer" [(.var 2), (.lst [(.cst (.str [108, 101, 115, 115])), (.var 10), (.var 8)])])]), .ite (.or (.p2 (.cmp .ne) (.p1 .sorted (.p2 .add (.var 12) (.var 13))) (.var 9)) (.or (.p2 (.cmp .ne) (.p1 .sorted (.p2 .add (.p2 .add (.var 12) (.var 13)) (.var 15))) (.var 14)) (.p2 (.cmp .ne) (.p1 .sorted (.p2 .add (.var 12) (.var 15))) (.var 11)))) [.ret (.cst (.bl false))] [], .ite (.or (.p2 (.cmp .ne) (.call "_law_words" [(.call "answer" [(.var 2), (.lst [(.cst (.str [98, 111, 116, 104])), (.var 10), (.var 8)])])]) (.var 12)) (.p2 (.cmp .ne) (.p2 .add (.var 12) (.var 13)) (.p2 .add (.p1 .sorted (.var 12)) (.p1 .sorted (.var 13))))) [.ret (.cst (.bl false))] [], .ite (.p2 (.cmp .ne) (.call "_law_words" [(.call "answer" [(.var 2), (.lst [(.cst (.str [101, 105, 116, 104, 101, 114])), (.var 10), (.var 8)])])]) (.var 14)) [.ret (.cst (.bl false))] [], .ite (.and (.p2 (.cmp .eq) (.var 8) (.var 10)) (.or (.p2 (.cmp .ne) (.var 12) (.var 9)) (.or (.p2 (.cmp .ne) (.var 13) (.lst [])) (.p2 (.cmp .ne) (.var 14) (.var 9))))) [.ret (.cst (.bl false))] []]
def b_law_2 : List St := [.asgn 9 (.call "_law_words" [(.call "answer" [(.var 2), (.lst [(.cst (.str [97, 108, 108])), (.var 8)])])]), .ite (.or (.p2 (.cmp .ne) (.var 9) (.p1 .sortedSet (.var 9))) (.not (.p1 .all (.comp [17] (.seq (.frz (.var 9))) [] (.p2 (.cmp .eq) (.p2 .idx (.call "answer" [(.var 2), (.lst [(.cst (.str [119, 105, 116, 104, 105, 110])), (.var 8), (.var 17)])]) (.cst (.int 1))) (.cst (.int 1))))))) [.ret (.cst (.bl false))] [], .forr [10] (.seq (.lst [(.cst (.str [120])), (.cst (.str [121])), (.cst (.str [122])), (.cst (.str [110, 111, 110, 101]))])) b_law_1]
/-- law: _law_script, _law_town, _law_store, _law_menu, _law_k, _law_key, _law_word, _law_before, _law_one, _law_mine, _law_other, _law_its, _law_both, _law_apart, _law_whole, _law_back, _law_j, _law_text -/
def f_law : Fn := ⟨1, 18, [.asgn 1 (.box (.lst [])), .asgn 2 (.new "Store" []), .asgn 3 (.lst [(.cst (.str [97])), (.cst (.str [98])), (.cst (.str [99])), (.cst (.str [])), (.cst (.str [100, 32, 101])), (.cst (.str [102])), (.cst (.str [103])), (.cst (.str [90])), (.cst (.str [126]))]), .forr [4] (.rng1 (.call "_law_draw" [(.var 0), (.var 1), (.cst (.int 25))])) b_law_0, .asgn 7 (.meth "Store" "picture" (.var 2) []), .forr [8] (.seq (.lst [(.cst (.str [120])), (.cst (.str [121])), (.cst (.str [122])), (.cst (.str [110, 111, 110, 101]))])) b_law_2, .ret (.p2 (.cmp .eq) (.meth "Store" "picture" (.var 2) []) (.var 7))]⟩
def progL : List (String × Fn) := [("_wall", f__wall), ("number_in", f_number_in), ("is_small", f_is_small), ("Store.__init__", f_Store___init__), ("Store.kind", f_Store_kind), ("Store.value", f_Store_value), ("Store.changed", f_Store_changed), ("Store.keep", f_Store_keep), ("Store.drop", f_Store_drop), ("Store.pass_time", f_Store_pass_time), ("Store.picture", f_Store_picture), ("texts_row", f_texts_row), ("as_number", f_as_number), ("between", f_between), ("renamed", f_renamed), ("ended", f_ended), ("left_ticks", f_left_ticks), ("key_done", f_key_done), ("put_in_rows", f_put_in_rows), ("taken", f_taken), ("carried", f_carried), ("row_done", f_row_done), ("put_in_sets", f_put_in_sets), ("taken_out", f_taken_out), ("of_two", f_of_two), ("set_done", f_set_done), ("with_entry", f_with_entry), ("without", f_without), ("table_done", f_table_done), ("in_order", f_in_order), ("rank_done", f_rank_done), ("told_text", f_told_text), ("put", f_put), ("added", f_added), ("joined", f_joined), ("text_done", f_text_done), ("count_of", f_count_of), ("wrong", f_wrong), ("answer", f_answer), ("_law_cell", f__law_cell), ("_law_mix", f__law_mix), ("_law_draw", f__law_draw), ("_law_pick", f__law_pick), ("_law_words", f__law_words), ("law", f_law)]
def prog : Prog := fun n => progL.lookup n
end KW
/-! KwTop: the defs of the top, matched. -/
namespace KW
open PySem (Str Addr Value)
def top (i : Nat) : PyS := PySem.Challenge.pw_keywire_k17_whole_sets_together.main.body.getD i (.Pass ⟨0, 0, 0, 0⟩)
def tabs : Tabs := { gl := [("MOST_TEXT", (.int 300)), ("MOST_PARTS", (.int 200)), ("MOST_NUMBER", (.int 999999999999999)), ("DONE", (.tup [(.str [111, 107]), (.str [100, 111, 110, 101])])), ("NONE", (.tup [(.str [110, 111, 110, 101])])), ("KIND", (.tup [(.str [98, 97, 100]), (.str [107, 105, 110, 100])])), ("NUMBER", (.tup [(.str [98, 97, 100]), (.str [110, 117, 109, 98, 101, 114])])), ("LONG", (.tup [(.str [98, 97, 100]), (.str [108, 111, 110, 103])])), ("FIGURES", (.str [48, 49, 50, 51, 52, 53, 54, 55, 56, 57])), ("MOST_FIGURES", (.int 15)), ("MOST_TICKS", (.int 1000000)), ("MOST_FIELDS", (.int 100))], tb := [("KEY_WORDS", kt_KEY_WORDS), ("ROW_WORDS", kt_ROW_WORDS), ("SET_WORDS", kt_SET_WORDS), ("TABLE_WORDS", kt_TABLE_WORDS), ("RANK_WORDS", kt_RANK_WORDS), ("TEXT_WORDS", kt_TEXT_WORDS)], ls := [("OF_TWO", kl_OF_TWO)], fs := ["_wall", "number_in", "is_small", "texts_row", "as_number", "between", "renamed", "ended", "left_ticks", "key_done", "put_in_rows", "taken", "carried", "row_done", "put_in_sets", "taken_out", "of_two", "set_done", "with_entry", "without", "table_done", "in_order", "rank_done", "told_text", "put", "added", "joined", "text_done", "count_of", "wrong", "answer", "_law_cell", "_law_mix", "_law_draw", "_law_pick", "_law_words", "law"], cs := kcls, ms := [("Store", "__init__"), ("Store", "kind"), ("Store", "value"), ("Store", "changed"), ("Store", "keep"), ("Store", "drop"), ("Store", "pass_time"), ("Store", "picture")], fl := [("Store", "ends"), ("Store", "held"), ("Store", "now"), ("Store", "stamp"), ("Store", "stamps")], xs := [] }
def i__wall : FnI := ⟨"_wall", ("_wall", none), "_wall", "_wall", (top 0), f__wall, ["k"]⟩
def i_number_in : FnI := ⟨"number_in", ("number_in", none), "number_in", "number_in", (top 12), f_number_in, ["text", "figures", "sign"]⟩
def i_is_small : FnI := ⟨"is_small", ("is_small", none), "is_small", "is_small", (top 13), f_is_small, ["number"]⟩
def i_Store___init__ : FnI := ⟨"Store.__init__", ("Store", some "__init__"), "__init__", "Store.__init__", (L2.inClass (top 14) 0), f_Store___init__, ["self"]⟩
def i_Store_kind : FnI := ⟨"Store.kind", ("Store", some "kind"), "kind", "Store.kind", (L2.inClass (top 14) 1), f_Store_kind, ["self", "key"]⟩
def i_Store_value : FnI := ⟨"Store.value", ("Store", some "value"), "value", "Store.value", (L2.inClass (top 14) 2), f_Store_value, ["self", "key", "kind", "empty"]⟩
def i_Store_changed : FnI := ⟨"Store.changed", ("Store", some "changed"), "changed", "Store.changed", (L2.inClass (top 14) 3), f_Store_changed, ["self", "key"]⟩
def i_Store_keep : FnI := ⟨"Store.keep", ("Store", some "keep"), "keep", "Store.keep", (L2.inClass (top 14) 4), f_Store_keep, ["self", "key", "kind", "value"]⟩
def i_Store_drop : FnI := ⟨"Store.drop", ("Store", some "drop"), "drop", "Store.drop", (L2.inClass (top 14) 5), f_Store_drop, ["self", "key"]⟩
def i_Store_pass_time : FnI := ⟨"Store.pass_time", ("Store", some "pass_time"), "pass_time", "Store.pass_time", (L2.inClass (top 14) 6), f_Store_pass_time, ["self", "many"]⟩
def i_Store_picture : FnI := ⟨"Store.picture", ("Store", some "picture"), "picture", "Store.picture", (L2.inClass (top 14) 7), f_Store_picture, ["self", "found", "key", "kind", "value", "one"]⟩
def i_texts_row : FnI := ⟨"texts_row", ("texts_row", none), "texts_row", "texts_row", (top 15), f_texts_row, ["some", "one"]⟩
def i_as_number : FnI := ⟨"as_number", ("as_number", none), "as_number", "as_number", (top 16), f_as_number, ["truth"]⟩
def i_between : FnI := ⟨"between", ("between", none), "between", "between", (top 17), f_between, ["row", "first", "last", "many"]⟩
def i_renamed : FnI := ⟨"renamed", ("renamed", none), "renamed", "renamed", (top 21), f_renamed, ["store", "old", "new", "kind", "value", "end"]⟩
def i_ended : FnI := ⟨"ended", ("ended", none), "ended", "ended", (top 22), f_ended, ["store", "key", "text", "many"]⟩
def i_left_ticks : FnI := ⟨"left_ticks", ("left_ticks", none), "left_ticks", "left_ticks", (top 23), f_left_ticks, ["store", "key"]⟩
def i_key_done : FnI := ⟨"key_done", ("key_done", none), "key_done", "key_done", (top 24), f_key_done, ["store", "word", "args", "key"]⟩
def i_put_in_rows : FnI := ⟨"put_in_rows", ("put_in_rows", none), "put_in", "put_in", (top 27), f_put_in_rows, ["store", "word", "key", "row", "texts", "later"]⟩
def i_taken : FnI := ⟨"taken", ("taken", none), "taken", "taken", (top 29), f_taken, ["store", "word", "key", "row", "found"]⟩
def i_carried : FnI := ⟨"carried", ("carried", none), "carried", "carried", (top 30), f_carried, ["store", "key", "row", "goal", "other", "found"]⟩
def i_row_done : FnI := ⟨"row_done", ("row_done", none), "row_done", "row_done", (top 31), f_row_done, ["store", "word", "args", "key", "row", "first", "last"]⟩
def i_put_in_sets : FnI := ⟨"put_in_sets", ("put_in_sets", none), "put_in", "put_in", (top 35), f_put_in_sets, ["store", "key", "some", "texts", "later", "text"]⟩
def i_taken_out : FnI := ⟨"taken_out", ("taken_out", none), "taken_out", "taken_out", (top 37), f_taken_out, ["store", "key", "some", "texts", "later", "text"]⟩
def i_of_two : FnI := ⟨"of_two", ("of_two", none), "of_two", "of_two", (top 38), f_of_two, ["word", "some", "other", "text"]⟩
def i_set_done : FnI := ⟨"set_done", ("set_done", none), "set_done", "set_done", (top 39), f_set_done, ["store", "word", "args", "key", "some", "other", "found"]⟩
def i_with_entry : FnI := ⟨"with_entry", ("with_entry", none), "with_entry", "with_entry", (top 44), f_with_entry, ["store", "key", "kind", "some", "name", "value", "is_new", "later"]⟩
def i_without : FnI := ⟨"without", ("without", none), "without", "without", (top 45), f_without, ["store", "key", "kind", "some", "names", "later", "name"]⟩
def i_table_done : FnI := ⟨"table_done", ("table_done", none), "table_done", "table_done", (top 46), f_table_done, ["store", "word", "args", "key", "some", "found", "name"]⟩
def i_in_order : FnI := ⟨"in_order", ("in_order", none), "in_order", "in_order", (top 47), f_in_order, ["some", "number", "name"]⟩
def i_rank_done : FnI := ⟨"rank_done", ("rank_done", none), "rank_done", "rank_done", (top 48), f_rank_done, ["store", "word", "args", "key", "some", "number", "first", "last"]⟩
def i_told_text : FnI := ⟨"told_text", ("told_text", none), "told_text", "told_text", (top 51), f_told_text, ["text"]⟩
def i_put : FnI := ⟨"put", ("put", none), "put", "put", (top 52), f_put, ["store", "key", "text"]⟩
def i_added : FnI := ⟨"added", ("added", none), "added", "added", (top 53), f_added, ["store", "key", "old", "text", "more", "number"]⟩
def i_joined : FnI := ⟨"joined", ("joined", none), "joined", "joined", (top 54), f_joined, ["store", "key", "old", "text", "found"]⟩
def i_text_done : FnI := ⟨"text_done", ("text_done", none), "text_done", "text_done", (top 55), f_text_done, ["store", "word", "args", "key", "is_new", "old"]⟩
def i_count_of : FnI := ⟨"count_of", ("count_of", none), "count_of", "count_of", (top 57), f_count_of, ["word", "found"]⟩
def i_wrong : FnI := ⟨"wrong", ("wrong", none), "wrong", "wrong", (top 58), f_wrong, ["word", "args", "count"]⟩
def i_answer : FnI := ⟨"answer", ("answer", none), "answer", "answer", (top 59), f_answer, ["store", "words", "word", "args", "found"]⟩
def i__law_cell : FnI := ⟨"_law_cell", ("_law_cell", none), "_law_cell", "_law_cell", (top 61), f__law_cell, ["_law_script", "_law_k"]⟩
def i__law_mix : FnI := ⟨"_law_mix", ("_law_mix", none), "_law_mix", "_law_mix", (top 62), f__law_mix, ["_law_script", "_law_k", "_law_number"]⟩
def i__law_draw : FnI := ⟨"_law_draw", ("_law_draw", none), "_law_draw", "_law_draw", (top 63), f__law_draw, ["_law_script", "_law_town", "_law_many"]⟩
def i__law_pick : FnI := ⟨"_law_pick", ("_law_pick", none), "_law_pick", "_law_pick", (top 64), f__law_pick, ["_law_script", "_law_town", "_law_some"]⟩
def i__law_words : FnI := ⟨"_law_words", ("_law_words", none), "_law_words", "_law_words", (top 65), f__law_words, ["_law_parcel", "_law_part"]⟩
def i_law : FnI := ⟨"law", ("law", none), "law", "law", (top 66), f_law, ["_law_script", "_law_town", "_law_store", "_law_menu", "_law_k", "_law_key", "_law_word", "_law_before", "_law_one", "_law_mine", "_law_other", "_law_its", "_law_both", "_law_apart", "_law_whole", "_law_back", "_law_j", "_law_text"]⟩
theorem ok__wall : i__wall.Ok tabs := ⟨by decide +kernel, rfl, rfl, fun _ _ _ _ _ _ us hl => match us, hl with | [_], _ => rfl, by decide +kernel⟩
theorem ok_number_in : i_number_in.Ok tabs := ⟨by decide +kernel, rfl, rfl, fun _ _ _ _ _ _ us hl => match us, hl with | [_], _ => rfl, by decide +kernel⟩
theorem ok_is_small : i_is_small.Ok tabs := ⟨by decide +kernel, rfl, rfl, fun _ _ _ _ _ _ us hl => match us, hl with | [_], _ => rfl, by decide +kernel⟩
theorem ok_Store___init__ : i_Store___init__.Ok tabs := ⟨by decide +kernel, rfl, rfl, fun _ _ _ _ _ _ us hl => match us, hl with | [_], _ => rfl, by decide +kernel⟩
theorem ok_Store_kind : i_Store_kind.Ok tabs := ⟨by decide +kernel, rfl, rfl, fun _ _ _ _ _ _ us hl => match us, hl with | [_, _], _ => rfl, by decide +kernel⟩
theorem ok_Store_value : i_Store_value.Ok tabs := ⟨by decide +kernel, rfl, rfl, fun _ _ _ _ _ _ us hl => match us, hl with | [_, _, _, _], _ => rfl, by decide +kernel⟩
theorem ok_Store_changed : i_Store_changed.Ok tabs := ⟨by decide +kernel, rfl, rfl, fun _ _ _ _ _ _ us hl => match us, hl with | [_, _], _ => rfl, by decide +kernel⟩
theorem ok_Store_keep : i_Store_keep.Ok tabs := ⟨by decide +kernel, rfl, rfl, fun _ _ _ _ _ _ us hl => match us, hl with | [_, _, _, _], _ => rfl, by decide +kernel⟩
theorem ok_Store_drop : i_Store_drop.Ok tabs := ⟨by decide +kernel, rfl, rfl, fun _ _ _ _ _ _ us hl => match us, hl with | [_, _], _ => rfl, by decide +kernel⟩
theorem ok_Store_pass_time : i_Store_pass_time.Ok tabs := ⟨by decide +kernel, rfl, rfl, fun _ _ _ _ _ _ us hl => match us, hl with | [_, _], _ => rfl, by decide +kernel⟩
theorem ok_Store_picture : i_Store_picture.Ok tabs := ⟨by decide +kernel, rfl, rfl, fun _ _ _ _ _ _ us hl => match us, hl with | [_], _ => rfl, by decide +kernel⟩
theorem ok_texts_row : i_texts_row.Ok tabs := ⟨by decide +kernel, rfl, rfl, fun _ _ _ _ _ _ us hl => match us, hl with | [_], _ => rfl, by decide +kernel⟩
theorem ok_as_number : i_as_number.Ok tabs := ⟨by decide +kernel, rfl, rfl, fun _ _ _ _ _ _ us hl => match us, hl with | [_], _ => rfl, by decide +kernel⟩
theorem ok_between : i_between.Ok tabs := ⟨by decide +kernel, rfl, rfl, fun _ _ _ _ _ _ us hl => match us, hl with | [_, _, _], _ => rfl, by decide +kernel⟩
theorem ok_renamed : i_renamed.Ok tabs := ⟨by decide +kernel, rfl, rfl, fun _ _ _ _ _ _ us hl => match us, hl with | [_, _, _], _ => rfl, by decide +kernel⟩
theorem ok_ended : i_ended.Ok tabs := ⟨by decide +kernel, rfl, rfl, fun _ _ _ _ _ _ us hl => match us, hl with | [_, _, _], _ => rfl, by decide +kernel⟩
theorem ok_left_ticks : i_left_ticks.Ok tabs := ⟨by decide +kernel, rfl, rfl, fun _ _ _ _ _ _ us hl => match us, hl with | [_, _], _ => rfl, by decide +kernel⟩
theorem ok_key_done : i_key_done.Ok tabs := ⟨by decide +kernel, rfl, rfl, fun _ _ _ _ _ _ us hl => match us, hl with | [_, _, _], _ => rfl, by decide +kernel⟩
theorem ok_put_in_rows : i_put_in_rows.Ok tabs := ⟨by decide +kernel, rfl, rfl, fun _ _ _ _ _ _ us hl => match us, hl with | [_, _, _, _, _], _ => rfl, by decide +kernel⟩
theorem ok_taken : i_taken.Ok tabs := ⟨by decide +kernel, rfl, rfl, fun _ _ _ _ _ _ us hl => match us, hl with | [_, _, _, _], _ => rfl, by decide +kernel⟩
theorem ok_carried : i_carried.Ok tabs := ⟨by decide +kernel, rfl, rfl, fun _ _ _ _ _ _ us hl => match us, hl with | [_, _, _, _], _ => rfl, by decide +kernel⟩
theorem ok_row_done : i_row_done.Ok tabs := ⟨by decide +kernel, rfl, rfl, fun _ _ _ _ _ _ us hl => match us, hl with | [_, _, _], _ => rfl, by decide +kernel⟩
theorem ok_put_in_sets : i_put_in_sets.Ok tabs := ⟨by decide +kernel, rfl, rfl, fun _ _ _ _ _ _ us hl => match us, hl with | [_, _, _, _], _ => rfl, by decide +kernel⟩
theorem ok_taken_out : i_taken_out.Ok tabs := ⟨by decide +kernel, rfl, rfl, fun _ _ _ _ _ _ us hl => match us, hl with | [_, _, _, _], _ => rfl, by decide +kernel⟩
theorem ok_of_two : i_of_two.Ok tabs := ⟨by decide +kernel, rfl, rfl, fun _ _ _ _ _ _ us hl => match us, hl with | [_, _, _], _ => rfl, by decide +kernel⟩
theorem ok_set_done : i_set_done.Ok tabs := ⟨by decide +kernel, rfl, rfl, fun _ _ _ _ _ _ us hl => match us, hl with | [_, _, _], _ => rfl, by decide +kernel⟩
theorem ok_with_entry : i_with_entry.Ok tabs := ⟨by decide +kernel, rfl, rfl, fun _ _ _ _ _ _ us hl => match us, hl with | [_, _, _, _, _, _], _ => rfl, by decide +kernel⟩
theorem ok_without : i_without.Ok tabs := ⟨by decide +kernel, rfl, rfl, fun _ _ _ _ _ _ us hl => match us, hl with | [_, _, _, _, _], _ => rfl, by decide +kernel⟩
theorem ok_table_done : i_table_done.Ok tabs := ⟨by decide +kernel, rfl, rfl, fun _ _ _ _ _ _ us hl => match us, hl with | [_, _, _], _ => rfl, by decide +kernel⟩
theorem ok_in_order : i_in_order.Ok tabs := ⟨by decide +kernel, rfl, rfl, fun _ _ _ _ _ _ us hl => match us, hl with | [_], _ => rfl, by decide +kernel⟩
theorem ok_rank_done : i_rank_done.Ok tabs := ⟨by decide +kernel, rfl, rfl, fun _ _ _ _ _ _ us hl => match us, hl with | [_, _, _], _ => rfl, by decide +kernel⟩
theorem ok_told_text : i_told_text.Ok tabs := ⟨by decide +kernel, rfl, rfl, fun _ _ _ _ _ _ us hl => match us, hl with | [_], _ => rfl, by decide +kernel⟩
theorem ok_put : i_put.Ok tabs := ⟨by decide +kernel, rfl, rfl, fun _ _ _ _ _ _ us hl => match us, hl with | [_, _, _], _ => rfl, by decide +kernel⟩
theorem ok_added : i_added.Ok tabs := ⟨by decide +kernel, rfl, rfl, fun _ _ _ _ _ _ us hl => match us, hl with | [_, _, _, _], _ => rfl, by decide +kernel⟩
theorem ok_joined : i_joined.Ok tabs := ⟨by decide +kernel, rfl, rfl, fun _ _ _ _ _ _ us hl => match us, hl with | [_, _, _, _], _ => rfl, by decide +kernel⟩
theorem ok_text_done : i_text_done.Ok tabs := ⟨by decide +kernel, rfl, rfl, fun _ _ _ _ _ _ us hl => match us, hl with | [_, _, _], _ => rfl, by decide +kernel⟩
theorem ok_count_of : i_count_of.Ok tabs := ⟨by decide +kernel, rfl, rfl, fun _ _ _ _ _ _ us hl => match us, hl with | [_], _ => rfl, by decide +kernel⟩
theorem ok_wrong : i_wrong.Ok tabs := ⟨by decide +kernel, rfl, rfl, fun _ _ _ _ _ _ us hl => match us, hl with | [_, _], _ => rfl, by decide +kernel⟩
theorem ok_answer : i_answer.Ok tabs := ⟨by decide +kernel, rfl, rfl, fun _ _ _ _ _ _ us hl => match us, hl with | [_, _], _ => rfl, by decide +kernel⟩
theorem ok__law_cell : i__law_cell.Ok tabs := ⟨by decide +kernel, rfl, rfl, fun _ _ _ _ _ _ us hl => match us, hl with | [_, _], _ => rfl, by decide +kernel⟩
theorem ok__law_mix : i__law_mix.Ok tabs := ⟨by decide +kernel, rfl, rfl, fun _ _ _ _ _ _ us hl => match us, hl with | [_, _], _ => rfl, by decide +kernel⟩
theorem ok__law_draw : i__law_draw.Ok tabs := ⟨by decide +kernel, rfl, rfl, fun _ _ _ _ _ _ us hl => match us, hl with | [_, _, _], _ => rfl, by decide +kernel⟩
theorem ok__law_pick : i__law_pick.Ok tabs := ⟨by decide +kernel, rfl, rfl, fun _ _ _ _ _ _ us hl => match us, hl with | [_, _, _], _ => rfl, by decide +kernel⟩
theorem ok__law_words : i__law_words.Ok tabs := ⟨by decide +kernel, rfl, rfl, fun _ _ _ _ _ _ us hl => match us, hl with | [_], _ => rfl, by decide +kernel⟩
theorem ok_law : i_law.Ok tabs := ⟨by decide +kernel, rfl, rfl, fun _ _ _ _ _ _ us hl => match us, hl with | [_], _ => rfl, by decide +kernel⟩
def fis : List FnI := [i__wall, i_number_in, i_is_small, i_Store___init__, i_Store_kind, i_Store_value, i_Store_changed, i_Store_keep, i_Store_drop, i_Store_pass_time, i_Store_picture, i_texts_row, i_as_number, i_between, i_renamed, i_ended, i_left_ticks, i_key_done, i_put_in_rows, i_taken, i_carried, i_row_done, i_put_in_sets, i_taken_out, i_of_two, i_set_done, i_with_entry, i_without, i_table_done, i_in_order, i_rank_done, i_told_text, i_put, i_added, i_joined, i_text_done, i_count_of, i_wrong, i_answer, i__law_cell, i__law_mix, i__law_draw, i__law_pick, i__law_words, i_law]
theorem fis_ok : ∀ f ∈ fis, f.Ok tabs := by
  intro f h
  simp only [fis, List.mem_cons, List.not_mem_nil, or_false] at h
  rcases h with rfl | rfl | rfl | rfl | rfl | rfl | rfl | rfl | rfl | rfl | rfl | rfl | rfl | rfl | rfl | rfl | rfl | rfl | rfl | rfl | rfl | rfl | rfl | rfl | rfl | rfl | rfl | rfl | rfl | rfl | rfl | rfl | rfl | rfl | rfl | rfl | rfl | rfl | rfl | rfl | rfl | rfl | rfl | rfl | rfl
  · exact ok__wall
  · exact ok_number_in
  · exact ok_is_small
  · exact ok_Store___init__
  · exact ok_Store_kind
  · exact ok_Store_value
  · exact ok_Store_changed
  · exact ok_Store_keep
  · exact ok_Store_drop
  · exact ok_Store_pass_time
  · exact ok_Store_picture
  · exact ok_texts_row
  · exact ok_as_number
  · exact ok_between
  · exact ok_renamed
  · exact ok_ended
  · exact ok_left_ticks
  · exact ok_key_done
  · exact ok_put_in_rows
  · exact ok_taken
  · exact ok_carried
  · exact ok_row_done
  · exact ok_put_in_sets
  · exact ok_taken_out
  · exact ok_of_two
  · exact ok_set_done
  · exact ok_with_entry
  · exact ok_without
  · exact ok_table_done
  · exact ok_in_order
  · exact ok_rank_done
  · exact ok_told_text
  · exact ok_put
  · exact ok_added
  · exact ok_joined
  · exact ok_text_done
  · exact ok_count_of
  · exact ok_wrong
  · exact ok_answer
  · exact ok__law_cell
  · exact ok__law_mix
  · exact ok__law_draw
  · exact ok__law_pick
  · exact ok__law_words
  · exact ok_law
theorem fis_ck : chkG tabs fis = true := by decide +kernel
theorem fis_g (n : String) : prog n = (fis.map fun f => (f.key, f.fn)).lookup n := rfl
end KW
set_option maxHeartbeats 0
/-! KwRun: the head. -/
namespace KW
open PySem PySem.Spec PyProof.Rows L2
abbrev RW : PySem.W.OpenRow := PySem.W.OpenLaw.row PySem.Challenge.rw_keywire_k17_whole_sets_together
def faR : List He.Fa := faOf tabs
def fnR : List He.DefD := fis.map FnI.dd
def tsR : List He.Tab := tsOf tabs
def xR : Fr → Bool := xOf tabs
abbrev hk : PySem.W.Hook := hookK 5 faR fnR tsR xR
def ob (s : PySem.W.SharedT) : AlK := obsKG 5 faR fnR tsR xR (HandSHeadRun.getT s)
theorem ob_eq (s : PySem.W.SharedT) : ob s = hk.obs s.abs := obsKG_eq (HandSHeadRun.getT_eq s)
def loose0 : List PySem.Str := ["_wall", "MOST_TEXT", "MOST_PARTS", "MOST_NUMBER", "DONE", "NONE", "KIND", "NUMBER", "LONG", "FIGURES", "MOST_FIGURES", "number_in", "is_small", "Store", "texts_row", "as_number", "between", "KEY_WORDS", "MOST_TICKS", "renamed"]
def loose1 : List PySem.Str := ["ended", "left_ticks", "key_done", "ROW_WORDS", "put_in", "put_in_rows", "taken", "carried", "row_done", "SET_WORDS", "OF_TWO", "put_in_sets", "taken_out", "of_two", "set_done", "MOST_FIELDS", "TABLE_WORDS", "RANK_WORDS", "with_entry", "without"]
def loose2 : List PySem.Str := ["table_done", "in_order", "rank_done", "TEXT_WORDS", "told_text", "put", "added", "joined", "text_done", "count_of", "wrong", "answer", "_law_cell", "_law_mix", "_law_draw", "_law_pick", "_law_words"]
def loose : List PySem.Str := loose0 ++ loose1 ++ loose2
def PP (w : World) : Prop := HandSHeadRun.RunEq RW (PySem.W.view RW.prog [66]) hk ob 12000 loose w
theorem hrun0 (w : World) : PP (w.withFollow "special-get-raises" false) := by
  intro os
  kernel_rfl
theorem hrun1 (w : World) : PP (w.withFollow "special-get-raises" true) := by
  intro os
  kernel_rfl
theorem hrun (w : World) : PP w := PySem.W.byRow2 "special-get-raises" hrun0 hrun1 w
end KW
set_option maxHeartbeats 0
/-! KwEnd: the law, from its plain law. -/
namespace KW
open PySem PySem.Spec PyProof.Rows L2
def PlainOk : Prop := ∀ ns : List Int, ns.length ≤ 63 → ∃ h, callF prog 20 "law" [.lst (ns.map D.int)] [] = .ok (.val (.bl true)) ⟨[], h⟩
theorem law_facts {P : Program} {w : World} {K : PySem.W.Frag} {h : Heap} {mg : Str → Option Value} {f : Addr} (X : K.In h) (G : h.Ns mainGlobals mg) (hfa : mg ("law" : Str) = some (.ref f)) (c : SaysK faR fnR tsR xR w K) :
    ∃ fd : FuncData, (∀ (s : Shared) (v : Value), BindsTo s fd ⟨[v], []⟩ [("_law_script", v)]) ∧ ∀ base : Heap, K.In base → base.Ns mainGlobals mg → FnOk P w K mg base (L2.CX P w) 40 f fd ["_law_script"] (spOf K (callF prog 20) "law") := by
  have F : Facts K w mg tabs prog := facts_of fis_g fis_ok fis_ck X G c
  have hi : i_law ∈ fis := by simp [fis]
  obtain ⟨i, hi⟩ := List.getElem?_of_mem (List.mem_map_of_mem (f := FnI.dd) hi)
  obtain ⟨fd0, F0⟩ := c.t.d.def_ i hi
  have ea : He.fAd K i_law.dd.at_ = f := by
    have := He.glo_ok X G (factK c.t.d (f := .glo (sst "law")) (by
      unfold faR faOf
      exact List.mem_append_right _ (List.mem_append_left _ (List.mem_map_of_mem (f := fun f => He.Fa.glo (sst f)) (by decide +kernel)))))
    have e2 : mg (sst "law") = mg ("law" : Str) := rfl
    rw [e2, hfa] at this
    injection this with this
    injection this with this
    exact this.symm
  have b := FunD.bindsA (ps := i_law.ps) F0 ok_law.bd
  have hfd : ∀ base : Heap, K.In base → base.Ns mainGlobals mg → FnOk P w K mg base (L2.CX P w) 40 f fd0 ["_law_script"] (spOf K (callF prog 20) "law") := fun base KB GB => by
    rw [← ea]
    exact fn_at (P := P) (base := base) F 20 "law" f_law _ _ _ _ _ _ _ _ _ _ rfl F0 (C8.fnScope_by ok_law.sc) ok_law.ln ok_law.lp ok_law.mt
  exact ⟨fd0, fun s v => b s [v] rfl, hfd⟩
end KW
set_option maxHeartbeats 0
/-! KwHolds: the law. -/
open PySem PySem.W PySem.Calls PyProof.Rows
theorem KW.rcx (P : Program) (w : World) (H : L2.Hp) (s : Shared) (e : Value) (s' : Shared) (h : L2.CX P w [] H s (fun _ _ _ => False) e s') : False := by
  obtain ⟨_, _, _, _, _, _, _, _, _, _, _, _, z⟩ := h
  exact z
theorem KW.law_at (plain : KW.PlainOk) (w : World) (mg : Str → Option Value) (fa : Addr) (h : Heap) (y : KW.hk.says w h) (G : h.Ns mainGlobals mg) (hm : mg ("law" : Str) = some (.ref fa)) :
    ∃ K : PySem.W.Frag, K.In h ∧ LamX.LawAtS PySem.Challenge.rw_keywire_k17_whole_sets_together w K (L2.CX (PySem.Challenge.rw_keywire_k17_whole_sets_together).prog w) 40 63 "_law_script" mg fa h := by
  obtain ⟨K, KX, c⟩ := y
  obtain ⟨fd, hb, hF⟩ := KW.law_facts (P := (PySem.Challenge.rw_keywire_k17_whole_sets_together).prog) KX G hm c
  refine ⟨K, KX, fd, [], KW.spOf K (KW.callF KW.prog 20) "law", fun p hp => (by cases hp), fun p hp => (by cases hp), fun p hp => (by cases hp), hb, fun H a ns hl _ _ hS => ?_, fun base KB GB _ => hF base KB GB⟩
  obtain ⟨h', e⟩ := plain ns hl
  exact KW.sp_law c.noI hS e
theorem KW.holds_of (plain : KW.PlainOk) : PySem.Challenge.rw_keywire_k17_whole_sets_together.Holds := by
  w_on; o_law
  refine HandSHeadRun.head_any (r := OpenLaw.row PySem.Challenge.rw_keywire_k17_whole_sets_together) (q := view (OpenLaw.row PySem.Challenge.rw_keywire_k17_whole_sets_together).prog [66]) (H := KW.hk) (ob := KW.ob) (M := 12000) (loose := KW.loose)
    (d := HandSHeadRun.topDef (OpenLaw.row PySem.Challenge.rw_keywire_k17_whole_sets_together).prog 66) (kwd := []) KW.ob_eq (by kernel_rfl) (fun s => by kernel_rfl) KW.hrun (by kernel_rfl) (by kernel_rfl) (by kernel_rfl) (by rfl) (by first | assumption | decide +kernel)
    (by decide +kernel) ⟨rfl, rfl, rfl, rfl, rfl, by decide +kernel⟩ ?hw ?hc
  case hw => w_witness2
  case hc =>
    refine LamX.walk_ofTsE (l := PySem.Challenge.rw_keywire_k17_whole_sets_together) (n := 63) (k := 40) (x := "_law_script") (CX := fun w => L2.CX (PySem.Challenge.rw_keywire_k17_whole_sets_together).prog w) rfl (by decide) (by kernel_rfl) ⟨rfl, by decide, by decide⟩ ?F (KW.rcx _)
    intro w mg fa h y G hm
    have e : (HandSHeadRun.topDef (OpenLaw.row PySem.Challenge.rw_keywire_k17_whole_sets_together).prog 66).name = ("law" : PySem.Str) := by kernel_rfl
    rw [e] at hm
    exact KW.law_at plain w mg fa h y G hm
/-! KwPlain: what the small language computes, by rewriting; what waits for a value is a name, so that rewriting goes from the left. -/
namespace KW
section
variable {C : CallF} {s : S} {α β : Type}

@[simp] theorem ev_var (i : Nat) : evalE C (.var i) s = match s.σ[i]? with
    | some (some sv) => .ok (sv.rv (.slot i)) s
    | _ => .stuck := by rw [evalE] <;> rfl
@[simp] theorem ev_cst (d : D) : evalE C (.cst d) s = .ok (.val d) s := by rw [evalE] <;> rfl
@[simp] theorem ev_glb (x : String) (d : D) : evalE C (.glb x d) s = .ok (.val d) s := by rw [evalE] <;> rfl
def kP1 (o : Op1) (r₀ : R RV) : R RV := r₀.bind fun x s => opt s (run1 s.h o x)
@[simp] theorem kP1_ok (o : Op1) (x₀ : RV) : kP1 o (.ok x₀ s) = (fun x => opt s (run1 s.h o x)) x₀ := Eq.trans rfl rfl
@[simp] theorem kP1_ite (o : Op1) {c₀ : Prop} [Decidable c₀] (a₀ b₀ : R RV) : kP1 o (if c₀ then a₀ else b₀) = if c₀ then kP1 o a₀ else kP1 o b₀ := by split <;> rfl
@[simp] theorem kP1_stuck (o : Op1) : kP1 o .stuck = .stuck := Eq.trans rfl rfl
@[simp] theorem kP1_raise (o : Op1) (x₀ : Exc) : kP1 o (.raise x₀ s) = .raise x₀ s := Eq.trans rfl rfl
@[simp] theorem ev_p1 (o : Op1) (a : E) : evalE C (.p1 o a) s = kP1 o (evalE C a s) := by rw [evalE] <;> rfl
def kP2b (o : Op2) (x : RV) (r₀ : R RV) : R RV := r₀.bind fun y s => opt s (run2 s.h o x y)
@[simp] theorem kP2b_ok (o : Op2) (x : RV) (x₀ : RV) : kP2b o x (.ok x₀ s) = (fun y => opt s (run2 s.h o x y)) x₀ := Eq.trans rfl rfl
@[simp] theorem kP2b_ite (o : Op2) (x : RV) {c₀ : Prop} [Decidable c₀] (a₀ b₀ : R RV) : kP2b o x (if c₀ then a₀ else b₀) = if c₀ then kP2b o x a₀ else kP2b o x b₀ := by split <;> rfl
@[simp] theorem kP2b_stuck (o : Op2) (x : RV) : kP2b o x .stuck = .stuck := Eq.trans rfl rfl
@[simp] theorem kP2b_raise (o : Op2) (x : RV) (x₀ : Exc) : kP2b o x (.raise x₀ s) = .raise x₀ s := Eq.trans rfl rfl
def kP2 (C : CallF) (o : Op2) (b : E) (r₀ : R RV) : R RV := r₀.bind fun x s => if (isPk x && !pure b) || !recv2 s.h o x then .stuck else kP2b o x (evalE C b s)
@[simp] theorem kP2_ok (C : CallF) (o : Op2) (b : E) (x₀ : RV) : kP2 C o b (.ok x₀ s) = (fun x => if (isPk x && !pure b) || !recv2 s.h o x then .stuck else kP2b o x (evalE C b s)) x₀ := Eq.trans rfl rfl
@[simp] theorem kP2_ite (C : CallF) (o : Op2) (b : E) {c₀ : Prop} [Decidable c₀] (a₀ b₀ : R RV) : kP2 C o b (if c₀ then a₀ else b₀) = if c₀ then kP2 C o b a₀ else kP2 C o b b₀ := by split <;> rfl
@[simp] theorem kP2_stuck (C : CallF) (o : Op2) (b : E) : kP2 C o b .stuck = .stuck := Eq.trans rfl rfl
@[simp] theorem kP2_raise (C : CallF) (o : Op2) (b : E) (x₀ : Exc) : kP2 C o b (.raise x₀ s) = .raise x₀ s := Eq.trans rfl rfl
@[simp] theorem ev_p2 (o : Op2) (a b : E) : evalE C (.p2 o a b) s = kP2 C o b (evalE C a s) := by rw [evalE] <;> rfl
def kP3c (o : Op3) (x y : RV) (r₀ : R RV) : R RV := r₀.bind fun z s => opt s (run3 s.h o x y z)
@[simp] theorem kP3c_ok (o : Op3) (x y : RV) (x₀ : RV) : kP3c o x y (.ok x₀ s) = (fun z => opt s (run3 s.h o x y z)) x₀ := Eq.trans rfl rfl
@[simp] theorem kP3c_ite (o : Op3) (x y : RV) {c₀ : Prop} [Decidable c₀] (a₀ b₀ : R RV) : kP3c o x y (if c₀ then a₀ else b₀) = if c₀ then kP3c o x y a₀ else kP3c o x y b₀ := by split <;> rfl
@[simp] theorem kP3c_stuck (o : Op3) (x y : RV) : kP3c o x y .stuck = .stuck := Eq.trans rfl rfl
@[simp] theorem kP3c_raise (o : Op3) (x y : RV) (x₀ : Exc) : kP3c o x y (.raise x₀ s) = .raise x₀ s := Eq.trans rfl rfl
def kP3b (C : CallF) (o : Op3) (c : E) (x : RV) (r₀ : R RV) : R RV := r₀.bind fun y s => if (isPk y && !pure c) || !recv3b o y then .stuck else kP3c o x y (evalE C c s)
@[simp] theorem kP3b_ok (C : CallF) (o : Op3) (c : E) (x : RV) (x₀ : RV) : kP3b C o c x (.ok x₀ s) = (fun y => if (isPk y && !pure c) || !recv3b o y then .stuck else kP3c o x y (evalE C c s)) x₀ := Eq.trans rfl rfl
@[simp] theorem kP3b_ite (C : CallF) (o : Op3) (c : E) (x : RV) {c₀ : Prop} [Decidable c₀] (a₀ b₀ : R RV) : kP3b C o c x (if c₀ then a₀ else b₀) = if c₀ then kP3b C o c x a₀ else kP3b C o c x b₀ := by split <;> rfl
@[simp] theorem kP3b_stuck (C : CallF) (o : Op3) (c : E) (x : RV) : kP3b C o c x .stuck = .stuck := Eq.trans rfl rfl
@[simp] theorem kP3b_raise (C : CallF) (o : Op3) (c : E) (x : RV) (x₀ : Exc) : kP3b C o c x (.raise x₀ s) = .raise x₀ s := Eq.trans rfl rfl
def kP3 (C : CallF) (o : Op3) (b c : E) (r₀ : R RV) : R RV := r₀.bind fun x s => if (isPk x && !(pure b && pure c)) || !recv3 s.h o x then .stuck else kP3b C o c x (evalE C b s)
@[simp] theorem kP3_ok (C : CallF) (o : Op3) (b c : E) (x₀ : RV) : kP3 C o b c (.ok x₀ s) = (fun x => if (isPk x && !(pure b && pure c)) || !recv3 s.h o x then .stuck else kP3b C o c x (evalE C b s)) x₀ := Eq.trans rfl rfl
@[simp] theorem kP3_ite (C : CallF) (o : Op3) (b c : E) {c₀ : Prop} [Decidable c₀] (a₀ b₀ : R RV) : kP3 C o b c (if c₀ then a₀ else b₀) = if c₀ then kP3 C o b c a₀ else kP3 C o b c b₀ := by split <;> rfl
@[simp] theorem kP3_stuck (C : CallF) (o : Op3) (b c : E) : kP3 C o b c .stuck = .stuck := Eq.trans rfl rfl
@[simp] theorem kP3_raise (C : CallF) (o : Op3) (b c : E) (x₀ : Exc) : kP3 C o b c (.raise x₀ s) = .raise x₀ s := Eq.trans rfl rfl
@[simp] theorem ev_p3 (o : Op3) (a b c : E) : evalE C (.p3 o a b c) s = kP3 C o b c (evalE C a s) := by rw [evalE] <;> rfl
def kTup  (r₀ : R (List D)) : R RV := r₀.bind fun ds s => .ok (.val (.tup ds)) s
@[simp] theorem kTup_ok  (x₀ : (List D)) : kTup  (.ok x₀ s) = (fun ds => .ok (.val (.tup ds)) s) x₀ := Eq.trans rfl rfl
@[simp] theorem kTup_ite  {c₀ : Prop} [Decidable c₀] (a₀ b₀ : R (List D)) : kTup  (if c₀ then a₀ else b₀) = if c₀ then kTup  a₀ else kTup  b₀ := by split <;> rfl
@[simp] theorem kTup_stuck  : kTup  .stuck = .stuck := Eq.trans rfl rfl
@[simp] theorem kTup_raise  (x₀ : Exc) : kTup  (.raise x₀ s) = .raise x₀ s := Eq.trans rfl rfl
@[simp] theorem ev_tup (es : List E) : evalE C (.tup es) s = kTup (evalEs C es s) := by rw [evalE] <;> rfl
def kLst  (r₀ : R (List D)) : R RV := r₀.bind fun ds s => opt s (newLst ds)
@[simp] theorem kLst_ok  (x₀ : (List D)) : kLst  (.ok x₀ s) = (fun ds => opt s (newLst ds)) x₀ := Eq.trans rfl rfl
@[simp] theorem kLst_ite  {c₀ : Prop} [Decidable c₀] (a₀ b₀ : R (List D)) : kLst  (if c₀ then a₀ else b₀) = if c₀ then kLst  a₀ else kLst  b₀ := by split <;> rfl
@[simp] theorem kLst_stuck  : kLst  .stuck = .stuck := Eq.trans rfl rfl
@[simp] theorem kLst_raise  (x₀ : Exc) : kLst  (.raise x₀ s) = .raise x₀ s := Eq.trans rfl rfl
@[simp] theorem ev_lst (es : List E) : evalE C (.lst es) s = kLst (evalEs C es s) := by rw [evalE] <;> rfl
def kDct (ks : List D) (r₀ : R (List D)) : R RV := r₀.bind fun ds s => if ds.length = ks.length then opt s (((ks.mapM keyOf).map fun ks => .own (.dct ((ks.zip ds).foldl (fun l q => kput q.1 q.2 l) [])))) else .stuck
@[simp] theorem kDct_ok (ks : List D) (x₀ : (List D)) : kDct ks (.ok x₀ s) = (fun ds => if ds.length = ks.length then opt s (((ks.mapM keyOf).map fun ks => .own (.dct ((ks.zip ds).foldl (fun l q => kput q.1 q.2 l) [])))) else .stuck) x₀ := Eq.trans rfl rfl
@[simp] theorem kDct_ite (ks : List D) {c₀ : Prop} [Decidable c₀] (a₀ b₀ : R (List D)) : kDct ks (if c₀ then a₀ else b₀) = if c₀ then kDct ks a₀ else kDct ks b₀ := by split <;> rfl
@[simp] theorem kDct_stuck (ks : List D) : kDct ks .stuck = .stuck := Eq.trans rfl rfl
@[simp] theorem kDct_raise (ks : List D) (x₀ : Exc) : kDct ks (.raise x₀ s) = .raise x₀ s := Eq.trans rfl rfl
@[simp] theorem ev_dct (ks : List D) (es : List E) : evalE C (.dct ks es) s = kDct ks (evalEs C es s) := by rw [evalE] <;> rfl
def kFld (cs : List String) (f : String) (r₀ : R RV) : R RV := r₀.bind fun x s => (match x with
    | .val (.ref i) => match s.h[i]? with
      | some (.ins c fs) => if cs.contains c = true then (match ffind f fs with
        | some sv => .ok (sv.rv (.fld i f)) s
        | none => .stuck) else .stuck
      | _ => .stuck
    | .val (.exc _ fs) => match ffind f fs with
      | some d => .ok (.val d) s
      | none => .stuck
    | _ => .stuck)
@[simp] theorem kFld_ok (cs : List String) (f : String) (x₀ : RV) : kFld cs f (.ok x₀ s) = (fun x => (match x with
    | .val (.ref i) => match s.h[i]? with
      | some (.ins c fs) => if cs.contains c = true then (match ffind f fs with
        | some sv => .ok (sv.rv (.fld i f)) s
        | none => .stuck) else .stuck
      | _ => .stuck
    | .val (.exc _ fs) => match ffind f fs with
      | some d => .ok (.val d) s
      | none => .stuck
    | _ => .stuck)) x₀ := Eq.trans rfl rfl
@[simp] theorem kFld_ite (cs : List String) (f : String) {c₀ : Prop} [Decidable c₀] (a₀ b₀ : R RV) : kFld cs f (if c₀ then a₀ else b₀) = if c₀ then kFld cs f a₀ else kFld cs f b₀ := by split <;> rfl
@[simp] theorem kFld_stuck (cs : List String) (f : String) : kFld cs f .stuck = .stuck := Eq.trans rfl rfl
@[simp] theorem kFld_raise (cs : List String) (f : String) (x₀ : Exc) : kFld cs f (.raise x₀ s) = .raise x₀ s := Eq.trans rfl rfl
@[simp] theorem ev_fld (cs : List String) (e : E) (f : String) : evalE C (.fld cs e f) s = kFld cs f (evalE C e s) := by rw [evalE] <;> rfl
def kAndB (C : CallF) (b : E) (x : RV) (s : S) : Option Bool → R RV
  | some true => evalE C b s
  | some false => .ok x s
  | none => .stuck
@[simp] theorem kAndB_some (C : CallF) (b : E) (x : RV) (t₀ : Bool) : kAndB C b x s (some t₀) = if t₀ = true then evalE C b s else .ok x s := by cases t₀ <;> rfl
@[simp] theorem kAndB_none (C : CallF) (b : E) (x : RV) : kAndB C b x s none = .stuck := Eq.trans rfl rfl
def kAnd (C : CallF) (b : E) (r₀ : R RV) : R RV := r₀.bind fun x s => kAndB C b x s (truth s.h x)
@[simp] theorem kAnd_ok (C : CallF) (b : E) (x₀ : RV) : kAnd C b (.ok x₀ s) = (fun x => kAndB C b x s (truth s.h x)) x₀ := Eq.trans rfl rfl
@[simp] theorem kAnd_ite (C : CallF) (b : E) {c₀ : Prop} [Decidable c₀] (a₀ b₀ : R RV) : kAnd C b (if c₀ then a₀ else b₀) = if c₀ then kAnd C b a₀ else kAnd C b b₀ := by split <;> rfl
@[simp] theorem kAnd_stuck (C : CallF) (b : E) : kAnd C b .stuck = .stuck := Eq.trans rfl rfl
@[simp] theorem kAnd_raise (C : CallF) (b : E) (x₀ : Exc) : kAnd C b (.raise x₀ s) = .raise x₀ s := Eq.trans rfl rfl
@[simp] theorem ev_and (a b : E) : evalE C (.and a b) s = kAnd C b (evalE C a s) := by rw [evalE] <;> rfl
def kOrB (C : CallF) (b : E) (x : RV) (s : S) : Option Bool → R RV
  | some true => .ok x s
  | some false => evalE C b s
  | none => .stuck
@[simp] theorem kOrB_some (C : CallF) (b : E) (x : RV) (t₀ : Bool) : kOrB C b x s (some t₀) = if t₀ = true then .ok x s else evalE C b s := by cases t₀ <;> rfl
@[simp] theorem kOrB_none (C : CallF) (b : E) (x : RV) : kOrB C b x s none = .stuck := Eq.trans rfl rfl
def kOr (C : CallF) (b : E) (r₀ : R RV) : R RV := r₀.bind fun x s => kOrB C b x s (truth s.h x)
@[simp] theorem kOr_ok (C : CallF) (b : E) (x₀ : RV) : kOr C b (.ok x₀ s) = (fun x => kOrB C b x s (truth s.h x)) x₀ := Eq.trans rfl rfl
@[simp] theorem kOr_ite (C : CallF) (b : E) {c₀ : Prop} [Decidable c₀] (a₀ b₀ : R RV) : kOr C b (if c₀ then a₀ else b₀) = if c₀ then kOr C b a₀ else kOr C b b₀ := by split <;> rfl
@[simp] theorem kOr_stuck (C : CallF) (b : E) : kOr C b .stuck = .stuck := Eq.trans rfl rfl
@[simp] theorem kOr_raise (C : CallF) (b : E) (x₀ : Exc) : kOr C b (.raise x₀ s) = .raise x₀ s := Eq.trans rfl rfl
@[simp] theorem ev_or (a b : E) : evalE C (.or a b) s = kOr C b (evalE C a s) := by rw [evalE] <;> rfl
def kNot  (r₀ : R RV) : R RV := r₀.bind fun x s => opt s ((truth s.h x).map fun b => .val (.bl (!b)))
@[simp] theorem kNot_ok  (x₀ : RV) : kNot  (.ok x₀ s) = (fun x => opt s ((truth s.h x).map fun b => .val (.bl (!b)))) x₀ := Eq.trans rfl rfl
@[simp] theorem kNot_ite  {c₀ : Prop} [Decidable c₀] (a₀ b₀ : R RV) : kNot  (if c₀ then a₀ else b₀) = if c₀ then kNot  a₀ else kNot  b₀ := by split <;> rfl
@[simp] theorem kNot_stuck  : kNot  .stuck = .stuck := Eq.trans rfl rfl
@[simp] theorem kNot_raise  (x₀ : Exc) : kNot  (.raise x₀ s) = .raise x₀ s := Eq.trans rfl rfl
@[simp] theorem ev_not (a : E) : evalE C (.not a) s = kNot (evalE C a s) := by rw [evalE] <;> rfl
def kIfeB (C : CallF) (a b : E) (s : S) : Option Bool → R RV
  | some true => evalE C a s
  | some false => evalE C b s
  | none => .stuck
@[simp] theorem kIfeB_some (C : CallF) (a b : E) (t₀ : Bool) : kIfeB C a b s (some t₀) = if t₀ = true then evalE C a s else evalE C b s := by cases t₀ <;> rfl
@[simp] theorem kIfeB_none (C : CallF) (a b : E) : kIfeB C a b s none = .stuck := Eq.trans rfl rfl
def kIfe (C : CallF) (a b : E) (r₀ : R RV) : R RV := r₀.bind fun x s => kIfeB C a b s (truth s.h x)
@[simp] theorem kIfe_ok (C : CallF) (a b : E) (x₀ : RV) : kIfe C a b (.ok x₀ s) = (fun x => kIfeB C a b s (truth s.h x)) x₀ := Eq.trans rfl rfl
@[simp] theorem kIfe_ite (C : CallF) (a b : E) {c₀ : Prop} [Decidable c₀] (a₀ b₀ : R RV) : kIfe C a b (if c₀ then a₀ else b₀) = if c₀ then kIfe C a b a₀ else kIfe C a b b₀ := by split <;> rfl
@[simp] theorem kIfe_stuck (C : CallF) (a b : E) : kIfe C a b .stuck = .stuck := Eq.trans rfl rfl
@[simp] theorem kIfe_raise (C : CallF) (a b : E) (x₀ : Exc) : kIfe C a b (.raise x₀ s) = .raise x₀ s := Eq.trans rfl rfl
@[simp] theorem ev_ife (c a b : E) : evalE C (.ife c a b) s = kIfe C a b (evalE C c s) := by
  rw [evalE]
  unfold kIfe isTruth
  cases evalE C c s with
  | ok x s1 =>
    simp only [bind_ok]
    cases truth s1.h x with
    | none => rfl
    | some t => cases t <;> rfl
  | _ => rfl
def kCh3 (o : CmpO) (y : RV) (r₀ : R RV) : R RV := r₀.bind fun z s => opt s ((runCmp s.h o y z).map fun t => .val (.bl t))
@[simp] theorem kCh3_ok (o : CmpO) (y : RV) (x₀ : RV) : kCh3 o y (.ok x₀ s) = (fun z => opt s ((runCmp s.h o y z).map fun t => .val (.bl t))) x₀ := Eq.trans rfl rfl
@[simp] theorem kCh3_ite (o : CmpO) (y : RV) {c₀ : Prop} [Decidable c₀] (a₀ b₀ : R RV) : kCh3 o y (if c₀ then a₀ else b₀) = if c₀ then kCh3 o y a₀ else kCh3 o y b₀ := by split <;> rfl
@[simp] theorem kCh3_stuck (o : CmpO) (y : RV) : kCh3 o y .stuck = .stuck := Eq.trans rfl rfl
@[simp] theorem kCh3_raise (o : CmpO) (y : RV) (x₀ : Exc) : kCh3 o y (.raise x₀ s) = .raise x₀ s := Eq.trans rfl rfl
def kChB (C : CallF) (o₂ : CmpO) (c : E) (y : RV) (s : S) : Option Bool → R RV
  | some true => kCh3 o₂ y (evalE C c s)
  | some false => .ok (.val (.bl false)) s
  | none => .stuck
@[simp] theorem kChB_some (C : CallF) (o₂ : CmpO) (c : E) (y : RV) (t₀ : Bool) : kChB C o₂ c y s (some t₀) = if t₀ = true then kCh3 o₂ y (evalE C c s) else .ok (.val (.bl false)) s := by cases t₀ <;> rfl
@[simp] theorem kChB_none (C : CallF) (o₂ : CmpO) (c : E) (y : RV) : kChB C o₂ c y s none = .stuck := Eq.trans rfl rfl
def kCh2 (C : CallF) (o₁ o₂ : CmpO) (c : E) (x : RV) (r₀ : R RV) : R RV := r₀.bind fun y s => if isPk x || isPk y then .stuck else kChB C o₂ c y s (runCmp s.h o₁ x y)
@[simp] theorem kCh2_ok (C : CallF) (o₁ o₂ : CmpO) (c : E) (x : RV) (x₀ : RV) : kCh2 C o₁ o₂ c x (.ok x₀ s) = (fun y => if isPk x || isPk y then .stuck else kChB C o₂ c y s (runCmp s.h o₁ x y)) x₀ := Eq.trans rfl rfl
@[simp] theorem kCh2_ite (C : CallF) (o₁ o₂ : CmpO) (c : E) (x : RV) {c₀ : Prop} [Decidable c₀] (a₀ b₀ : R RV) : kCh2 C o₁ o₂ c x (if c₀ then a₀ else b₀) = if c₀ then kCh2 C o₁ o₂ c x a₀ else kCh2 C o₁ o₂ c x b₀ := by split <;> rfl
@[simp] theorem kCh2_stuck (C : CallF) (o₁ o₂ : CmpO) (c : E) (x : RV) : kCh2 C o₁ o₂ c x .stuck = .stuck := Eq.trans rfl rfl
@[simp] theorem kCh2_raise (C : CallF) (o₁ o₂ : CmpO) (c : E) (x : RV) (x₀ : Exc) : kCh2 C o₁ o₂ c x (.raise x₀ s) = .raise x₀ s := Eq.trans rfl rfl
def kCh (C : CallF) (o₁ o₂ : CmpO) (b c : E) (r₀ : R RV) : R RV := r₀.bind fun x s => kCh2 C o₁ o₂ c x (evalE C b s)
@[simp] theorem kCh_ok (C : CallF) (o₁ o₂ : CmpO) (b c : E) (x₀ : RV) : kCh C o₁ o₂ b c (.ok x₀ s) = (fun x => kCh2 C o₁ o₂ c x (evalE C b s)) x₀ := Eq.trans rfl rfl
@[simp] theorem kCh_ite (C : CallF) (o₁ o₂ : CmpO) (b c : E) {c₀ : Prop} [Decidable c₀] (a₀ b₀ : R RV) : kCh C o₁ o₂ b c (if c₀ then a₀ else b₀) = if c₀ then kCh C o₁ o₂ b c a₀ else kCh C o₁ o₂ b c b₀ := by split <;> rfl
@[simp] theorem kCh_stuck (C : CallF) (o₁ o₂ : CmpO) (b c : E) : kCh C o₁ o₂ b c .stuck = .stuck := Eq.trans rfl rfl
@[simp] theorem kCh_raise (C : CallF) (o₁ o₂ : CmpO) (b c : E) (x₀ : Exc) : kCh C o₁ o₂ b c (.raise x₀ s) = .raise x₀ s := Eq.trans rfl rfl
@[simp] theorem ev_chain (o₁ o₂ : CmpO) (a b c : E) : evalE C (.chain o₁ o₂ a b c) s = kCh C o₁ o₂ b c (evalE C a s) := by rw [evalE] <;> rfl
def kCall (C : CallF) (f : String) (r₀ : R (List D)) : R RV := r₀.bind fun ds s => back s.σ (C f ds s.h)
@[simp] theorem kCall_ok (C : CallF) (f : String) (x₀ : (List D)) : kCall C f (.ok x₀ s) = (fun ds => back s.σ (C f ds s.h)) x₀ := Eq.trans rfl rfl
@[simp] theorem kCall_ite (C : CallF) (f : String) {c₀ : Prop} [Decidable c₀] (a₀ b₀ : R (List D)) : kCall C f (if c₀ then a₀ else b₀) = if c₀ then kCall C f a₀ else kCall C f b₀ := by split <;> rfl
@[simp] theorem kCall_stuck (C : CallF) (f : String) : kCall C f .stuck = .stuck := Eq.trans rfl rfl
@[simp] theorem kCall_raise (C : CallF) (f : String) (x₀ : Exc) : kCall C f (.raise x₀ s) = .raise x₀ s := Eq.trans rfl rfl
@[simp] theorem ev_call (f : String) (es : List E) : evalE C (.call f es) s = kCall C f (evalEs C es s) := by rw [evalE] <;> rfl
def kMeth2 (C : CallF) (f : String) (i : Nat) (r₀ : R (List D)) : R RV := r₀.bind fun ds s => back s.σ (C f (.ref i :: ds) s.h)
@[simp] theorem kMeth2_ok (C : CallF) (f : String) (i : Nat) (x₀ : (List D)) : kMeth2 C f i (.ok x₀ s) = (fun ds => back s.σ (C f (.ref i :: ds) s.h)) x₀ := Eq.trans rfl rfl
@[simp] theorem kMeth2_ite (C : CallF) (f : String) (i : Nat) {c₀ : Prop} [Decidable c₀] (a₀ b₀ : R (List D)) : kMeth2 C f i (if c₀ then a₀ else b₀) = if c₀ then kMeth2 C f i a₀ else kMeth2 C f i b₀ := by split <;> rfl
@[simp] theorem kMeth2_stuck (C : CallF) (f : String) (i : Nat) : kMeth2 C f i .stuck = .stuck := Eq.trans rfl rfl
@[simp] theorem kMeth2_raise (C : CallF) (f : String) (i : Nat) (x₀ : Exc) : kMeth2 C f i (.raise x₀ s) = .raise x₀ s := Eq.trans rfl rfl
def kMeth (C : CallF) (c m : String) (es : List E) (r₀ : R RV) : R RV := r₀.bind fun x s => (match x with
    | .val (.ref i) => match s.h[i]? with
      | some (.ins c' fs) => if c' = c ∧ (ffind m fs).isNone = true then kMeth2 C (c ++ "." ++ m) i (evalEs C es s) else .stuck
      | _ => .stuck
    | _ => .stuck)
@[simp] theorem kMeth_ok (C : CallF) (c m : String) (es : List E) (x₀ : RV) : kMeth C c m es (.ok x₀ s) = (fun x => (match x with
    | .val (.ref i) => match s.h[i]? with
      | some (.ins c' fs) => if c' = c ∧ (ffind m fs).isNone = true then kMeth2 C (c ++ "." ++ m) i (evalEs C es s) else .stuck
      | _ => .stuck
    | _ => .stuck)) x₀ := Eq.trans rfl rfl
@[simp] theorem kMeth_ite (C : CallF) (c m : String) (es : List E) {c₀ : Prop} [Decidable c₀] (a₀ b₀ : R RV) : kMeth C c m es (if c₀ then a₀ else b₀) = if c₀ then kMeth C c m es a₀ else kMeth C c m es b₀ := by split <;> rfl
@[simp] theorem kMeth_stuck (C : CallF) (c m : String) (es : List E) : kMeth C c m es .stuck = .stuck := Eq.trans rfl rfl
@[simp] theorem kMeth_raise (C : CallF) (c m : String) (es : List E) (x₀ : Exc) : kMeth C c m es (.raise x₀ s) = .raise x₀ s := Eq.trans rfl rfl
@[simp] theorem ev_meth (c m : String) (e : E) (es : List E) : evalE C (.meth c m e es) s = kMeth C c m es (evalE C e s) := by rw [evalE] <;> rfl
def runB (C : CallF) (b : List St) (s : S) : R Flow := execs C b s
def runC (C : CallF) (cs : List E) (s : S) : R Bool := evalCs C cs s
def runX (C : CallF) (e : E) (s : S) : R D := exports (evalE C e s)
def kComp2 (σ0 : List (Option SV)) (is : List Nat) (r₀ : R (List D)) : R RV := r₀.bind fun xs s => opt (backT σ0 is s) (newLst xs)
@[simp] theorem kComp2_ok (σ0 : List (Option SV)) (is : List Nat) (x₀ : (List D)) : kComp2 σ0 is (.ok x₀ s) = (fun xs => opt (backT σ0 is s) (newLst xs)) x₀ := Eq.trans rfl rfl
@[simp] theorem kComp2_ite (σ0 : List (Option SV)) (is : List Nat) {c₀ : Prop} [Decidable c₀] (a₀ b₀ : R (List D)) : kComp2 σ0 is (if c₀ then a₀ else b₀) = if c₀ then kComp2 σ0 is a₀ else kComp2 σ0 is b₀ := by split <;> rfl
@[simp] theorem kComp2_stuck (σ0 : List (Option SV)) (is : List Nat) : kComp2 σ0 is .stuck = .stuck := Eq.trans rfl rfl
@[simp] theorem kComp2_raise (σ0 : List (Option SV)) (is : List Nat) (x₀ : Exc) : kComp2 σ0 is (.raise x₀ s) = .raise x₀ s := Eq.trans rfl rfl
def kCalm {α : Type} (r : R α) : R α := r.calm
@[simp] theorem kCalm_ok (x : α) : kCalm (.ok x s) = .ok x s := rfl
def kComp (C : CallF) (is : List Nat) (cs : List E) (e : E) (r₀ : R (List D × Bool)) : R RV := r₀.bind fun ps s => if ps.2 && !(pures cs && pure e) then .stuck else kComp2 s.σ is (kCalm (compLoop is (runC C cs) (runX C e) ps.1 s []))
@[simp] theorem kComp_ok (C : CallF) (is : List Nat) (cs : List E) (e : E) (x₀ : (List D × Bool)) : kComp C is cs e (.ok x₀ s) = (fun ps => if ps.2 && !(pures cs && pure e) then .stuck else kComp2 s.σ is (kCalm (compLoop is (runC C cs) (runX C e) ps.1 s []))) x₀ := Eq.trans rfl rfl
@[simp] theorem kComp_ite (C : CallF) (is : List Nat) (cs : List E) (e : E) {c₀ : Prop} [Decidable c₀] (a₀ b₀ : R (List D × Bool)) : kComp C is cs e (if c₀ then a₀ else b₀) = if c₀ then kComp C is cs e a₀ else kComp C is cs e b₀ := by split <;> rfl
@[simp] theorem kComp_stuck (C : CallF) (is : List Nat) (cs : List E) (e : E) : kComp C is cs e .stuck = .stuck := Eq.trans rfl rfl
@[simp] theorem kComp_raise (C : CallF) (is : List Nat) (cs : List E) (e : E) (x₀ : Exc) : kComp C is cs e (.raise x₀ s) = .raise x₀ s := Eq.trans rfl rfl
@[simp] theorem ev_comp (is : List Nat) (it : It) (cs : List E) (e : E) : evalE C (.comp is it cs e) s = kComp C is cs e (evalIt C it s) := by rw [evalE] <;> rfl
def kMut2 (o : Mu) (x : RV) (r₀ : R (List D)) : R RV := r₀.bind fun ds s => runMu s o x ds
@[simp] theorem kMut2_ok (o : Mu) (x : RV) (x₀ : (List D)) : kMut2 o x (.ok x₀ s) = (fun ds => runMu s o x ds) x₀ := Eq.trans rfl rfl
@[simp] theorem kMut2_ite (o : Mu) (x : RV) {c₀ : Prop} [Decidable c₀] (a₀ b₀ : R (List D)) : kMut2 o x (if c₀ then a₀ else b₀) = if c₀ then kMut2 o x a₀ else kMut2 o x b₀ := by split <;> rfl
@[simp] theorem kMut2_stuck (o : Mu) (x : RV) : kMut2 o x .stuck = .stuck := Eq.trans rfl rfl
@[simp] theorem kMut2_raise (o : Mu) (x : RV) (x₀ : Exc) : kMut2 o x (.raise x₀ s) = .raise x₀ s := Eq.trans rfl rfl
def kMut (C : CallF) (o : Mu) (es : List E) (r₀ : R RV) : R RV := r₀.bind fun x s => if (isPk x && !pures es) || !recvM s.h o x then .stuck else kMut2 o x (evalEs C es s)
@[simp] theorem kMut_ok (C : CallF) (o : Mu) (es : List E) (x₀ : RV) : kMut C o es (.ok x₀ s) = (fun x => if (isPk x && !pures es) || !recvM s.h o x then .stuck else kMut2 o x (evalEs C es s)) x₀ := Eq.trans rfl rfl
@[simp] theorem kMut_ite (C : CallF) (o : Mu) (es : List E) {c₀ : Prop} [Decidable c₀] (a₀ b₀ : R RV) : kMut C o es (if c₀ then a₀ else b₀) = if c₀ then kMut C o es a₀ else kMut C o es b₀ := by split <;> rfl
@[simp] theorem kMut_stuck (C : CallF) (o : Mu) (es : List E) : kMut C o es .stuck = .stuck := Eq.trans rfl rfl
@[simp] theorem kMut_raise (C : CallF) (o : Mu) (es : List E) (x₀ : Exc) : kMut C o es (.raise x₀ s) = .raise x₀ s := Eq.trans rfl rfl
@[simp] theorem ev_mut (o : Mu) (e : E) (es : List E) : evalE C (.mut o e es) s = kMut C o es (evalE C e s) := by rw [evalE] <;> rfl
def kBox  (r₀ : R RV) : R RV := r₀.bind fun x s => boxIt s x
@[simp] theorem kBox_ok  (x₀ : RV) : kBox  (.ok x₀ s) = (fun x => boxIt s x) x₀ := Eq.trans rfl rfl
@[simp] theorem kBox_ite  {c₀ : Prop} [Decidable c₀] (a₀ b₀ : R RV) : kBox  (if c₀ then a₀ else b₀) = if c₀ then kBox  a₀ else kBox  b₀ := by split <;> rfl
@[simp] theorem kBox_stuck  : kBox  .stuck = .stuck := Eq.trans rfl rfl
@[simp] theorem kBox_raise  (x₀ : Exc) : kBox  (.raise x₀ s) = .raise x₀ s := Eq.trans rfl rfl
@[simp] theorem ev_box (e : E) : evalE C (.box e) s = kBox (evalE C e s) := by rw [evalE] <;> rfl
def kFrz  (r₀ : R RV) : R RV := r₀.bind fun x s => frzIt s x
@[simp] theorem kFrz_ok  (x₀ : RV) : kFrz  (.ok x₀ s) = (fun x => frzIt s x) x₀ := Eq.trans rfl rfl
@[simp] theorem kFrz_ite  {c₀ : Prop} [Decidable c₀] (a₀ b₀ : R RV) : kFrz  (if c₀ then a₀ else b₀) = if c₀ then kFrz  a₀ else kFrz  b₀ := by split <;> rfl
@[simp] theorem kFrz_stuck  : kFrz  .stuck = .stuck := Eq.trans rfl rfl
@[simp] theorem kFrz_raise  (x₀ : Exc) : kFrz  (.raise x₀ s) = .raise x₀ s := Eq.trans rfl rfl
@[simp] theorem ev_frz (e : E) : evalE C (.frz e) s = kFrz (evalE C e s) := by rw [evalE] <;> rfl
def kNew2 (i : Nat) (r₀ : R RV) : R RV := r₀.bind fun v s => (match v with
    | .val .non => .ok (.val (.ref i)) s
    | _ => .stuck)
@[simp] theorem kNew2_ok (i : Nat) (x₀ : RV) : kNew2 i (.ok x₀ s) = (fun v => (match v with
    | .val .non => .ok (.val (.ref i)) s
    | _ => .stuck)) x₀ := Eq.trans rfl rfl
@[simp] theorem kNew2_ite (i : Nat) {c₀ : Prop} [Decidable c₀] (a₀ b₀ : R RV) : kNew2 i (if c₀ then a₀ else b₀) = if c₀ then kNew2 i a₀ else kNew2 i b₀ := by split <;> rfl
@[simp] theorem kNew2_stuck (i : Nat) : kNew2 i .stuck = .stuck := Eq.trans rfl rfl
@[simp] theorem kNew2_raise (i : Nat) (x₀ : Exc) : kNew2 i (.raise x₀ s) = .raise x₀ s := Eq.trans rfl rfl
def kNew (C : CallF) (c : String) (r₀ : R (List D)) : R RV := r₀.bind fun ds s => kNew2 s.h.length (kCalm (back s.σ (C (c ++ ".__init__") (.ref s.h.length :: ds) (s.h ++ [.ins c []]))))
@[simp] theorem kNew_ok (C : CallF) (c : String) (x₀ : (List D)) : kNew C c (.ok x₀ s) = (fun ds => kNew2 s.h.length (kCalm (back s.σ (C (c ++ ".__init__") (.ref s.h.length :: ds) (s.h ++ [.ins c []]))))) x₀ := Eq.trans rfl rfl
@[simp] theorem kNew_ite (C : CallF) (c : String) {c₀ : Prop} [Decidable c₀] (a₀ b₀ : R (List D)) : kNew C c (if c₀ then a₀ else b₀) = if c₀ then kNew C c a₀ else kNew C c b₀ := by split <;> rfl
@[simp] theorem kNew_stuck (C : CallF) (c : String) : kNew C c .stuck = .stuck := Eq.trans rfl rfl
@[simp] theorem kNew_raise (C : CallF) (c : String) (x₀ : Exc) : kNew C c (.raise x₀ s) = .raise x₀ s := Eq.trans rfl rfl
@[simp] theorem ev_new (c : String) (es : List E) : evalE C (.new c es) s = kNew C c (evalEs C es s) := by rw [evalE] <;> rfl
def kGIn (kvs : List (T × D)) (r₀ : R RV) : R RV := r₀.bind fun x s => (match x with
    | .val (.str t) => .ok (.val (.bl (tfind t kvs).isSome)) s
    | _ => .stuck)
@[simp] theorem kGIn_ok (kvs : List (T × D)) (x₀ : RV) : kGIn kvs (.ok x₀ s) = (fun x => (match x with
    | .val (.str t) => .ok (.val (.bl (tfind t kvs).isSome)) s
    | _ => .stuck)) x₀ := Eq.trans rfl rfl
@[simp] theorem kGIn_ite (kvs : List (T × D)) {c₀ : Prop} [Decidable c₀] (a₀ b₀ : R RV) : kGIn kvs (if c₀ then a₀ else b₀) = if c₀ then kGIn kvs a₀ else kGIn kvs b₀ := by split <;> rfl
@[simp] theorem kGIn_stuck (kvs : List (T × D)) : kGIn kvs .stuck = .stuck := Eq.trans rfl rfl
@[simp] theorem kGIn_raise (kvs : List (T × D)) (x₀ : Exc) : kGIn kvs (.raise x₀ s) = .raise x₀ s := Eq.trans rfl rfl
@[simp] theorem ev_gIn (x : String) (kvs : List (T × D)) (e : E) : evalE C (.gIn x kvs e) s = kGIn kvs (evalE C e s) := by rw [evalE] <;> rfl
def kGIdx (kvs : List (T × D)) (r₀ : R RV) : R RV := r₀.bind fun x s => (match x with
    | .val (.str t) => opt s ((tfind t kvs).map .val)
    | _ => .stuck)
@[simp] theorem kGIdx_ok (kvs : List (T × D)) (x₀ : RV) : kGIdx kvs (.ok x₀ s) = (fun x => (match x with
    | .val (.str t) => opt s ((tfind t kvs).map .val)
    | _ => .stuck)) x₀ := Eq.trans rfl rfl
@[simp] theorem kGIdx_ite (kvs : List (T × D)) {c₀ : Prop} [Decidable c₀] (a₀ b₀ : R RV) : kGIdx kvs (if c₀ then a₀ else b₀) = if c₀ then kGIdx kvs a₀ else kGIdx kvs b₀ := by split <;> rfl
@[simp] theorem kGIdx_stuck (kvs : List (T × D)) : kGIdx kvs .stuck = .stuck := Eq.trans rfl rfl
@[simp] theorem kGIdx_raise (kvs : List (T × D)) (x₀ : Exc) : kGIdx kvs (.raise x₀ s) = .raise x₀ s := Eq.trans rfl rfl
@[simp] theorem ev_gIdx (x : String) (kvs : List (T × D)) (e : E) : evalE C (.gIdx x kvs e) s = kGIdx kvs (evalE C e s) := by rw [evalE] <;> rfl
def kInL (ts : List T) (r₀ : R RV) : R RV := r₀.bind fun x s => (match x with
    | .val (.str t) => .ok (.val (.bl (decide (t ∈ ts)))) s
    | _ => .stuck)
@[simp] theorem kInL_ok (ts : List T) (x₀ : RV) : kInL ts (.ok x₀ s) = (fun x => (match x with
    | .val (.str t) => .ok (.val (.bl (decide (t ∈ ts)))) s
    | _ => .stuck)) x₀ := Eq.trans rfl rfl
@[simp] theorem kInL_ite (ts : List T) {c₀ : Prop} [Decidable c₀] (a₀ b₀ : R RV) : kInL ts (if c₀ then a₀ else b₀) = if c₀ then kInL ts a₀ else kInL ts b₀ := by split <;> rfl
@[simp] theorem kInL_stuck (ts : List T) : kInL ts .stuck = .stuck := Eq.trans rfl rfl
@[simp] theorem kInL_raise (ts : List T) (x₀ : Exc) : kInL ts (.raise x₀ s) = .raise x₀ s := Eq.trans rfl rfl
@[simp] theorem ev_inL (x : String) (ts : List T) (e : E) : evalE C (.inL x ts e) s = kInL ts (evalE C e s) := by rw [evalE] <;> rfl
@[simp] theorem es_nil  : evalEs C [] s = .ok [] s := by rw [evalEs] <;> rfl
def kEs2 (d : D) (r₀ : R (List D)) : R (List D) := r₀.bind fun ds s => .ok (d :: ds) s
@[simp] theorem kEs2_ok (d : D) (x₀ : (List D)) : kEs2 d (.ok x₀ s) = (fun ds => .ok (d :: ds) s) x₀ := Eq.trans rfl rfl
@[simp] theorem kEs2_ite (d : D) {c₀ : Prop} [Decidable c₀] (a₀ b₀ : R (List D)) : kEs2 d (if c₀ then a₀ else b₀) = if c₀ then kEs2 d a₀ else kEs2 d b₀ := by split <;> rfl
@[simp] theorem kEs2_stuck (d : D) : kEs2 d .stuck = .stuck := Eq.trans rfl rfl
@[simp] theorem kEs2_raise (d : D) (x₀ : Exc) : kEs2 d (.raise x₀ s) = .raise x₀ s := Eq.trans rfl rfl
def kEs (C : CallF) (r : List E) (r₀ : R RV) : R (List D) := r₀.bind fun x s => (match expo x with
    | some d => kEs2 d (evalEs C r s)
    | none => .stuck)
@[simp] theorem kEs_ok (C : CallF) (r : List E) (x₀ : RV) : kEs C r (.ok x₀ s) = (fun x => (match expo x with
    | some d => kEs2 d (evalEs C r s)
    | none => .stuck)) x₀ := Eq.trans rfl rfl
@[simp] theorem kEs_ite (C : CallF) (r : List E) {c₀ : Prop} [Decidable c₀] (a₀ b₀ : R RV) : kEs C r (if c₀ then a₀ else b₀) = if c₀ then kEs C r a₀ else kEs C r b₀ := by split <;> rfl
@[simp] theorem kEs_stuck (C : CallF) (r : List E) : kEs C r .stuck = .stuck := Eq.trans rfl rfl
@[simp] theorem kEs_raise (C : CallF) (r : List E) (x₀ : Exc) : kEs C r (.raise x₀ s) = .raise x₀ s := Eq.trans rfl rfl
@[simp] theorem es_cons (e : E) (r : List E) : evalEs C (e :: r) s = kEs C r (evalE C e s) := by
  rw [evalEs]
  unfold kEs exports
  cases evalE C e s with
  | ok x s1 =>
    simp only [bind_ok]
    cases expo x <;> rfl
  | _ => rfl
@[simp] theorem cs_nil  : evalCs C [] s = .ok true s := by rw [evalCs] <;> rfl
def kCsB (C : CallF) (r : List E) (s : S) : Option Bool → R Bool
  | some true => evalCs C r s
  | some false => .ok false s
  | none => .stuck
@[simp] theorem kCsB_some (C : CallF) (r : List E) (t₀ : Bool) : kCsB C r s (some t₀) = if t₀ = true then evalCs C r s else .ok false s := by cases t₀ <;> rfl
@[simp] theorem kCsB_none (C : CallF) (r : List E) : kCsB C r s none = .stuck := Eq.trans rfl rfl
def kCs (C : CallF) (r : List E) (r₀ : R RV) : R Bool := r₀.bind fun x s => kCsB C r s (truth s.h x)
@[simp] theorem kCs_ok (C : CallF) (r : List E) (x₀ : RV) : kCs C r (.ok x₀ s) = (fun x => kCsB C r s (truth s.h x)) x₀ := Eq.trans rfl rfl
@[simp] theorem kCs_ite (C : CallF) (r : List E) {c₀ : Prop} [Decidable c₀] (a₀ b₀ : R RV) : kCs C r (if c₀ then a₀ else b₀) = if c₀ then kCs C r a₀ else kCs C r b₀ := by split <;> rfl
@[simp] theorem kCs_stuck (C : CallF) (r : List E) : kCs C r .stuck = .stuck := Eq.trans rfl rfl
@[simp] theorem kCs_raise (C : CallF) (r : List E) (x₀ : Exc) : kCs C r (.raise x₀ s) = .raise x₀ s := Eq.trans rfl rfl
@[simp] theorem cs_cons (e : E) (r : List E) : evalCs C (e :: r) s = kCs C r (evalE C e s) := by
  rw [evalCs]
  unfold kCs isTruth
  cases evalE C e s with
  | ok x s1 =>
    simp only [bind_ok]
    cases truth s1.h x with
    | none => rfl
    | some t => cases t <;> rfl
  | _ => rfl
def kSeqI  (r₀ : R RV) : R (List D × Bool) := r₀.bind fun x s => (match x with
    | .val (.str t) => .ok (t.map fun c => .str [c], false) s
    | x => opt s ((seqOf s.h x).map fun xs => (xs, muOf x)))
@[simp] theorem kSeqI_ok  (x₀ : RV) : kSeqI  (.ok x₀ s) = (fun x => (match x with
    | .val (.str t) => .ok (t.map fun c => .str [c], false) s
    | x => opt s ((seqOf s.h x).map fun xs => (xs, muOf x)))) x₀ := Eq.trans rfl rfl
@[simp] theorem kSeqI_ite  {c₀ : Prop} [Decidable c₀] (a₀ b₀ : R RV) : kSeqI  (if c₀ then a₀ else b₀) = if c₀ then kSeqI  a₀ else kSeqI  b₀ := by split <;> rfl
@[simp] theorem kSeqI_stuck  : kSeqI  .stuck = .stuck := Eq.trans rfl rfl
@[simp] theorem kSeqI_raise  (x₀ : Exc) : kSeqI  (.raise x₀ s) = .raise x₀ s := Eq.trans rfl rfl
@[simp] theorem it_seq (e : E) : evalIt C (.seq e) s = kSeqI (evalE C e s) := by rw [evalIt] <;> rfl
def kRng1  (r₀ : R RV) : R (List D × Bool) := r₀.bind fun x s => (match x with
    | .val (.int n) => if -(2 ^ 62) ≤ n ∧ n < 2 ^ 62 then .ok (range' 0 1 n.toNat, false) s else .stuck
    | _ => .stuck)
@[simp] theorem kRng1_ok  (x₀ : RV) : kRng1  (.ok x₀ s) = (fun x => (match x with
    | .val (.int n) => if -(2 ^ 62) ≤ n ∧ n < 2 ^ 62 then .ok (range' 0 1 n.toNat, false) s else .stuck
    | _ => .stuck)) x₀ := Eq.trans rfl rfl
@[simp] theorem kRng1_ite  {c₀ : Prop} [Decidable c₀] (a₀ b₀ : R RV) : kRng1  (if c₀ then a₀ else b₀) = if c₀ then kRng1  a₀ else kRng1  b₀ := by split <;> rfl
@[simp] theorem kRng1_stuck  : kRng1  .stuck = .stuck := Eq.trans rfl rfl
@[simp] theorem kRng1_raise  (x₀ : Exc) : kRng1  (.raise x₀ s) = .raise x₀ s := Eq.trans rfl rfl
@[simp] theorem it_rng1 (e : E) : evalIt C (.rng1 e) s = kRng1 (evalE C e s) := by rw [evalIt] <;> rfl
def kKeys  (r₀ : R RV) : R (List D × Bool) := r₀.bind fun x s => opt s ((dctOf s.h x).map fun q => (q.2.map fun e => keyD e.1, muOf x))
@[simp] theorem kKeys_ok  (x₀ : RV) : kKeys  (.ok x₀ s) = (fun x => opt s ((dctOf s.h x).map fun q => (q.2.map fun e => keyD e.1, muOf x))) x₀ := Eq.trans rfl rfl
@[simp] theorem kKeys_ite  {c₀ : Prop} [Decidable c₀] (a₀ b₀ : R RV) : kKeys  (if c₀ then a₀ else b₀) = if c₀ then kKeys  a₀ else kKeys  b₀ := by split <;> rfl
@[simp] theorem kKeys_stuck  : kKeys  .stuck = .stuck := Eq.trans rfl rfl
@[simp] theorem kKeys_raise  (x₀ : Exc) : kKeys  (.raise x₀ s) = .raise x₀ s := Eq.trans rfl rfl
@[simp] theorem it_keys (e : E) : evalIt C (.keys e) s = kKeys (evalE C e s) := by rw [evalIt] <;> rfl
def kAsgn (i : Nat) (r₀ : R RV) : R Flow := r₀.bind fun x s => (match toSV x with
    | some sv => .ok .next { s with σ := s.σ.set i (some sv) }
    | none => .stuck)
@[simp] theorem kAsgn_ok (i : Nat) (x₀ : RV) : kAsgn i (.ok x₀ s) = (fun x => (match toSV x with
    | some sv => .ok .next { s with σ := s.σ.set i (some sv) }
    | none => .stuck)) x₀ := Eq.trans rfl rfl
@[simp] theorem kAsgn_ite (i : Nat) {c₀ : Prop} [Decidable c₀] (a₀ b₀ : R RV) : kAsgn i (if c₀ then a₀ else b₀) = if c₀ then kAsgn i a₀ else kAsgn i b₀ := by split <;> rfl
@[simp] theorem kAsgn_stuck (i : Nat) : kAsgn i .stuck = .stuck := Eq.trans rfl rfl
@[simp] theorem kAsgn_raise (i : Nat) (x₀ : Exc) : kAsgn i (.raise x₀ s) = .raise x₀ s := Eq.trans rfl rfl
@[simp] theorem ex_asgn (i : Nat) (e : E) : execS C (.asgn i e) s = kAsgn i (evalE C e s) := by rw [execS] <;> rfl
def kUnp (is : List Nat) (r₀ : R RV) : R Flow := r₀.bind fun x s => (match expo x with
    | some d => (match bindT is d s with
      | some s => .ok .next s
      | none => .stuck)
    | none => .stuck)
@[simp] theorem kUnp_ok (is : List Nat) (x₀ : RV) : kUnp is (.ok x₀ s) = (fun x => (match expo x with
    | some d => (match bindT is d s with
      | some s => .ok .next s
      | none => .stuck)
    | none => .stuck)) x₀ := Eq.trans rfl rfl
@[simp] theorem kUnp_ite (is : List Nat) {c₀ : Prop} [Decidable c₀] (a₀ b₀ : R RV) : kUnp is (if c₀ then a₀ else b₀) = if c₀ then kUnp is a₀ else kUnp is b₀ := by split <;> rfl
@[simp] theorem kUnp_stuck (is : List Nat) : kUnp is .stuck = .stuck := Eq.trans rfl rfl
@[simp] theorem kUnp_raise (is : List Nat) (x₀ : Exc) : kUnp is (.raise x₀ s) = .raise x₀ s := Eq.trans rfl rfl
@[simp] theorem ex_unp (is : List Nat) (e : E) : execS C (.unp is e) s = kUnp is (evalE C e s) := by
  rw [execS]
  unfold kUnp exports
  cases evalE C e s with
  | ok x s1 =>
    simp only [bind_ok]
    cases expo x <;> rfl
  | _ => rfl
def kPar (is : List Nat) (r₀ : R (List D)) : R Flow := r₀.bind fun ds s => if ds.length = is.length then .ok .next { s with σ := (is.zip ds).foldl (fun σ q => σ.set q.1 (some (.val q.2))) s.σ } else .stuck
@[simp] theorem kPar_ok (is : List Nat) (x₀ : (List D)) : kPar is (.ok x₀ s) = (fun ds => if ds.length = is.length then .ok .next { s with σ := (is.zip ds).foldl (fun σ q => σ.set q.1 (some (.val q.2))) s.σ } else .stuck) x₀ := Eq.trans rfl rfl
@[simp] theorem kPar_ite (is : List Nat) {c₀ : Prop} [Decidable c₀] (a₀ b₀ : R (List D)) : kPar is (if c₀ then a₀ else b₀) = if c₀ then kPar is a₀ else kPar is b₀ := by split <;> rfl
@[simp] theorem kPar_stuck (is : List Nat) : kPar is .stuck = .stuck := Eq.trans rfl rfl
@[simp] theorem kPar_raise (is : List Nat) (x₀ : Exc) : kPar is (.raise x₀ s) = .raise x₀ s := Eq.trans rfl rfl
@[simp] theorem ex_par (is : List Nat) (es : List E) : execS C (.par is es) s = kPar is (evalEs C es s) := by rw [execS] <;> rfl
def kFset2 (cs : List String) (f : String) (v : RV) (r₀ : R RV) : R Flow := r₀.bind fun x s => (match x, toSV v with
    | .val (.ref i), some sv => match s.h[i]? with
      | some (.ins c fs) => if cs.contains c = true ∧ fs.length < 1000 then .ok .next { s with h := s.h.set i (.ins c (fput f sv fs)) } else .stuck
      | _ => .stuck
    | _, _ => .stuck)
@[simp] theorem kFset2_ok (cs : List String) (f : String) (v : RV) (x₀ : RV) : kFset2 cs f v (.ok x₀ s) = (fun x => (match x, toSV v with
    | .val (.ref i), some sv => match s.h[i]? with
      | some (.ins c fs) => if cs.contains c = true ∧ fs.length < 1000 then .ok .next { s with h := s.h.set i (.ins c (fput f sv fs)) } else .stuck
      | _ => .stuck
    | _, _ => .stuck)) x₀ := Eq.trans rfl rfl
@[simp] theorem kFset2_ite (cs : List String) (f : String) (v : RV) {c₀ : Prop} [Decidable c₀] (a₀ b₀ : R RV) : kFset2 cs f v (if c₀ then a₀ else b₀) = if c₀ then kFset2 cs f v a₀ else kFset2 cs f v b₀ := by split <;> rfl
@[simp] theorem kFset2_stuck (cs : List String) (f : String) (v : RV) : kFset2 cs f v .stuck = .stuck := Eq.trans rfl rfl
@[simp] theorem kFset2_raise (cs : List String) (f : String) (v : RV) (x₀ : Exc) : kFset2 cs f v (.raise x₀ s) = .raise x₀ s := Eq.trans rfl rfl
def kFset (C : CallF) (cs : List String) (o : E) (f : String) (r₀ : R RV) : R Flow := r₀.bind fun v s => kFset2 cs f v (evalE C o s)
@[simp] theorem kFset_ok (C : CallF) (cs : List String) (o : E) (f : String) (x₀ : RV) : kFset C cs o f (.ok x₀ s) = (fun v => kFset2 cs f v (evalE C o s)) x₀ := Eq.trans rfl rfl
@[simp] theorem kFset_ite (C : CallF) (cs : List String) (o : E) (f : String) {c₀ : Prop} [Decidable c₀] (a₀ b₀ : R RV) : kFset C cs o f (if c₀ then a₀ else b₀) = if c₀ then kFset C cs o f a₀ else kFset C cs o f b₀ := by split <;> rfl
@[simp] theorem kFset_stuck (C : CallF) (cs : List String) (o : E) (f : String) : kFset C cs o f .stuck = .stuck := Eq.trans rfl rfl
@[simp] theorem kFset_raise (C : CallF) (cs : List String) (o : E) (f : String) (x₀ : Exc) : kFset C cs o f (.raise x₀ s) = .raise x₀ s := Eq.trans rfl rfl
@[simp] theorem ex_fset (cs : List String) (o : E) (f : String) (e : E) : execS C (.fset cs o f e) s = kFset C cs o f (evalE C e s) := by rw [execS] <;> rfl
def kUnit  (r₀ : R Unit) : R Flow := r₀.bind fun _ s => .ok .next s
@[simp] theorem kUnit_ok  (x₀ : Unit) : kUnit  (.ok x₀ s) = (fun _ => .ok .next s) x₀ := Eq.trans rfl rfl
@[simp] theorem kUnit_ite  {c₀ : Prop} [Decidable c₀] (a₀ b₀ : R Unit) : kUnit  (if c₀ then a₀ else b₀) = if c₀ then kUnit  a₀ else kUnit  b₀ := by split <;> rfl
@[simp] theorem kUnit_stuck  : kUnit  .stuck = .stuck := Eq.trans rfl rfl
@[simp] theorem kUnit_raise  (x₀ : Exc) : kUnit  (.raise x₀ s) = .raise x₀ s := Eq.trans rfl rfl
def kIset3 (x v : RV) (r₀ : R RV) : R Flow := r₀.bind fun k s => (match expo k with
    | some k => kUnit (runISet s x k v)
    | none => .stuck)
@[simp] theorem kIset3_ok (x v : RV) (x₀ : RV) : kIset3 x v (.ok x₀ s) = (fun k => (match expo k with
    | some k => kUnit (runISet s x k v)
    | none => .stuck)) x₀ := Eq.trans rfl rfl
@[simp] theorem kIset3_ite (x v : RV) {c₀ : Prop} [Decidable c₀] (a₀ b₀ : R RV) : kIset3 x v (if c₀ then a₀ else b₀) = if c₀ then kIset3 x v a₀ else kIset3 x v b₀ := by split <;> rfl
@[simp] theorem kIset3_stuck (x v : RV) : kIset3 x v .stuck = .stuck := Eq.trans rfl rfl
@[simp] theorem kIset3_raise (x v : RV) (x₀ : Exc) : kIset3 x v (.raise x₀ s) = .raise x₀ s := Eq.trans rfl rfl
def kIset2 (C : CallF) (k : E) (v : RV) (r₀ : R RV) : R Flow := r₀.bind fun x s => if isPk x && !pure k then .stuck else kIset3 x v (evalE C k s)
@[simp] theorem kIset2_ok (C : CallF) (k : E) (v : RV) (x₀ : RV) : kIset2 C k v (.ok x₀ s) = (fun x => if isPk x && !pure k then .stuck else kIset3 x v (evalE C k s)) x₀ := Eq.trans rfl rfl
@[simp] theorem kIset2_ite (C : CallF) (k : E) (v : RV) {c₀ : Prop} [Decidable c₀] (a₀ b₀ : R RV) : kIset2 C k v (if c₀ then a₀ else b₀) = if c₀ then kIset2 C k v a₀ else kIset2 C k v b₀ := by split <;> rfl
@[simp] theorem kIset2_stuck (C : CallF) (k : E) (v : RV) : kIset2 C k v .stuck = .stuck := Eq.trans rfl rfl
@[simp] theorem kIset2_raise (C : CallF) (k : E) (v : RV) (x₀ : Exc) : kIset2 C k v (.raise x₀ s) = .raise x₀ s := Eq.trans rfl rfl
def kIset (C : CallF) (o k : E) (r₀ : R RV) : R Flow := r₀.bind fun v s => if isPk v then .stuck else kIset2 C k v (evalE C o s)
@[simp] theorem kIset_ok (C : CallF) (o k : E) (x₀ : RV) : kIset C o k (.ok x₀ s) = (fun v => if isPk v then .stuck else kIset2 C k v (evalE C o s)) x₀ := Eq.trans rfl rfl
@[simp] theorem kIset_ite (C : CallF) (o k : E) {c₀ : Prop} [Decidable c₀] (a₀ b₀ : R RV) : kIset C o k (if c₀ then a₀ else b₀) = if c₀ then kIset C o k a₀ else kIset C o k b₀ := by split <;> rfl
@[simp] theorem kIset_stuck (C : CallF) (o k : E) : kIset C o k .stuck = .stuck := Eq.trans rfl rfl
@[simp] theorem kIset_raise (C : CallF) (o k : E) (x₀ : Exc) : kIset C o k (.raise x₀ s) = .raise x₀ s := Eq.trans rfl rfl
@[simp] theorem ex_iset (o k e : E) : execS C (.iset o k e) s = kIset C o k (evalE C e s) := by
  rw [execS]
  unfold kIset kIset2 kIset3 kUnit exports
  cases evalE C e s with
  | ok v s1 =>
    simp only [bind_ok]
    split
    · rfl
    cases evalE C o s1 with
    | ok x s2 =>
      simp only [bind_ok]
      split
      · rfl
      cases evalE C k s2 with
      | ok y s3 =>
        simp only [bind_ok]
        cases expo y <;> rfl
      | _ => rfl
    | _ => rfl
  | _ => rfl
def kExpr  (r₀ : R RV) : R Flow := r₀.bind fun _ s => .ok .next s
@[simp] theorem kExpr_ok  (x₀ : RV) : kExpr  (.ok x₀ s) = (fun _ => .ok .next s) x₀ := Eq.trans rfl rfl
@[simp] theorem kExpr_ite  {c₀ : Prop} [Decidable c₀] (a₀ b₀ : R RV) : kExpr  (if c₀ then a₀ else b₀) = if c₀ then kExpr  a₀ else kExpr  b₀ := by split <;> rfl
@[simp] theorem kExpr_stuck  : kExpr  .stuck = .stuck := Eq.trans rfl rfl
@[simp] theorem kExpr_raise  (x₀ : Exc) : kExpr  (.raise x₀ s) = .raise x₀ s := Eq.trans rfl rfl
@[simp] theorem ex_expr (e : E) : execS C (.expr e) s = kExpr (evalE C e s) := by rw [execS] <;> rfl
def kIteB (C : CallF) (a b : List St) (s : S) : Option Bool → R Flow
  | some true => execs C a s
  | some false => execs C b s
  | none => .stuck
@[simp] theorem kIteB_some (C : CallF) (a b : List St) (t₀ : Bool) : kIteB C a b s (some t₀) = if t₀ = true then execs C a s else execs C b s := by cases t₀ <;> rfl
@[simp] theorem kIteB_none (C : CallF) (a b : List St) : kIteB C a b s none = .stuck := Eq.trans rfl rfl
def kIte (C : CallF) (a b : List St) (r₀ : R RV) : R Flow := r₀.bind fun x s => kIteB C a b s (truth s.h x)
@[simp] theorem kIte_ok (C : CallF) (a b : List St) (x₀ : RV) : kIte C a b (.ok x₀ s) = (fun x => kIteB C a b s (truth s.h x)) x₀ := Eq.trans rfl rfl
@[simp] theorem kIte_ite (C : CallF) (a b : List St) {c₀ : Prop} [Decidable c₀] (a₀ b₀ : R RV) : kIte C a b (if c₀ then a₀ else b₀) = if c₀ then kIte C a b a₀ else kIte C a b b₀ := by split <;> rfl
@[simp] theorem kIte_stuck (C : CallF) (a b : List St) : kIte C a b .stuck = .stuck := Eq.trans rfl rfl
@[simp] theorem kIte_raise (C : CallF) (a b : List St) (x₀ : Exc) : kIte C a b (.raise x₀ s) = .raise x₀ s := Eq.trans rfl rfl
@[simp] theorem ex_ite (c : E) (a b : List St) : execS C (.ite c a b) s = kIte C a b (evalE C c s) := by
  rw [execS]
  unfold kIte isTruth
  cases evalE C c s with
  | ok x s1 =>
    simp only [bind_ok]
    cases truth s1.h x with
    | none => rfl
    | some t => cases t <;> rfl
  | _ => rfl
def kFor (C : CallF) (is : List Nat) (k : Bool) (b : List St) (r₀ : R (List D × Bool)) : R Flow := r₀.bind fun ps s => if ps.2 then .stuck else calmIf k (forLoop is (runB C b) ps.1 s)
@[simp] theorem kFor_ok (C : CallF) (is : List Nat) (k : Bool) (b : List St) (x₀ : (List D × Bool)) : kFor C is k b (.ok x₀ s) = (fun ps => if ps.2 then .stuck else calmIf k (forLoop is (runB C b) ps.1 s)) x₀ := Eq.trans rfl rfl
@[simp] theorem kFor_ite (C : CallF) (is : List Nat) (k : Bool) (b : List St) {c₀ : Prop} [Decidable c₀] (a₀ b₀ : R (List D × Bool)) : kFor C is k b (if c₀ then a₀ else b₀) = if c₀ then kFor C is k b a₀ else kFor C is k b b₀ := by split <;> rfl
@[simp] theorem kFor_stuck (C : CallF) (is : List Nat) (k : Bool) (b : List St) : kFor C is k b .stuck = .stuck := Eq.trans rfl rfl
@[simp] theorem kFor_raise (C : CallF) (is : List Nat) (k : Bool) (b : List St) (x₀ : Exc) : kFor C is k b (.raise x₀ s) = .raise x₀ s := Eq.trans rfl rfl
@[simp] theorem ex_for (is : List Nat) (it : It) (b : List St) : execS C (.forr is it b) s = kFor C is (isK it) b (evalIt C it s) := by rw [execS] <;> rfl
def kRet  (r₀ : R RV) : R Flow := r₀.bind fun x s => (match retV x with
    | some v => .ok (.ret v) s
    | none => .stuck)
@[simp] theorem kRet_ok  (x₀ : RV) : kRet  (.ok x₀ s) = (fun x => (match retV x with
    | some v => .ok (.ret v) s
    | none => .stuck)) x₀ := Eq.trans rfl rfl
@[simp] theorem kRet_ite  {c₀ : Prop} [Decidable c₀] (a₀ b₀ : R RV) : kRet  (if c₀ then a₀ else b₀) = if c₀ then kRet  a₀ else kRet  b₀ := by split <;> rfl
@[simp] theorem kRet_stuck  : kRet  .stuck = .stuck := Eq.trans rfl rfl
@[simp] theorem kRet_raise  (x₀ : Exc) : kRet  (.raise x₀ s) = .raise x₀ s := Eq.trans rfl rfl
@[simp] theorem ex_ret (e : E) : execS C (.ret e) s = kRet (evalE C e s) := by rw [execS] <;> rfl
@[simp] theorem ex_retN  : execS C .retN s = .ok (.ret (.val .non)) s := by rw [execS] <;> rfl
@[simp] theorem ex_pas  : execS C .pas s = .ok .next s := by rw [execS] <;> rfl
@[simp] theorem exs_nil  : execs C [] s = .ok .next s := by rw [execs] <;> rfl
def kSeq (C : CallF) (r : List St) (r₀ : R Flow) : R Flow := r₀.bind fun f s => (match f with
    | .next => execs C r s
    | f => .ok f s)

@[simp] theorem kSeq_ite (C : CallF) (r : List St) {c₀ : Prop} [Decidable c₀] (a₀ b₀ : R Flow) : kSeq C r (if c₀ then a₀ else b₀) = if c₀ then kSeq C r a₀ else kSeq C r b₀ := by split <;> rfl
@[simp] theorem kSeq_stuck (C : CallF) (r : List St) : kSeq C r .stuck = .stuck := Eq.trans rfl rfl
@[simp] theorem kSeq_raise (C : CallF) (r : List St) (x₀ : Exc) : kSeq C r (.raise x₀ s) = .raise x₀ s := Eq.trans rfl rfl
@[simp] theorem kSeq_next (C : CallF) (r : List St) : kSeq C r (.ok .next s) = execs C r s := Eq.trans rfl rfl
@[simp] theorem kSeq_ret (C : CallF) (r : List St) (v : RV) : kSeq C r (.ok (.ret v) s) = .ok (.ret v) s := Eq.trans rfl rfl
@[simp] theorem kSeq_brk (C : CallF) (r : List St) : kSeq C r (.ok .brk s) = .ok .brk s := Eq.trans rfl rfl
@[simp] theorem exs_cons (st : St) (r : List St) : execs C (st :: r) s = kSeq C r (execS C st s) := by rw [execs] <;> rfl
def kFn  (r₀ : R Flow) : R RV := r₀.bind fun f s => (match f with
          | .next => .ok (.val .non) ⟨[], s.h⟩
          | .ret v => .ok v ⟨[], s.h⟩
          | .brk => .stuck)

@[simp] theorem kFn_ite  {c₀ : Prop} [Decidable c₀] (a₀ b₀ : R Flow) : kFn  (if c₀ then a₀ else b₀) = if c₀ then kFn  a₀ else kFn  b₀ := by split <;> rfl
@[simp] theorem kFn_stuck  : kFn  .stuck = .stuck := Eq.trans rfl rfl
@[simp] theorem kFn_raise  (x₀ : Exc) : kFn  (.raise x₀ s) = .raise x₀ s := Eq.trans rfl rfl
@[simp] theorem kFn_next : kFn (.ok .next s) = .ok (.val .non) ⟨[], s.h⟩ := Eq.trans rfl rfl
@[simp] theorem kFn_ret (v : RV) : kFn (.ok (.ret v) s) = .ok v ⟨[], s.h⟩ := Eq.trans rfl rfl
theorem callF_is {g : Prog} {d : Nat} {f : String} {ds : List D} {h : List Cell} {fn : Fn} (e : g f = some fn) (hl : ds.length = fn.np) : callF g (d + 1) f ds h = kFn (execs (callF g d) fn.body ⟨(ds.map fun d => some (.val d)) ++ List.replicate (fn.ns - fn.np) none, h⟩) := by
  simp only [callF, e, if_pos hl]
  rfl
@[simp] theorem kCalm_ite {c : Prop} [Decidable c] {a b : R α} : kCalm (if c then a else b) = if c then kCalm a else kCalm b := by split <;> rfl
@[simp] theorem back_ok (σ : List (Option SV)) (a : α) : back σ (.ok a s) = .ok a ⟨σ, s.h⟩ := rfl
@[simp] theorem back_ite {c : Prop} [Decidable c] {σ : List (Option SV)} {a b : R α} : back σ (if c then a else b) = if c then back σ a else back σ b := by split <;> rfl
@[simp] theorem opt_ite {c : Prop} [Decidable c] {a b : Option α} : opt s (if c then a else b) = if c then opt s a else opt s b := by split <;> rfl
/-! reading -/
@[simp] theorem frz_val (d : D) : frzIt s (.val d) = .ok (.val d) s := rfl
@[simp] theorem frz_own (c : Cont) : frzIt s (.own c) = .ok (.val c.fz) s := rfl
@[simp] theorem calmIf_ok (k : Bool) (x : α) : calmIf k (.ok x s) = .ok x s := by cases k <;> rfl

@[simp] theorem retV_val (d : D) : retV (.val d) = some (.val d) := rfl
@[simp] theorem retV_own (c : Cont) : retV (.own c) = some (.own c) := rfl
@[simp] theorem retV_slot (i : Nat) (c : Cont) : retV (.pk (.slot i) c) = some (.own c) := rfl
@[simp] theorem isN_non : oIsNone (.val .non) = some true := rfl
@[simp] theorem isN_tup (xs : List D) : oIsNone (.val (.tup xs)) = some false := rfl
@[simp] theorem isN_lst (xs : List D) : oIsNone (.val (.lst xs)) = some false := rfl
@[simp] theorem isN_dct (xs : List (Key × D)) : oIsNone (.val (.dct xs)) = some false := rfl
@[simp] theorem isN_str (xs : T) : oIsNone (.val (.str xs)) = some false := rfl
@[simp] theorem isN_int (xs : Int) : oIsNone (.val (.int xs)) = some false := rfl
@[simp] theorem isN_bl (xs : Bool) : oIsNone (.val (.bl xs)) = some false := rfl
@[simp] theorem isN_ref (xs : Nat) : oIsNone (.val (.ref xs)) = some false := rfl
@[simp] theorem isN_own (c : Cont) : oIsNone (.own c) = some false := rfl
@[simp] theorem isN_pk (p : Pl) (c : Cont) : oIsNone (.pk p c) = some false := rfl
@[simp] theorem unSV_val (d : D) : unSV (.val d) = d := rfl

@[simp] theorem pk_val (d : D) : isPk (.val d) = false := rfl
@[simp] theorem pk_own (d : Cont) : isPk (.own d) = false := rfl
@[simp] theorem pk_pk (p : Pl) (d : Cont) : isPk (.pk p d) = true := rfl
@[simp] theorem pu_var (i : Nat) : pure (.var i) = true := by rw [pure]
@[simp] theorem pu_cst (d : D) : pure (.cst d) = true := by rw [pure]
@[simp] theorem pu_glb (x : String) (d : D) : pure (.glb x d) = true := by rw [pure]
@[simp] theorem pu_p1 (o : Op1) (a : E) : pure (.p1 o a) = pure a := by rw [pure]
@[simp] theorem pu_p2 (o : Op2) (a b : E) : pure (.p2 o a b) = (pure a && pure b) := by rw [pure]
@[simp] theorem pu_p3 (o : Op3) (a b c : E) : pure (.p3 o a b c) = (pure a && pure b && pure c) := by rw [pure]
@[simp] theorem pu_tup (es : List E) : pure (.tup es) = pures es := by rw [pure]
@[simp] theorem pu_lst (es : List E) : pure (.lst es) = pures es := by rw [pure]
@[simp] theorem pu_fld (cs : List String) (e : E) (f : String) : pure (.fld cs e f) = pure e := by rw [pure]
@[simp] theorem pu_call (f : String) (es : List E) : pure (.call f es) = false := by rw [pure] <;> simp
@[simp] theorem pu_frz (e : E) : pure (.frz e) = false := by rw [pure] <;> simp
@[simp] theorem pu_ife (c a b : E) : pure (.ife c a b) = (pure c && pure a && pure b) := by rw [pure]
@[simp] theorem pus_nil : pures [] = true := by rw [pures]
@[simp] theorem pus_cons (e : E) (r : List E) : pures (e :: r) = (pure e && pures r) := by rw [pures]
@[simp] theorem kfind_nil (k : Key) : kfind k ([] : List (Key × α)) = none := rfl
@[simp] theorem tr_bl (h : List Cell) (b : Bool) : truth h (.val (.bl b)) = some b := rfl
@[simp] theorem tr_non (h : List Cell) : truth h (.val .non) = some false := rfl
@[simp] theorem tr_int (h : List Cell) (i : Int) : truth h (.val (.int i)) = some (decide (i ≠ 0)) := rfl
@[simp] theorem tr_str (h : List Cell) (t : T) : truth h (.val (.str t)) = some (!t.isEmpty) := rfl
@[simp] theorem tr_lst (h : List Cell) (t : List D) : truth h (.val (.lst t)) = some (!t.isEmpty) := rfl
@[simp] theorem tr_tup (h : List Cell) (t : List D) : truth h (.val (.tup t)) = some (!t.isEmpty) := rfl
@[simp] theorem eqD_str (a b : T) : eqD (.str a) (.str b) = some (decide (a = b)) := by simp [eqD, shaped, isData, dep, deq]
@[simp] theorem eqD_int (a b : Int) : eqD (.int a) (.int b) = some (decide (a = b)) := by simp [eqD, shaped, isData, dep, deq]
@[simp] theorem neqD_str (a b : T) : neqD (.str a) (.str b) = some (!decide (a = b)) := by simp [neqD]
@[simp] theorem neqD_int (a b : Int) : neqD (.int a) (.int b) = some (!decide (a = b)) := by simp [neqD]
@[simp] theorem neqD_lst (a : List D) (b : D) : neqD (.lst a) b = (eqD (.lst a) b).map (!·) := Eq.trans rfl rfl
@[simp] theorem neqD_tup (a : List D) (b : D) : neqD (.tup a) b = (eqD (.tup a) b).map (!·) := Eq.trans rfl rfl
@[simp] theorem kfind_plain (k : Key) : ∀ kvs : List (Key × D), kfind k (plainEs kvs) = (kfind k kvs).map .val
  | [] => rfl
  | q :: r => by
    have ih := kfind_plain k r
    simp only [plainEs] at ih
    simp only [plainEs, List.map_cons, kfind]
    split
    · rfl
    · exact ih
@[simp] theorem kfind_plain' (k : Key) (kvs : List (Key × D)) : kfind k (kvs.map fun q => (q.1, SV.val q.2)) = (kfind k kvs).map .val := kfind_plain k kvs
@[simp] theorem kdel_plain (k : Key) (kvs : List (Key × D)) : kdel k (kvs.map fun q => (q.1, SV.val q.2)) = (kdel k kvs).map fun q => (q.1, SV.val q.2) := by
  simp [kdel, List.filter_map]; rfl
@[simp] theorem kput_plain (k : Key) (v : D) : ∀ kvs : List (Key × D), kput k (SV.val v) (kvs.map fun q => (q.1, SV.val q.2)) = (kput k v kvs).map fun q => (q.1, SV.val q.2)
  | [] => rfl
  | q :: r => by
    have ih := kput_plain k v r
    simp only [List.map_cons, kput]
    split
    · rfl
    · rw [ih]; rfl
@[simp] theorem unplain (kvs : List (Key × D)) : (kvs.map fun q => (q.1, SV.val q.2)).map (fun q => (q.1, unSV q.2)) = kvs := by
  rw [List.map_map]
  exact List.map_id'' (fun _ => rfl) _
@[simp] theorem unplain' (kvs : List (Key × D)) : kvs.map ((fun q => (q.1, unSV q.2)) ∘ fun q => (q.1, SV.val q.2)) = kvs := List.map_id'' (fun _ => rfl) _
@[simp] theorem get_set (h : List Cell) (i : Nat) (c : Cell) : (h.set i c)[i]? = (h[i]?).map fun _ => c := by
  by_cases z : i < h.length
  · rw [List.getElem?_set_self z, List.getElem?_eq_getElem z]; rfl
  · rw [List.getElem?_eq_none (by simpa using z), List.getElem?_eq_none (by simpa using z)]; rfl
end
end KW
/-! KwG1: stores by kinds, plainly. -/
namespace KW.Pl
abbrev textK : T := [116, 101, 120, 116]
abbrev rowK : T := [114, 111, 119]
abbrev setK : T := [115, 101, 116]
abbrev tabK : T := [116, 97, 98, 108, 101]
abbrev rankK : T := [114, 97, 110, 107]
abbrev noneK : T := [110, 111, 110, 101]
abbrev tNumber : D := .str [110, 117, 109, 98, 101, 114]
abbrev dNumber : D := .tup [.str [98, 97, 100], .str [110, 117, 109, 98, 101, 114]]
abbrev dLong : D := .tup [.str [98, 97, 100], .str [108, 111, 110, 103]]
abbrev dKind : D := .tup [.str [98, 97, 100], .str [107, 105, 110, 100]]
abbrev dNone : D := .tup [.str [110, 111, 110, 101]]
abbrev dDone : D := .tup [.str [111, 107], .str [100, 111, 110, 101]]
abbrev dBadNone : D := .tup [.str [98, 97, 100], .str [110, 111, 110, 101]]
abbrev dNum (n : Int) : D := .tup [tNumber, .int n]
abbrev numB (b : Bool) : D := .tup [tNumber, .int (if b then 1 else 0)]
abbrev dText (t : T) : D := .tup [.str textK, .str t]
/-- texts as a row -/
def rowD (xs : List D) : D := .tup [.str rowK, .tup (xs.map fun x => .tup [.str textK, x])]
def rowT (ts : List T) : D := rowD (ts.map .str)

/-! ### dicts by texts -/
section
variable {α β : Type}
def tput (k : T) (v : α) : List (T × α) → List (T × α)
  | [] => [(k, v)]
  | q :: r => if q.1 = k then (q.1, v) :: r else q :: tput k v r
def tdel (k : T) (l : List (T × α)) : List (T × α) := l.filter fun q => !decide (q.1 = k)
def cD (g : α → D) (l : List (T × α)) : List (Key × D) := l.map fun q => (.inr q.1, g q.2)
@[simp] theorem tfind_nil (k : T) : tfind k ([] : List (T × α)) = none := rfl
@[simp] theorem cD_nil (g : α → D) : cD g ([] : List (T × α)) = [] := rfl
@[simp] theorem cD_cons (g : α → D) (q : T × α) (l : List (T × α)) : cD g (q :: l) = (.inr q.1, g q.2) :: cD g l := rfl
@[simp] theorem cD_len (g : α → D) (l : List (T × α)) : (cD g l).length = l.length := List.length_map _
@[simp] theorem kfind_cD (g : α → D) (k : T) : ∀ l : List (T × α), kfind (.inr k) (cD g l) = (tfind k l).map g
  | [] => rfl
  | q :: r => by
    have ih := kfind_cD g k r
    rw [cD_cons, kfind, tfind]
    by_cases e : q.1 = k
    · rw [if_pos e, if_pos (by rw [e])]; rfl
    · rw [if_neg e, if_neg (fun z => e (Sum.inr.inj z)), ih]
theorem kput_cD (g : α → D) (k : T) (v : α) : ∀ l : List (T × α), kput (.inr k) (g v) (cD g l) = cD g (tput k v l)
  | [] => rfl
  | q :: r => by
    have ih := kput_cD g k v r
    rw [cD_cons, kput, tput]
    by_cases e : q.1 = k
    · rw [if_pos e, if_pos (by rw [e])]; rfl
    · rw [if_neg e, if_neg (fun z => e (Sum.inr.inj z)), ih]; rfl
@[simp] theorem kdel_cD (g : α → D) (k : T) : ∀ l : List (T × α), kdel (.inr k) (cD g l) = cD g (tdel k l)
  | [] => rfl
  | q :: r => by
    have ih := kdel_cD g k r
    unfold kdel tdel at *
    rw [cD_cons, List.filter_cons, List.filter_cons, ih]
    by_cases e : q.1 = k
    · simp [e]
    · simp [e]
theorem tdel_none {k : T} : ∀ {l : List (T × α)}, tfind k l = none → tdel k l = l
  | [], _ => rfl
  | q :: r, h => by
    unfold tfind at h
    split at h
    · cases h
    · rename_i e
      have ih := tdel_none h
      unfold tdel at ih ⊢
      rw [List.filter_cons, if_pos (by simpa using e), ih]
theorem tput_len_le (k : T) (v : α) : ∀ l : List (T × α), (tput k v l).length ≤ l.length + 1
  | [] => Nat.le_refl _
  | q :: r => by
    unfold tput
    split
    · simp
    · simp [tput_len_le k v r]
theorem tput_len {k : T} {v : α} : ∀ {l : List (T × α)}, (tput k v l).length = if (tfind k l).isSome then l.length else l.length + 1
  | [] => rfl
  | q :: r => by
    unfold tput tfind
    split
    · simp
    · rw [List.length_cons, tput_len]
      split <;> simp
theorem tput_new {k : T} {v : α} : ∀ {l : List (T × α)}, tfind k l = none → tput k v l = l ++ [(k, v)]
  | [], _ => rfl
  | q :: r, h => by
    unfold tfind at h
    split at h
    · cases h
    · rename_i e
      unfold tput
      rw [if_neg e, tput_new h]; rfl
theorem tdel_len (k : T) (l : List (T × α)) : (tdel k l).length ≤ l.length := List.length_filter_le _ _
theorem tfind_mem {k : T} {v : α} : ∀ {l : List (T × α)}, tfind k l = some v → (k, v) ∈ l
  | q :: r, h => by
    unfold tfind at h
    split at h
    · rename_i e
      cases h
      rw [← e]
      exact List.mem_cons_self
    · exact List.mem_cons_of_mem _ (tfind_mem h)
theorem tput_sub {k : T} {v : α} : ∀ {l : List (T × α)} {q : T × α}, q ∈ tput k v l → q ∈ l ∨ q = (k, v)
  | [], q, h => .inr (by simpa [tput] using h)
  | p :: r, q, h => by
    unfold tput at h
    split at h
    · rename_i e
      rcases List.mem_cons.mp h with rfl | h
      · exact .inr (by rw [e])
      · exact .inl (List.mem_cons_of_mem _ h)
    · rcases List.mem_cons.mp h with rfl | h
      · exact .inl List.mem_cons_self
      · rcases tput_sub h with h | h
        · exact .inl (List.mem_cons_of_mem _ h)
        · exact .inr h
theorem tdel_sub {k : T} {l : List (T × α)} {q : T × α} (h : q ∈ tdel k l) : q ∈ l := (List.mem_filter.mp h).1
theorem tfind_none {k : T} : ∀ {l : List (T × α)}, tfind k l = none → ∀ q ∈ l, q.1 ≠ k
  | [], _, _, h => by cases h
  | p :: r, e, q, h => by
    unfold tfind at e
    split at e
    · cases e
    · rename_i z
      rcases List.mem_cons.mp h with rfl | h
      · exact z
      · exact tfind_none e q h
theorem tfind_none_of {k : T} : ∀ {l : List (T × α)}, (∀ q ∈ l, q.1 ≠ k) → tfind k l = none
  | [], _ => rfl
  | p :: r, h => by
    unfold tfind
    rw [if_neg (h p (by simp)), tfind_none_of fun q hq => h q (by simp [hq])]
theorem tfind_nd : ∀ {l : List (T × α)}, (l.map (·.1)).Nodup → ∀ q ∈ l, tfind q.1 l = some q.2
  | [], _, q, h => by cases h
  | p :: r, hn, q, h => by
    rw [List.map_cons, List.nodup_cons] at hn
    unfold tfind
    rcases List.mem_cons.mp h with rfl | h
    · rw [if_pos rfl]
    · have : ¬ p.1 = q.1 := fun z => hn.1 (z ▸ List.mem_map_of_mem h)
      rw [if_neg this]
      exact tfind_nd hn.2 q h
theorem tput_keys {k : T} {v : α} : ∀ {l : List (T × α)} {u : α}, tfind k l = some u → (tput k v l).map (·.1) = l.map (·.1)
  | q :: r, u, h => by
    unfold tfind at h
    unfold tput
    split at h
    · rename_i e
      rw [if_pos e]; rfl
    · rename_i e
      rw [if_neg e, List.map_cons, List.map_cons, tput_keys h]
theorem tput_nd {k : T} {v : α} {l : List (T × α)} (h : (l.map (·.1)).Nodup) : ((tput k v l).map (·.1)).Nodup := by
  cases e : tfind k l with
  | some u => rw [tput_keys e]; exact h
  | none =>
    rw [tput_new e, List.map_append, List.map_cons, List.map_nil, List.nodup_append]
    refine ⟨h, by simp, fun a ha b hb => ?_⟩
    rw [List.mem_singleton] at hb
    obtain ⟨q, hq, rfl⟩ := List.mem_map.mp ha
    rw [hb]
    exact tfind_none e q hq
theorem tdel_nd {k : T} {l : List (T × α)} (h : (l.map (·.1)).Nodup) : ((tdel k l).map (·.1)).Nodup := h.sublist (List.Sublist.map _ List.filter_sublist)
theorem tfind_tput_self {k : T} {v : α} : ∀ {l : List (T × α)}, tfind k (tput k v l) = some v
  | [] => by simp [tput, tfind]
  | q :: r => by
    unfold tput
    split
    · rename_i e
      unfold tfind
      rw [if_pos e]
    · rename_i e
      unfold tfind
      rw [if_neg e]
      exact tfind_tput_self
theorem tfind_tput_ne {k j : T} {v : α} (hn : j ≠ k) : ∀ {l : List (T × α)}, tfind j (tput k v l) = tfind j l
  | [] => by
    unfold tput tfind
    rw [if_neg (fun z => hn z.symm)]
    rfl
  | q :: r => by
    unfold tput
    split
    · rename_i e
      unfold tfind
      have : ¬ q.1 = j := fun z => hn (z.symm.trans e)
      rw [if_neg this, if_neg this]
    · unfold tfind
      split
      · rfl
      · exact tfind_tput_ne hn
theorem tfind_tdel_self {k : T} : ∀ {l : List (T × α)}, tfind k (tdel k l) = none
  | [] => rfl
  | q :: r => by
    unfold tdel
    rw [List.filter_cons]
    split
    · rename_i e
      unfold tfind
      rw [if_neg (by simpa using e)]
      exact tfind_tdel_self
    · exact tfind_tdel_self
theorem tfind_tdel_ne {k j : T} (hn : j ≠ k) : ∀ {l : List (T × α)}, tfind j (tdel k l) = tfind j l
  | [] => rfl
  | q :: r => by
    have ih := tfind_tdel_ne hn (l := r)
    unfold tdel at ih ⊢
    rw [List.filter_cons]
    by_cases e : q.1 = k
    · rw [if_neg (by simp [e]), ih]
      have e2 : ¬ q.1 = j := fun z => hn (z.symm.trans e)
      conv => rhs; unfold tfind
      rw [if_neg e2]
    · rw [if_pos (by simpa using e)]
      unfold tfind
      split
      · rfl
      · exact ih
end

/-! ### orders -/
section
variable {α β : Type}
def insB (lt : α → α → Bool) (x : α) : List α → List α
  | [] => [x]
  | y :: r => if lt y x then y :: insB lt x r else x :: y :: r
def sortB (lt : α → α → Bool) (l : List α) : List α := l.foldr (fun x acc => insB lt x acc) []
def sortT (l : List T) : List T := sortB ltT l
theorem insB_len (lt : α → α → Bool) (x : α) : ∀ l : List α, (insB lt x l).length = l.length + 1
  | [] => rfl
  | y :: r => by
    unfold insB
    split
    · rw [List.length_cons, insB_len lt x r]; rfl
    · rfl
theorem sortB_len (lt : α → α → Bool) : ∀ l : List α, (sortB lt l).length = l.length
  | [] => rfl
  | x :: r => by
    show (insB lt x (sortB lt r)).length = _
    rw [insB_len, sortB_len lt r]; rfl
theorem insB_mem {lt : α → α → Bool} {x z : α} : ∀ {l : List α}, z ∈ insB lt x l ↔ z = x ∨ z ∈ l
  | [] => by simp [insB]
  | y :: r => by
    unfold insB
    split
    · rw [List.mem_cons, insB_mem, List.mem_cons]
      constructor
      · rintro (h | h | h)
        · exact .inr (.inl h)
        · exact .inl h
        · exact .inr (.inr h)
      · rintro (h | h | h)
        · exact .inr (.inl h)
        · exact .inl h
        · exact .inr (.inr h)
    · rw [List.mem_cons]
theorem sortB_mem {lt : α → α → Bool} {z : α} : ∀ {l : List α}, z ∈ sortB lt l ↔ z ∈ l
  | [] => Iff.rfl
  | x :: r => by
    show z ∈ insB lt x (sortB lt r) ↔ _
    rw [insB_mem, sortB_mem, List.mem_cons]
theorem insB_map (lt : α → α → Bool) (lt' : β → β → Bool) (f : α → β) (x : α) : ∀ l : List α, (∀ y ∈ l, lt' (f y) (f x) = lt y x) → insB lt' (f x) (l.map f) = (insB lt x l).map f
  | [], _ => rfl
  | y :: r, h => by
    rw [List.map_cons, insB, insB, h y (by simp)]
    split
    · rw [List.map_cons, insB_map lt lt' f x r fun z hz => h z (by simp [hz])]
    · rfl
theorem sortB_map (lt : α → α → Bool) (lt' : β → β → Bool) (f : α → β) : ∀ l : List α, l.Pairwise (fun x y => lt' (f y) (f x) = lt y x) → sortB lt' (l.map f) = (sortB lt l).map f
  | [], _ => rfl
  | x :: r, h => by
    rw [List.pairwise_cons] at h
    show insB lt' (f x) (sortB lt' (r.map f)) = (insB lt x (sortB lt r)).map f
    rw [sortB_map lt lt' f r h.2]
    exact insB_map lt lt' f x _ fun y hy => h.1 y (sortB_mem.mp hy)
theorem sortD_is : ∀ l : List D, sortD l = sortB ltD l
  | [] => rfl
  | x :: r => by
    have e : ∀ l : List D, sortD.insDb x l = insB ltD x l := by
      intro l
      induction l with
      | nil => rfl
      | cons y r ih =>
        unfold sortD.insDb insB
        rw [ih]
    show sortD.insDb x (sortD r) = insB ltD x (sortB ltD r)
    rw [sortD_is r, e]
theorem sortD_map (lt : α → α → Bool) (f : α → D) (l : List α) (h : l.Pairwise fun x y => ltD (f y) (f x) = lt y x) : sortD (l.map f) = (sortB lt l).map f := by
  rw [sortD_is]
  exact sortB_map lt ltD f l h
theorem sortD_str (l : List T) : sortD (l.map .str) = (sortT l).map .str := sortD_map ltT .str l (List.pairwise_of_forall fun _ _ => rfl)
end

/-! ### what keys have -/
inductive Val where
  | txt (t : T) | row (ts : List T) | set (m : List (T × Unit)) | tab (m : List (T × T)) | rnk (m : List (T × Int))
def Val.kd : Val → T
  | .txt _ => textK
  | .row _ => rowK
  | .set _ => setK
  | .tab _ => tabK
  | .rnk _ => rankK
abbrev uD : Unit → D := fun _ => .bl true
/-- the program's value -/
def Val.pd : Val → D
  | .txt t => .str t
  | .row ts => .lst (ts.map .str)
  | .set m => .dct (cD uD m)
  | .tab m => .dct (cD .str m)
  | .rnk m => .dct (cD .int m)
/-- the law's value: sets by rising lists -/
def Val.ld : Val → D
  | .set m => .lst ((sortT (m.map (·.1))).map .str)
  | v => v.pd
/-- a row, set, table, rank without anything -/
def Val.emp : Val → Bool
  | .txt _ => false
  | .row ts => ts.isEmpty
  | .set m => m.isEmpty
  | .tab m => m.isEmpty
  | .rnk m => m.isEmpty
def vP (v : Val) : D := .tup [.str v.kd, v.pd]
def vL (v : Val) : D := .tup [.str v.kd, v.ld]
structure KV where
  held : List (T × Val)
  ends : List (T × Int)
  now : Int
/-- when keys changed -/
structure Stp where
  m : List (T × Int)
  n : Int
def Stp.t (p : Stp) (k : T) : Stp := ⟨tput k (p.n + 1) p.m, p.n + 1⟩
def Stp.ts (p : Stp) (ks : List T) : Stp := ks.foldl Stp.t p
@[simp] theorem ts_nil (p : Stp) : p.ts [] = p := rfl
@[simp] theorem ts_cons (p : Stp) (k : T) (ks : List T) : p.ts (k :: ks) = (p.t k).ts ks := rfl
theorem ts_append (p : Stp) (a b : List T) : p.ts (a ++ b) = (p.ts a).ts b := List.foldl_append
theorem t_len (p : Stp) (k : T) : (p.t k).m.length ≤ p.m.length + 1 := tput_len_le _ _ _
theorem ts_len : ∀ (ks : List T) (p : Stp), (p.ts ks).m.length ≤ p.m.length + ks.length
  | [], _ => Nat.le_refl _
  | k :: r, p => by
    have h1 := ts_len r (p.t k)
    have h2 := t_len p k
    rw [ts_cons, List.length_cons]
    omega
def cell (s : KV) (p : Stp) : Cell := .ins "Store" [("held", .own (.dct (cD vP s.held))), ("ends", .own (.dct (cD .int s.ends))), ("stamps", .own (.dct (cD .int p.m))), ("now", .val (.int s.now)), ("stamp", .val (.int p.n))]

namespace KV
def has (s : KV) (k : T) : Bool := (tfind k s.held).isSome
def drop (s : KV) (k : T) : KV := { s with held := tdel k s.held, ends := tdel k s.ends }
def noEnd (s : KV) (k : T) : KV := { s with ends := tdel k s.ends }
def setV (s : KV) (k : T) (v : Val) : KV := { s with held := tput k v s.held }
/-- an empty one is nothing -/
def keepV (s : KV) (k : T) (v : Val) : KV := if v.emp then s.drop k else s.setV k v
def dropT (s : KV) (k : T) : List T := if s.has k then [k] else []
def keepT (s : KV) (k : T) (v : Val) : List T := if v.emp then s.dropT k else [k]
end KV
/-- what a deed does: the keys behind it, which were touched, the answer -/
structure Res where
  s : KV
  ts : List T
  a : D
structure Val.Ok (v : Val) : Prop where
  ne : v.emp = false
  tx : ∀ t, v = .txt t → t.length ≤ 300
  rw : ∀ ts, v = .row ts → ts.length ≤ 200
  st : ∀ m, v = .set m → m.length ≤ 200 ∧ (m.map (·.1)).Nodup
  tb : ∀ m, v = .tab m → m.length ≤ 100 ∧ (m.map (·.1)).Nodup
  rk : ∀ m, v = .rnk m → m.length ≤ 100 ∧ (m.map (·.1)).Nodup
structure KV.Ok (s : KV) (n : Nat) : Prop where
  he : s.held.length ≤ n
  en : s.ends.length ≤ n
  vs : ∀ q ∈ s.held, q.2.Ok
  nd : (s.held.map (·.1)).Nodup
section
variable {k : T} {l : List (T × Val)}
@[simp] theorem kput_pt (t : T) : kput (.inr k) (.tup [.str textK, .str t]) (cD vP l) = cD vP (tput k (.txt t) l) := kput_cD vP k (.txt t) l
@[simp] theorem kput_pr (ts : List T) : kput (.inr k) (.tup [.str rowK, .lst (ts.map .str)]) (cD vP l) = cD vP (tput k (.row ts) l) := kput_cD vP k (.row ts) l
@[simp] theorem kput_ps (m : List (T × Unit)) : kput (.inr k) (.tup [.str setK, .dct (cD uD m)]) (cD vP l) = cD vP (tput k (.set m) l) := kput_cD vP k (.set m) l
@[simp] theorem kput_pb (m : List (T × T)) : kput (.inr k) (.tup [.str tabK, .dct (cD .str m)]) (cD vP l) = cD vP (tput k (.tab m) l) := kput_cD vP k (.tab m) l
@[simp] theorem kput_pk (m : List (T × Int)) : kput (.inr k) (.tup [.str rankK, .dct (cD .int m)]) (cD vP l) = cD vP (tput k (.rnk m) l) := kput_cD vP k (.rnk m) l
@[simp] theorem kput_lt (t : T) : kput (.inr k) (.tup [.str textK, .str t]) (cD vL l) = cD vL (tput k (.txt t) l) := kput_cD vL k (.txt t) l
@[simp] theorem kput_lr (ts : List T) : kput (.inr k) (.tup [.str rowK, .lst (ts.map .str)]) (cD vL l) = cD vL (tput k (.row ts) l) := kput_cD vL k (.row ts) l
@[simp] theorem kput_ls (m : List (T × Unit)) : kput (.inr k) (.tup [.str setK, .lst ((sortT (m.map (·.1))).map .str)]) (cD vL l) = cD vL (tput k (.set m) l) := kput_cD vL k (.set m) l
@[simp] theorem kput_lb (m : List (T × T)) : kput (.inr k) (.tup [.str tabK, .dct (cD .str m)]) (cD vL l) = cD vL (tput k (.tab m) l) := kput_cD vL k (.tab m) l
@[simp] theorem kput_lk (m : List (T × Int)) : kput (.inr k) (.tup [.str rankK, .dct (cD .int m)]) (cD vL l) = cD vL (tput k (.rnk m) l) := kput_cD vL k (.rnk m) l
@[simp] theorem kput_vP (v : Val) : kput (.inr k) (.tup [.str v.kd, v.pd]) (cD vP l) = cD vP (tput k v l) := kput_cD vP k v l
@[simp] theorem kput_vL (v : Val) : kput (.inr k) (.tup [.str v.kd, v.ld]) (cD vL l) = cD vL (tput k v l) := kput_cD vL k v l
@[simp] theorem kput_i (n : Int) (l : List (T × Int)) : kput (.inr k) (.int n) (cD D.int l) = cD .int (tput k n l) := kput_cD .int k n l
@[simp] theorem kput_s (n : T) (l : List (T × T)) : kput (.inr k) (.str n) (cD D.str l) = cD .str (tput k n l) := kput_cD .str k n l
@[simp] theorem kput_u (l : List (T × Unit)) : kput (.inr k) (.bl true) (cD uD l) = cD uD (tput k () l) := kput_cD uD k () l
end
end KW.Pl
/-! KwG2: the store's methods. -/
namespace KW.Pl
theorem set_id {h : List Cell} {i : Nat} {c : Cell} (hi : h[i]? = some c) : h.set i c = h := by
  apply List.ext_getElem?
  intro j
  by_cases z : i = j
  · subst z
    rw [get_set, hi]; rfl
  · rw [List.getElem?_set_ne z]
section
variable {d : Nat} {h : List Cell} {i : Nat} {s : KV} {p : Stp} {k t : T}
theorem c_changed (hi : h[i]? = some (cell s p)) (hz : p.m.length < sizeLine) :
    callF prog (d + 1) "Store.changed" [.ref i, .str k] h = .ok (.val .non) ⟨[], h.set i (cell s (p.t k))⟩ := by
  rw [callF_is (fn := f_Store_changed) rfl rfl]
  simp [f_Store_changed, hi, cell, Stp.t, hz, run1, run2, run3, recv2, recv3, recv3b, recvM, runIdx, seqOf, lstOf, dctOf, oIdxL, oIdxD, entOf, atI, ixN, part, runCut, bindT, runCmp, runIn, flat, deq, datOf, inD, inT, oLen, cmpInt, cmpI, oAdd, oSub, newLst, frzIt, getPl, putPl, muOf, isK, runMu, muD, runISet, oGet, oGetD, List.lookup, fput, kcls]
theorem c_drop (hi : h[i]? = some (cell s p)) (hz : p.m.length < sizeLine) :
    callF prog (d + 2) "Store.drop" [.ref i, .str k] h = .ok (.val (.bl (s.has k))) ⟨[], h.set i (cell (s.drop k) (p.ts (s.dropT k)))⟩ := by
  rw [callF_is (fn := f_Store_drop) rfl rfl]
  unfold KV.dropT KV.has KV.drop
  have ch := c_changed (d := d) (h := h.set i (cell { s with ends := tdel k s.ends, held := tdel k s.held } p)) (i := i) (s := { s with ends := tdel k s.ends, held := tdel k s.held }) (p := p) (k := k) (by simp [hi]) hz
  simp [cell] at ch
  cases e2 : tfind k s.held with
  | none =>
    cases e1 : tfind k s.ends <;>
      simp [f_Store_drop, hi, cell, e1, e2, tdel_none e2, tdel_none, run1, run2, run3, recv2, recv3, recv3b, recvM, runIdx, seqOf, lstOf, dctOf, oIdxL, oIdxD, entOf, atI, ixN, part, runCut, bindT, runCmp, runIn, flat, deq, datOf, inD, inT, oLen, cmpInt, cmpI, oAdd, oSub, newLst, frzIt, getPl, putPl, muOf, isK, runMu, muD, runISet, oGet, oGetD, List.lookup, fput, kcls, -unSV]
  | some v =>
    cases e1 : tfind k s.ends with
    | none =>
      rw [tdel_none e1] at ch
      simp [f_Store_drop, hi, cell, e1, e2, tdel_none e1, ch, vP, run1, run2, run3, recv2, recv3, recv3b, recvM, runIdx, seqOf, lstOf, dctOf, oIdxL, oIdxD, entOf, atI, ixN, part, runCut, bindT, runCmp, runIn, flat, deq, datOf, inD, inT, oLen, cmpInt, cmpI, oAdd, oSub, newLst, frzIt, getPl, putPl, muOf, isK, runMu, muD, runISet, oGet, oGetD, List.lookup, fput, kcls, -unSV]
    | some w =>
      simp [f_Store_drop, hi, cell, e1, e2, ch, vP, run1, run2, run3, recv2, recv3, recv3b, recvM, runIdx, seqOf, lstOf, dctOf, oIdxL, oIdxD, entOf, atI, ixN, part, runCut, bindT, runCmp, runIn, flat, deq, datOf, inD, inT, oLen, cmpInt, cmpI, oAdd, oSub, newLst, frzIt, getPl, putPl, muOf, isK, runMu, muD, runISet, oGet, oGetD, List.lookup, fput, kcls, -unSV]
def KV.kindOf (s : KV) (k : T) : T := match tfind k s.held with
  | some v => v.kd
  | none => noneK
theorem c_kind (hi : h[i]? = some (cell s p)) :
    callF prog (d + 1) "Store.kind" [.ref i, .str k] h = .ok (.val (.str (s.kindOf k))) ⟨[], h⟩ := by
  rw [callF_is (fn := f_Store_kind) rfl rfl]
  unfold KV.kindOf
  cases e2 : tfind k s.held with
  | none => simp [f_Store_kind, hi, cell, e2, run1, run2, run3, recv2, recv3, recv3b, recvM, runIdx, seqOf, lstOf, dctOf, oIdxL, oIdxD, entOf, atI, ixN, part, runCut, bindT, runCmp, runIn, flat, deq, datOf, inD, inT, oLen, cmpInt, cmpI, oAdd, oSub, newLst, frzIt, getPl, putPl, muOf, isK, runMu, muD, runISet, oGet, oGetD, List.lookup, fput, kcls]
  | some v => simp [f_Store_kind, hi, cell, e2, vP, run1, run2, run3, recv2, recv3, recv3b, recvM, runIdx, seqOf, lstOf, dctOf, oIdxL, oIdxD, entOf, atI, ixN, part, runCut, bindT, runCmp, runIn, flat, deq, datOf, inD, inT, oLen, cmpInt, cmpI, oAdd, oSub, newLst, frzIt, getPl, putPl, muOf, isK, runMu, muD, runISet, oGet, oGetD, List.lookup, fput, kcls]
theorem c_value {kd : T} {z : D} (hi : h[i]? = some (cell s p)) :
    callF prog (d + 1) "Store.value" [.ref i, .str k, .str kd, z] h = .ok (.val (match tfind k s.held with
      | some v => if v.kd = kd then v.pd else .non
      | none => z)) ⟨[], h⟩ := by
  rw [callF_is (fn := f_Store_value) rfl rfl]
  cases e2 : tfind k s.held with
  | none => simp [f_Store_value, hi, cell, e2, run1, run2, run3, recv2, recv3, recv3b, recvM, runIdx, seqOf, lstOf, dctOf, oIdxL, oIdxD, entOf, atI, ixN, part, runCut, bindT, runCmp, runIn, flat, deq, datOf, inD, inT, oLen, cmpInt, cmpI, oAdd, oSub, newLst, frzIt, getPl, putPl, muOf, isK, runMu, muD, runISet, oGet, oGetD, List.lookup, fput, kcls]
  | some v =>
    by_cases ex : v.kd = kd <;> simp [f_Store_value, hi, cell, e2, vP, ex, run1, run2, run3, recv2, recv3, recv3b, recvM, runIdx, seqOf, lstOf, dctOf, oIdxL, oIdxD, entOf, atI, ixN, part, runCut, bindT, runCmp, runIn, flat, deq, datOf, inD, inT, oLen, cmpInt, cmpI, oAdd, oSub, newLst, frzIt, getPl, putPl, muOf, isK, runMu, muD, runISet, oGet, oGetD, List.lookup, fput, kcls]
def Val.len : Val → Nat
  | .txt t => t.length
  | .row ts => ts.length
  | .set m => m.length
  | .tab m => m.length
  | .rnk m => m.length
theorem emp_of {v : Val} (h : ∀ t, v ≠ .txt t) : v.emp = decide (v.len = 0) := by
  cases v with
  | txt t => exact absurd rfl (h t)
  | row l => cases l <;> rfl
  | set l => cases l <;> rfl
  | tab l => cases l <;> rfl
  | rnk l => cases l <;> rfl
theorem c_keep {v : Val} (hi : h[i]? = some (cell s p)) (hz : p.m.length < sizeLine) (hz2 : s.held.length < sizeLine) :
    callF prog (d + 3) "Store.keep" [.ref i, .str k, .str v.kd, v.pd] h = .ok (.val .non) ⟨[], h.set i (cell (s.keepV k v) (p.ts (s.keepT k v)))⟩ := by
  rw [callF_is (fn := f_Store_keep) rfl rfl]
  unfold KV.keepV KV.keepT KV.setV
  have ch := c_changed (d := d + 1) (h := h.set i (cell { s with held := tput k v s.held } p)) (i := i) (s := { s with held := tput k v s.held }) (p := p) (k := k) (by simp [hi]) hz
  have dr := c_drop (d := d) (k := k) hi hz
  simp [cell] at ch
  cases v with
  | txt t => simp [f_Store_keep, hi, cell, Val.kd, Val.pd, Val.emp, hz2, ch, run1, run2, run3, recv2, recv3, recv3b, recvM, runIdx, seqOf, lstOf, dctOf, oIdxL, oIdxD, entOf, atI, ixN, part, runCut, bindT, runCmp, runIn, flat, deq, datOf, inD, inT, oLen, cmpInt, cmpI, oAdd, oSub, newLst, frzIt, getPl, putPl, muOf, isK, runMu, muD, runISet, oGet, oGetD, List.lookup, fput, kcls]
  | row l =>
    cases l with
    | nil =>
      simp [cell] at hi dr
      simp [f_Store_keep, hi, cell, Val.kd, Val.pd, Val.emp, dr, run1, run2, run3, recv2, recv3, recv3b, recvM, runIdx, seqOf, lstOf, dctOf, oIdxL, oIdxD, entOf, atI, ixN, part, runCut, bindT, runCmp, runIn, flat, deq, datOf, inD, inT, oLen, cmpInt, cmpI, oAdd, oSub, newLst, frzIt, getPl, putPl, muOf, isK, runMu, muD, runISet, oGet, oGetD, List.lookup, fput, kcls]
    | cons x r =>
      have g : ¬ ((r.length : Int) + 1 = 0) := by omega
      have kp := kput_pr (k := k) (l := s.held) (x :: r)
      rw [List.map_cons] at kp
      simp [f_Store_keep, hi, cell, Val.kd, Val.pd, Val.emp, hz2, ch, g, kp, run1, run2, run3, recv2, recv3, recv3b, recvM, runIdx, seqOf, lstOf, dctOf, oIdxL, oIdxD, entOf, atI, ixN, part, runCut, bindT, runCmp, runIn, flat, deq, datOf, inD, inT, oLen, cmpInt, cmpI, oAdd, oSub, newLst, frzIt, getPl, putPl, muOf, isK, runMu, muD, runISet, oGet, oGetD, List.lookup, fput, kcls]
  | set l =>
    cases l with
    | nil =>
      simp [cell] at hi dr
      simp [f_Store_keep, hi, cell, Val.kd, Val.pd, Val.emp, dr, run1, run2, run3, recv2, recv3, recv3b, recvM, runIdx, seqOf, lstOf, dctOf, oIdxL, oIdxD, entOf, atI, ixN, part, runCut, bindT, runCmp, runIn, flat, deq, datOf, inD, inT, oLen, cmpInt, cmpI, oAdd, oSub, newLst, frzIt, getPl, putPl, muOf, isK, runMu, muD, runISet, oGet, oGetD, List.lookup, fput, kcls]
    | cons x r =>
      have g : ¬ ((r.length : Int) + 1 = 0) := by omega
      have kp := kput_ps (k := k) (l := s.held) (x :: r)
      rw [cD_cons] at kp
      simp [f_Store_keep, hi, cell, Val.kd, Val.pd, Val.emp, hz2, ch, g, kp, run1, run2, run3, recv2, recv3, recv3b, recvM, runIdx, seqOf, lstOf, dctOf, oIdxL, oIdxD, entOf, atI, ixN, part, runCut, bindT, runCmp, runIn, flat, deq, datOf, inD, inT, oLen, cmpInt, cmpI, oAdd, oSub, newLst, frzIt, getPl, putPl, muOf, isK, runMu, muD, runISet, oGet, oGetD, List.lookup, fput, kcls]
  | tab l =>
    cases l with
    | nil =>
      simp [cell] at hi dr
      simp [f_Store_keep, hi, cell, Val.kd, Val.pd, Val.emp, dr, run1, run2, run3, recv2, recv3, recv3b, recvM, runIdx, seqOf, lstOf, dctOf, oIdxL, oIdxD, entOf, atI, ixN, part, runCut, bindT, runCmp, runIn, flat, deq, datOf, inD, inT, oLen, cmpInt, cmpI, oAdd, oSub, newLst, frzIt, getPl, putPl, muOf, isK, runMu, muD, runISet, oGet, oGetD, List.lookup, fput, kcls]
    | cons x r =>
      have g : ¬ ((r.length : Int) + 1 = 0) := by omega
      have kp := kput_pb (k := k) (l := s.held) (x :: r)
      rw [cD_cons] at kp
      simp [f_Store_keep, hi, cell, Val.kd, Val.pd, Val.emp, hz2, ch, g, kp, run1, run2, run3, recv2, recv3, recv3b, recvM, runIdx, seqOf, lstOf, dctOf, oIdxL, oIdxD, entOf, atI, ixN, part, runCut, bindT, runCmp, runIn, flat, deq, datOf, inD, inT, oLen, cmpInt, cmpI, oAdd, oSub, newLst, frzIt, getPl, putPl, muOf, isK, runMu, muD, runISet, oGet, oGetD, List.lookup, fput, kcls]
  | rnk l =>
    cases l with
    | nil =>
      simp [cell] at hi dr
      simp [f_Store_keep, hi, cell, Val.kd, Val.pd, Val.emp, dr, run1, run2, run3, recv2, recv3, recv3b, recvM, runIdx, seqOf, lstOf, dctOf, oIdxL, oIdxD, entOf, atI, ixN, part, runCut, bindT, runCmp, runIn, flat, deq, datOf, inD, inT, oLen, cmpInt, cmpI, oAdd, oSub, newLst, frzIt, getPl, putPl, muOf, isK, runMu, muD, runISet, oGet, oGetD, List.lookup, fput, kcls]
    | cons x r =>
      have g : ¬ ((r.length : Int) + 1 = 0) := by omega
      have kp := kput_pk (k := k) (l := s.held) (x :: r)
      rw [cD_cons] at kp
      simp [f_Store_keep, hi, cell, Val.kd, Val.pd, Val.emp, hz2, ch, g, kp, run1, run2, run3, recv2, recv3, recv3b, recvM, runIdx, seqOf, lstOf, dctOf, oIdxL, oIdxD, entOf, atI, ixN, part, runCut, bindT, runCmp, runIn, flat, deq, datOf, inD, inT, oLen, cmpInt, cmpI, oAdd, oSub, newLst, frzIt, getPl, putPl, muOf, isK, runMu, muD, runISet, oGet, oGetD, List.lookup, fput, kcls]
def numD : Option Int → D
  | some n => .int n
  | none => .non
theorem c_as_number {b : Bool} : callF prog (d + 1) "as_number" [.bl b] h = .ok (.val (numB b)) ⟨[], h⟩ := by
  rw [callF_is (fn := f_as_number) rfl rfl]
  cases b <;> simp [f_as_number]
theorem c_told {t : T} : callF prog (d + 1) "told_text" [.str t] h = .ok (.val (dText t)) ⟨[], h⟩ := by
  rw [callF_is (fn := f_told_text) rfl rfl]
  simp [f_told_text, run1]
theorem c_told0 : callF prog (d + 1) "told_text" [.non] h = .ok (.val dNone) ⟨[], h⟩ := by
  rw [callF_is (fn := f_told_text) rfl rfl]
  simp [f_told_text, run1]
theorem c_small {n : Int} : callF prog (d + 1) "is_small" [.int n] h = .ok (.val (.bl (decide (n.natAbs ≤ 999999999999999)))) ⟨[], h⟩ := by
  rw [callF_is (fn := f_is_small) rfl rfl]
  simp [f_is_small, run1, oAbs, run2, runCmp, cmpInt, cmpI, recv2]
  split <;> omega
theorem c_put (hi : h[i]? = some (cell s p)) (hz : p.m.length < sizeLine) (hz2 : s.held.length < sizeLine) :
    callF prog (d + 4) "put" [.ref i, .str k, .str t] h = .ok (.val dDone) ⟨[], h.set i (cell ((s.noEnd k).setV k (.txt t)) (p.t k))⟩ := by
  rw [callF_is (fn := f_put) rfl rfl]
  have kp := c_keep (d := d) (h := h.set i (cell (s.noEnd k) p)) (i := i) (s := s.noEnd k) (p := p) (k := k) (v := .txt t) (by simp [hi]) hz hz2
  simp [cell, Val.kd, Val.pd, KV.keepV, KV.keepT, Val.emp, KV.noEnd, KV.setV] at kp
  cases e1 : tfind k s.ends with
  | none =>
    simp [tdel_none e1] at kp
    simp [f_put, hi, cell, e1, KV.noEnd, KV.setV, kp, tdel_none e1, run1, run2, run3, recv2, recv3, recv3b, recvM, runIdx, seqOf, lstOf, dctOf, oIdxL, oIdxD, entOf, atI, ixN, part, runCut, bindT, runCmp, runIn, flat, deq, datOf, inD, inT, oLen, cmpInt, cmpI, oAdd, oSub, newLst, frzIt, getPl, putPl, muOf, isK, runMu, muD, runISet, oGet, oGetD, List.lookup, fput, kcls, -unSV]
  | some w =>
    simp [f_put, hi, cell, e1, KV.noEnd, KV.setV, kp, run1, run2, run3, recv2, recv3, recv3b, recvM, runIdx, seqOf, lstOf, dctOf, oIdxL, oIdxD, entOf, atI, ixN, part, runCut, bindT, runCmp, runIn, flat, deq, datOf, inD, inT, oLen, cmpInt, cmpI, oAdd, oSub, newLst, frzIt, getPl, putPl, muOf, isK, runMu, muD, runISet, oGet, oGetD, List.lookup, fput, kcls, -unSV]
end
end KW.Pl
/-! KwG3: comprehensions, numbers. -/
namespace KW.Pl
section
variable {C : CallF} {σ : List (Option SV)} {h : List Cell} {i : Nat} {b : D → Bool} {f : D → D}
/-- a comprehension over one name -/
theorem comp_go {fc : S → R Bool} {fe : S → R D} : ∀ {ds : List D} {σ' : List (Option SV)} {acc : List D}, (∀ x, σ'.set i x = σ.set i x) →
    (∀ d ∈ ds, fc ⟨σ.set i (some (.val d)), h⟩ = .ok (b d) ⟨σ.set i (some (.val d)), h⟩) → (∀ d ∈ ds, b d = true → fe ⟨σ.set i (some (.val d)), h⟩ = .ok (f d) ⟨σ.set i (some (.val d)), h⟩) →
    ∃ σ'', (∀ x, σ''.set i x = σ.set i x) ∧ compLoop [i] fc fe ds ⟨σ', h⟩ acc = .ok (acc.reverse ++ (ds.filter b).map f) ⟨σ'', h⟩
  | [], σ', acc, hs, _, _ => ⟨σ', hs, by simp [compLoop]⟩
  | d :: r, σ', acc, hs, h1, h2 => by
    have e1 := h1 d (by simp)
    have ih := fun acc => comp_go (ds := r) (σ' := σ.set i (some (.val d))) (acc := acc) (fun x => by rw [List.set_set]) (fun d hd => h1 d (by simp [hd])) fun d hd => h2 d (by simp [hd])
    cases z : b d with
    | false =>
      obtain ⟨σ2, k1, k2⟩ := ih acc
      refine ⟨σ2, k1, ?_⟩
      rw [compLoop]
      simp only [bindT, hs]
      rw [e1, bind_ok, z, if_neg Bool.false_ne_true, k2, List.filter_cons, if_neg (by rw [z]; exact Bool.false_ne_true)]
    | true =>
      obtain ⟨σ2, k1, k2⟩ := ih (f d :: acc)
      refine ⟨σ2, k1, ?_⟩
      rw [compLoop]
      simp only [bindT, hs]
      rw [e1, bind_ok, z, if_pos rfl, h2 d (by simp) z, bind_ok, k2, List.filter_cons, if_pos z]
      simp
theorem comp_is {cs : List E} {e : E} {ds : List D} {mu : Bool} (hm : mu = true → (pures cs && pure e) = true) (h0 : σ[i]? = some none)
    (h1 : ∀ d ∈ ds, evalCs C cs ⟨σ.set i (some (.val d)), h⟩ = .ok (b d) ⟨σ.set i (some (.val d)), h⟩) (h2 : ∀ d ∈ ds, b d = true → exports (evalE C e ⟨σ.set i (some (.val d)), h⟩) = .ok (f d) ⟨σ.set i (some (.val d)), h⟩) :
    kComp C [i] cs e (.ok (ds, mu) ⟨σ, h⟩) = opt ⟨σ, h⟩ (newLst ((ds.filter b).map f)) := by
  rw [kComp_ok]
  have hg : ((ds, mu).2 && !(pures cs && pure e)) = false := by
    cases mu with
    | false => rfl
    | true => simp [hm rfl]
  simp only [hg, if_neg Bool.false_ne_true]
  obtain ⟨σ2, k1, k2⟩ := comp_go (fc := runC C cs) (fe := runX C e) (σ := σ) (h := h) (i := i) (b := b) (f := f) (σ' := σ) (acc := []) (fun _ => rfl) h1 h2
  rw [k2, kCalm_ok, kComp2_ok]
  have e3 : backT σ [i] ⟨σ2, h⟩ = ⟨σ, h⟩ := by
    unfold backT oldVal
    simp only [List.foldl, h0]
    rw [k1]
    congr 1
    exact List.ext_getElem? fun j => by
      by_cases z : i = j
      · subst z
        rw [h0]
        have : i < σ.length := (List.getElem?_eq_some_iff.mp h0).1
        rw [List.getElem?_set_self this]
      · rw [List.getElem?_set_ne z]
  rw [e3]
  simp
end
/-- the number that a text is -/
def figs (t : T) : T := if t.head? = some 45 then t.drop 1 else t
def numIn (t : T) : Option Int := if 1 ≤ (figs t).length ∧ (figs t).length ≤ 15 ∧ (figs t).all (fun c => decide (48 ≤ c) && decide (c ≤ 57)) = true then (match atoi t with
  | some n => if itoa n = t then some n else none
  | none => none) else none
theorem atoN_lt : ∀ (t : T) (a : Nat), t.all (fun c => decide (48 ≤ c) && decide (c ≤ 57)) = true → atoN a t < (a + 1) * 10 ^ t.length
  | [], a, _ => by
    show a < (a + 1) * 10 ^ 0
    rw [Nat.pow_zero, Nat.mul_one]
    exact Nat.lt_succ_self a
  | c :: r, a, h => by
    simp only [List.all_cons, Bool.and_eq_true, decide_eq_true_eq] at h
    have ih := atoN_lt r (10 * a + (c - 48)) h.2
    unfold atoN
    refine Nat.lt_of_lt_of_le ih ?_
    rw [List.length_cons, Nat.pow_succ]
    have : (10 * a + (c - 48) + 1) ≤ (a + 1) * 10 := by omega
    calc (10 * a + (c - 48) + 1) * 10 ^ r.length ≤ ((a + 1) * 10) * 10 ^ r.length := Nat.mul_le_mul_right _ this
      _ = (a + 1) * (10 ^ r.length * 10) := by rw [Nat.mul_assoc, Nat.mul_comm 10]
/-- figures in their number make a number that is small -/
theorem atoi_fig {t : T} (h1 : 1 ≤ (figs t).length) (h2 : (figs t).length ≤ 15) (h3 : (figs t).all (fun c => decide (48 ≤ c) && decide (c ≤ 57)) = true) : ∃ n : Int, atoi t = some n ∧ n.natAbs < 10 ^ 15 := by
  have hd : (figs t).all isDig = true := h3
  have hb := atoN_lt (figs t) 0 h3
  have hb2 : atoN 0 (figs t) < 10 ^ 15 := Nat.lt_of_lt_of_le hb (by rw [Nat.zero_add, Nat.one_mul]; exact Nat.pow_le_pow_right (by omega) h2)
  have he : (figs t).isEmpty = false := by
    cases q : figs t with
    | nil => rw [q] at h1; simp at h1
    | cons _ _ => rfl
  unfold figs at *
  cases t with
  | nil => simp at h1
  | cons c r =>
    by_cases z : c = 45
    · subst z
      simp at hd he hb2 h2 ⊢
      refine ⟨-(atoN 0 r : Int), ?_, by omega⟩
      unfold atoi
      simp [he, hd, show ¬ 640 < r.length + 1 by omega]
      intro x hx; exact hd x hx
    · simp [z] at hd he hb2 h2 ⊢
      refine ⟨(atoN 0 (c :: r) : Int), ?_, by omega⟩
      unfold atoi
      split
      · rename_i e; cases e; exact absurd rfl z
      · simp [hd, show ¬ 640 < r.length + 1 by omega]
        intro x hx; exact hd.2 x hx

theorem strs_len (t : T) : (t.map fun c => D.str [c]).length = t.length := List.length_map _
theorem bools_map {α : Type} (g : α → Bool) : ∀ l : List α, boolsOf (l.map fun x => .bl (g x)) = some (l.map g)
  | [] => rfl
  | x :: r => by
    show ((boolsOf (r.map fun x => .bl (g x))).map (g x :: ·)) = _
    rw [bools_map g r]; rfl
def isF (c : Nat) : Bool := decide (48 ≤ c) && decide (c ≤ 57)
theorem isF_is (c : Nat) : decide (c ∈ [48, 49, 50, 51, 52, 53, 54, 55, 56, 57]) = isF c := by
  unfold isF
  rw [← Bool.decide_and, decide_eq_decide]
  simp only [List.mem_cons, List.not_mem_nil, or_false]
  omega
theorem filter_true {α : Type} : ∀ l : List α, l.filter (fun _ => true) = l
  | [] => rfl
  | x :: r => by rw [List.filter_cons, if_pos rfl, filter_true r]
theorem head_is (t : T) : (t.head? == some 45) = decide (t.head? = some 45) := by
  cases t with
  | nil => rfl
  | cons c r =>
    by_cases e : c = 45
    · simp [e]
    · simp [e]
theorem cut1 (t : T) : cut t (some 1) none = t.drop 1 := by
  cases t with
  | nil => rfl
  | cons c r =>
    unfold cut sIx
    simp
    try rw [show min 1 (r.length + 1) = 1 from by omega]
    try simp
theorem cut01 (t : T) : cut t none (some 1) = t.take 1 := by
  cases t with
  | nil => rfl
  | cons c r =>
    unfold cut sIx
    simp
theorem log2_small {n : Nat} (h : n < 10 ^ 15) : n.log2 < 1920 := by
  rcases Nat.eq_zero_or_pos n with rfl | p
  · simp
  · have := (Nat.log2_lt (by omega) (k := 50)).mpr (Nat.lt_of_lt_of_le h (by decide))
    omega
theorem num_tail {t : T} (hh : (figs t).all isF = true) (h1 : 1 ≤ (figs t).length) (h2 : (figs t).length ≤ 15) : ∃ n : Int, atoi t = some n ∧ n.natAbs.log2 < 1920 ∧ numIn t = if itoa n = t then some n else none := by
  obtain ⟨n, e, q⟩ := atoi_fig h1 h2 hh
  refine ⟨n, e, log2_small q, ?_⟩
  unfold numIn
  rw [if_pos ⟨h1, h2, hh⟩, e]
theorem num_none {t : T} (hh : ¬ (1 ≤ (figs t).length ∧ (figs t).length ≤ 15 ∧ (figs t).all isF = true)) : numIn t = none := by
  unfold numIn
  exact if_neg hh
theorem c_number_in {d : Nat} {h : List Cell} {t : T} : callF prog (d + 1) "number_in" [.str t] h = .ok (.val (numD (numIn t))) ⟨[], h⟩ := by
  rw [callF_is (fn := f_number_in) rfl rfl]
  have hc := comp_is (C := callF prog d) (cs := []) (e := .p2 (.cmp .isIn) (.var 2) (.glb "FIGURES" (.str [48, 49, 50, 51, 52, 53, 54, 55, 56, 57]))) (σ := [some (.val (.str t)), some (.val (.str (figs t))), none]) (h := h) (i := 2) (b := fun _ => true)
    (f := fun d => match d with
      | .str [c] => .bl (isF c)
      | _ => .non) (ds := (figs t).map fun c => .str [c]) (mu := false) (fun z => by cases z) rfl (fun d hd => by simp) (fun d hd _ => by
      obtain ⟨c, _, rfl⟩ := List.mem_map.mp hd
      simp [recv2, run2, runCmp, runIn, inS, exports, isF_is]
      rw [← isF_is]
      simp)
  simp only [filter_true, List.map_map] at hc
  have e1 : (D.str ∘ fun c => [c] : Nat → D) = fun c => .str [c] := rfl
  have e2 : ((fun d => match d with
      | .str [c] => .bl (isF c)
      | _ => .non : D → D) ∘ fun c => D.str [c]) = fun c => .bl (isF c) := rfl
  rw [e2] at hc
  by_cases g : 1 ≤ (figs t).length ∧ (figs t).length ≤ 15
  · have g2 : okSize ((figs t).map fun c => D.bl (isF c)).length = true := by
      unfold okSize
      simp [sizeLine]
      omega
    have g6 : (1 : Int) ≤ ((figs t).length : Int) := by omega
    have g7 : ((figs t).length : Int) ≤ 15 := by omega
    have g8 : ¬ (15 < ((figs t).length : Int)) := by omega
    rw [newLst, if_pos g2] at hc
    by_cases g3 : (figs t).all isF = true
    · obtain ⟨n, n1, n2, n3⟩ := num_tail g3 g.1 g.2
      rw [n3]
      have g4 : (List.map isF (figs t)).all id = true := by
        rw [List.all_map]
        exact g3
      by_cases z : t.head? = some 45
      · have fz : t.drop 1 = figs t := by unfold figs; rw [if_pos z]
        by_cases zz : itoa n = t
        · simp [f_number_in, run2, runCut, cut1, part, recv2, run1, oStart, head_is, z, -List.drop_one, oLen, runCmp, cmpInt, cmpI, hc, bools_map, g6, g7, g8, lstOf, numD, frzIt, getPl, putPl, -List.all_map, -List.all_eq_true, -List.all_eq_false, g4, oInt, oStr, datOf, fz, n1, n2, zz]
        · simp [f_number_in, run2, runCut, cut1, part, recv2, run1, oStart, head_is, z, -List.drop_one, oLen, runCmp, cmpInt, cmpI, hc, bools_map, g6, g7, g8, lstOf, numD, frzIt, getPl, putPl, -List.all_map, -List.all_eq_true, -List.all_eq_false, g4, oInt, oStr, datOf, fz, n1, n2, zz]
      · have fz : figs t = t := by unfold figs; rw [if_neg z]
        rw [fz] at hc g6 g7 g8 g4
        by_cases zz : itoa n = t
        · simp [f_number_in, run2, runCut, cut1, part, recv2, run1, oStart, head_is, z, -List.drop_one, oLen, runCmp, cmpInt, cmpI, hc, bools_map, g6, g7, g8, lstOf, numD, frzIt, getPl, putPl, -List.all_map, -List.all_eq_true, -List.all_eq_false, g4, oInt, oStr, datOf, n1, n2, zz]
        · simp [f_number_in, run2, runCut, cut1, part, recv2, run1, oStart, head_is, z, -List.drop_one, oLen, runCmp, cmpInt, cmpI, hc, bools_map, g6, g7, g8, lstOf, numD, frzIt, getPl, putPl, -List.all_map, -List.all_eq_true, -List.all_eq_false, g4, oInt, oStr, datOf, n1, n2, zz]
    · rw [num_none fun z => g3 z.2.2]
      have g4 : (List.map isF (figs t)).all id = false := by
        rw [List.all_map]
        exact Bool.eq_false_iff.mpr g3
      by_cases z : t.head? = some 45
      · have fz : t.drop 1 = figs t := by unfold figs; rw [if_pos z]
        simp [f_number_in, run2, runCut, cut1, part, recv2, run1, oStart, head_is, z, -List.drop_one, oLen, runCmp, cmpInt, cmpI, hc, bools_map, g6, g7, g8, lstOf, numD, frzIt, getPl, putPl, -List.all_map, -List.all_eq_true, -List.all_eq_false, g4, oInt, oStr, datOf, fz]
      · have fz : figs t = t := by unfold figs; rw [if_neg z]
        rw [fz] at hc g6 g7 g8 g4
        simp [f_number_in, run2, runCut, cut1, part, recv2, run1, oStart, head_is, z, -List.drop_one, oLen, runCmp, cmpInt, cmpI, hc, bools_map, g6, g7, g8, lstOf, numD, frzIt, getPl, putPl, -List.all_map, -List.all_eq_true, -List.all_eq_false, g4, oInt, oStr, datOf]
  · rw [num_none fun z => g ⟨z.1, z.2.1⟩]
    have g5 : ¬ (1 ≤ ((figs t).length : Int) ∧ ((figs t).length : Int) ≤ 15) := by omega
    by_cases z : t.head? = some 45
    · have fz : t.drop 1 = figs t := by unfold figs; rw [if_pos z]
      by_cases g6 : 1 ≤ ((figs t).length : Int)
      · have g7 : ¬ ((figs t).length : Int) ≤ 15 := fun q => g5 ⟨g6, q⟩
        simp [f_number_in, run2, runCut, cut1, part, recv2, run1, oStart, head_is, z, -List.drop_one, fz, oLen, runCmp, cmpInt, cmpI, numD, g6, g7]
      · simp [f_number_in, run2, runCut, cut1, part, recv2, run1, oStart, head_is, z, -List.drop_one, fz, oLen, runCmp, cmpInt, cmpI, numD, g6]
    · have fz : figs t = t := by unfold figs; rw [if_neg z]
      rw [fz] at g5
      by_cases g6 : 1 ≤ (t.length : Int)
      · have g7 : ¬ (t.length : Int) ≤ 15 := fun q => g5 ⟨g6, q⟩
        simp [f_number_in, run2, runCut, cut1, part, recv2, run1, oStart, head_is, z, oLen, runCmp, cmpInt, cmpI, numD, g6, g7]
      · simp [f_number_in, run2, runCut, cut1, part, recv2, run1, oStart, head_is, z, oLen, runCmp, cmpInt, cmpI, numD, g6]
theorem itoa_log {n : Int} (h : n.natAbs ≤ 999999999999999) : n.natAbs.log2 < 1920 := log2_small (by omega)
theorem num0 : numIn [48] = some 0 := by decide
theorem cut1D (x : D) (xs : List D) : cut (x :: xs) (some 1) none = xs := by
  unfold cut sIx
  simp
  try rw [show min 1 (xs.length + 1) = 1 from by omega]
  try simp
theorem comp_no {C : CallF} {cs : List E} {e : E} {σ : List (Option SV)} {h : List Cell} {i : Nat} {ds : List D} (h0 : σ[i]? = some none) (h1 : ∀ x, evalCs C cs ⟨σ.set i x, h⟩ = .ok false ⟨σ.set i x, h⟩) : kComp C [i] cs e (.ok (ds, false) ⟨σ, h⟩) = .ok (.own (.lst [])) ⟨σ, h⟩ := by
  have hc := comp_is (C := C) (cs := cs) (e := e) (σ := σ) (h := h) (i := i) (b := fun _ => false) (f := fun d => d) (ds := ds) (mu := false) (fun z => by cases z) h0 (fun d _ => h1 _) (fun d _ z => by cases z)
  rw [hc]
  have : ds.filter (fun _ => false) = [] := by
    rw [List.filter_eq_nil_iff]
    intro a _ z
    cases z
  rw [this]
  rfl
theorem filt_str (p : T → Bool) (g : D → Bool) (hg : ∀ t, g (.str t) = p t) : ∀ ks : List T, (ks.map D.str).filter g = (ks.filter p).map D.str
  | [] => rfl
  | k :: r => by
    rw [List.map_cons, List.filter_cons, List.filter_cons, hg, filt_str p g hg r]
    split <;> rfl
theorem ok_of {n : Nat} (h : n ≤ 100000) : okSize n = true := by simp [okSize, sizeLine]; omega
/-- texts that are picked out of texts -/
theorem comp_strs {C : CallF} {cs : List E} {σ : List (Option SV)} {h : List Cell} {i : Nat} {ts : List T} {b : T → Bool} {mu : Bool} (hm : mu = true → (pures cs && pure (.var i)) = true) (h0 : σ[i]? = some none)
    (h1 : ∀ t ∈ ts, evalCs C cs ⟨σ.set i (some (.val (.str t))), h⟩ = .ok (b t) ⟨σ.set i (some (.val (.str t))), h⟩) (hl : ts.length ≤ 100000) :
    kComp C [i] cs (.var i) (.ok (ts.map .str, mu) ⟨σ, h⟩) = .ok (.own (.lst ((ts.filter b).map .str))) ⟨σ, h⟩ := by
  have hc := comp_is (C := C) (cs := cs) (e := .var i) (σ := σ) (h := h) (i := i) (b := fun d => match d with
      | .str t => b t
      | _ => false) (f := fun d => d) (ds := ts.map .str) (mu := mu) hm h0 (fun d hd => by
      obtain ⟨t, ht, rfl⟩ := List.mem_map.mp hd
      exact h1 t ht) (fun d hd _ => by
      obtain ⟨t, ht, rfl⟩ := List.mem_map.mp hd
      have : i < σ.length := (List.getElem?_eq_some_iff.mp h0).1
      simp [exports, this])
  rw [hc, filt_str b _ (fun _ => rfl), List.map_id'', newLst, if_pos]
  · rfl
  · exact ok_of (by rw [List.length_map]; exact Nat.le_trans (List.length_filter_le _ _) hl)
  · exact fun _ => rfl
end KW.Pl
/-! KwG4: deeds on texts. -/
namespace KW.Pl
/-- the text a key has: none of another kind -/
def KV.txt (s : KV) (k : T) : Option (Option T) := match tfind k s.held with
  | none => some none
  | some (.txt t) => some (some t)
  | _ => none
def optT : Option T → D
  | some t => .str t
  | none => .non
def toldT : Option T → D
  | some t => dText t
  | none => dNone
def addP (s : KV) (k : T) (o t : T) : Res := match numIn t, numIn o with
  | some m, some n => if (n + m).natAbs ≤ 999999999999999 then ⟨s.setV k (.txt (itoa (n + m))), [k], dNum (n + m)⟩ else ⟨s, [], dNumber⟩
  | _, _ => ⟨s, [], dNumber⟩
def joinP (s : KV) (k : T) (o t : T) : Res := if o.length + t.length > 300 then ⟨s, [], dLong⟩ else ⟨s.setV k (.txt (o ++ t)), [k], dNum (o.length + t.length : Nat)⟩
abbrev wPut : T := [112, 117, 116]
abbrev wPutnew : T := [112, 117, 116, 110, 101, 119]
abbrev wGet : T := [103, 101, 116]
abbrev wSwap : T := [115, 119, 97, 112]
abbrev wAdd : T := [97, 100, 100]
abbrev wJoin : T := [106, 111, 105, 110]
abbrev wLong : T := [108, 111, 110, 103]
def putP (s : KV) (k t : T) : Res := ⟨(s.noEnd k).setV k (.txt t), [k], dDone⟩
def putnewP (s : KV) (k t : T) : Res := if s.has k then ⟨s, [], numB false⟩ else ⟨s.setV k (.txt t), [k], numB true⟩
/-- for texts alone -/
def onTxt (s : KV) (k : T) (f : Option T → Res) : Res := match s.txt k with
  | none => ⟨s, [], dKind⟩
  | some o => f o
def getP (s : KV) (k : T) : Res := onTxt s k fun o => ⟨s, [], toldT o⟩
def swapP (s : KV) (k t : T) : Res := onTxt s k fun o => ⟨(s.noEnd k).setV k (.txt t), [k], toldT o⟩
def addsP (s : KV) (k t : T) : Res := onTxt s k fun o => addP s k (o.getD [48]) t
def joinsP (s : KV) (k t : T) : Res := onTxt s k fun o => joinP s k (o.getD []) t
def longP (s : KV) (k : T) : Res := onTxt s k fun o => ⟨s, [], dNum ((o.getD []).length : Nat)⟩
/-- what the program makes of a deed -/
def Out (c : R RV) (h : List Cell) (i : Nat) (p : Stp) (r : Res) : Prop := c = .ok (.val r.a) ⟨[], h.set i (cell r.s (p.ts r.ts))⟩
section
variable {d : Nat} {h : List Cell} {i : Nat} {s : KV} {p : Stp} {k t : T}
theorem c_keepT (hi : h[i]? = some (cell s p)) (hz : p.m.length < sizeLine) (hz2 : s.held.length < sizeLine) (t : T) :
    callF prog (d + 3) "Store.keep" [.ref i, .str k, .str textK, .str t] h = .ok (.val .non) ⟨[], h.set i (cell (s.setV k (.txt t)) (p.t k))⟩ := c_keep (v := .txt t) hi hz hz2
theorem c_added {o : Option T} (hi : h[i]? = some (cell s p)) (hz : p.m.length < sizeLine) (hz2 : s.held.length < sizeLine) :
    Out (callF prog (d + 4) "added" [.ref i, .str k, optT o, .str t] h) h i p (addP s k (o.getD [48]) t) := by
  unfold Out
  rw [callF_is (fn := f_added) rfl rfl]
  have k1 := c_keepT (d := d) (k := k) hi hz hz2
  have e0 : callF prog (d + 3) "number_in" [.str (o.getD [48])] h = .ok (.val (numD (numIn (o.getD [48])))) ⟨[], h⟩ := c_number_in
  have hh := set_id hi
  simp [cell] at k1 hh
  cases o with
  | none =>
    simp [num0, numD] at e0
    cases e1 : numIn t with
    | none => simp [f_added, optT, c_number_in, e1, numD, e0, addP, hh, num0, cell, run1, run2, run3, recv2, recv3, recv3b, recvM, runIdx, seqOf, lstOf, dctOf, oIdxL, oIdxD, entOf, atI, ixN, part, runCut, bindT, runCmp, runIn, flat, deq, datOf, inD, inT, oLen, cmpInt, cmpI, oAdd, oSub, newLst, frzIt, getPl, putPl, muOf, isK, runMu, muD, runISet, oGet, oGetD, List.lookup, fput, kcls]
    | some m =>
      by_cases z : m.natAbs ≤ 999999999999999
      · simp [f_added, optT, c_number_in, e1, numD, e0, addP, num0, c_small, z, oStr, itoa_log z, hi, k1, cell, run1, run2, run3, recv2, recv3, recv3b, recvM, runIdx, seqOf, lstOf, dctOf, oIdxL, oIdxD, entOf, atI, ixN, part, runCut, bindT, runCmp, runIn, flat, deq, datOf, inD, inT, oLen, cmpInt, cmpI, oAdd, oSub, newLst, frzIt, getPl, putPl, muOf, isK, runMu, muD, runISet, oGet, oGetD, List.lookup, fput, kcls]
      · simp [f_added, optT, c_number_in, e1, numD, e0, addP, num0, c_small, z, hh, cell, run1, run2, run3, recv2, recv3, recv3b, recvM, runIdx, seqOf, lstOf, dctOf, oIdxL, oIdxD, entOf, atI, ixN, part, runCut, bindT, runCmp, runIn, flat, deq, datOf, inD, inT, oLen, cmpInt, cmpI, oAdd, oSub, newLst, frzIt, getPl, putPl, muOf, isK, runMu, muD, runISet, oGet, oGetD, List.lookup, fput, kcls]
  | some w =>
    simp at e0
    cases e1 : numIn t with
    | none => simp [f_added, optT, c_number_in, e1, numD, e0, addP, hh, cell, run1, run2, run3, recv2, recv3, recv3b, recvM, runIdx, seqOf, lstOf, dctOf, oIdxL, oIdxD, entOf, atI, ixN, part, runCut, bindT, runCmp, runIn, flat, deq, datOf, inD, inT, oLen, cmpInt, cmpI, oAdd, oSub, newLst, frzIt, getPl, putPl, muOf, isK, runMu, muD, runISet, oGet, oGetD, List.lookup, fput, kcls]
    | some m =>
      cases e2 : numIn w with
      | none => simp [f_added, optT, c_number_in, e1, e2, numD, e0, addP, hh, cell, run1, run2, run3, recv2, recv3, recv3b, recvM, runIdx, seqOf, lstOf, dctOf, oIdxL, oIdxD, entOf, atI, ixN, part, runCut, bindT, runCmp, runIn, flat, deq, datOf, inD, inT, oLen, cmpInt, cmpI, oAdd, oSub, newLst, frzIt, getPl, putPl, muOf, isK, runMu, muD, runISet, oGet, oGetD, List.lookup, fput, kcls]
      | some n =>
        by_cases z : (n + m).natAbs ≤ 999999999999999
        · simp [f_added, optT, c_number_in, e1, e2, numD, e0, addP, c_small, z, oStr, itoa_log z, hi, k1, cell, run1, run2, run3, recv2, recv3, recv3b, recvM, runIdx, seqOf, lstOf, dctOf, oIdxL, oIdxD, entOf, atI, ixN, part, runCut, bindT, runCmp, runIn, flat, deq, datOf, inD, inT, oLen, cmpInt, cmpI, oAdd, oSub, newLst, frzIt, getPl, putPl, muOf, isK, runMu, muD, runISet, oGet, oGetD, List.lookup, fput, kcls]
        · simp [f_added, optT, c_number_in, e1, e2, numD, e0, addP, c_small, z, hh, cell, run1, run2, run3, recv2, recv3, recv3b, recvM, runIdx, seqOf, lstOf, dctOf, oIdxL, oIdxD, entOf, atI, ixN, part, runCut, bindT, runCmp, runIn, flat, deq, datOf, inD, inT, oLen, cmpInt, cmpI, oAdd, oSub, newLst, frzIt, getPl, putPl, muOf, isK, runMu, muD, runISet, oGet, oGetD, List.lookup, fput, kcls]
theorem c_joined {o : Option T} (hi : h[i]? = some (cell s p)) (hz : p.m.length < sizeLine) (hz2 : s.held.length < sizeLine) (hl : (o.getD []).length + t.length ≤ sizeLine) :
    Out (callF prog (d + 4) "joined" [.ref i, .str k, optT o, .str t] h) h i p (joinP s k (o.getD []) t) := by
  unfold Out
  rw [callF_is (fn := f_joined) rfl rfl]
  have k1 := c_keepT (d := d) (k := k) hi hz hz2
  have hh := set_id hi
  simp [cell] at k1 hh
  cases o with
  | none =>
    have g : okSize t.length = true := by simpa [okSize] using hl
    by_cases z : t.length > 300
    · have z2 : (300 : Int) < (t.length : Int) := by omega
      simp [f_joined, optT, newStr, g, joinP, z, z2, hh, cell, run1, run2, run3, recv2, recv3, recv3b, recvM, runIdx, seqOf, lstOf, dctOf, oIdxL, oIdxD, entOf, atI, ixN, part, runCut, bindT, runCmp, runIn, flat, deq, datOf, inD, inT, oLen, cmpInt, cmpI, oAdd, oSub, newLst, frzIt, getPl, putPl, muOf, isK, runMu, muD, runISet, oGet, oGetD, List.lookup, fput, kcls]
    · have z2 : ¬ (300 : Int) < (t.length : Int) := by omega
      simp [f_joined, optT, newStr, g, joinP, z, z2, hi, k1, cell, run1, run2, run3, recv2, recv3, recv3b, recvM, runIdx, seqOf, lstOf, dctOf, oIdxL, oIdxD, entOf, atI, ixN, part, runCut, bindT, runCmp, runIn, flat, deq, datOf, inD, inT, oLen, cmpInt, cmpI, oAdd, oSub, newLst, frzIt, getPl, putPl, muOf, isK, runMu, muD, runISet, oGet, oGetD, List.lookup, fput, kcls]
  | some w =>
    have g : okSize (w.length + t.length) = true := by simpa [okSize] using hl
    by_cases z : w.length + t.length > 300
    · have z2 : (300 : Int) < (w.length : Int) + (t.length : Int) := by omega
      simp [f_joined, optT, newStr, g, joinP, z, z2, hh, cell, run1, run2, run3, recv2, recv3, recv3b, recvM, runIdx, seqOf, lstOf, dctOf, oIdxL, oIdxD, entOf, atI, ixN, part, runCut, bindT, runCmp, runIn, flat, deq, datOf, inD, inT, oLen, cmpInt, cmpI, oAdd, oSub, newLst, frzIt, getPl, putPl, muOf, isK, runMu, muD, runISet, oGet, oGetD, List.lookup, fput, kcls]
    · have z2 : ¬ (300 : Int) < (w.length : Int) + (t.length : Int) := by omega
      simp [f_joined, optT, newStr, g, joinP, z, z2, hi, k1, cell, run1, run2, run3, recv2, recv3, recv3b, recvM, runIdx, seqOf, lstOf, dctOf, oIdxL, oIdxD, entOf, atI, ixN, part, runCut, bindT, runCmp, runIn, flat, deq, datOf, inD, inT, oLen, cmpInt, cmpI, oAdd, oSub, newLst, frzIt, getPl, putPl, muOf, isK, runMu, muD, runISet, oGet, oGetD, List.lookup, fput, kcls]
/-- a method of the store is found -/
theorem hmS {C : CallF} {σ : List (Option SV)} {m : String} {es : List E} (hi : h[i]? = some (cell s p)) (hm : m ∉ ["held", "ends", "stamps", "now", "stamp"]) : kMeth C "Store" m es (.ok (.val (.ref i)) ⟨σ, h⟩) = kMeth2 C ("Store" ++ "." ++ m) i (evalEs C es ⟨σ, h⟩) := by
  simp at hm
  obtain ⟨h1, h2, h3, h4, h5⟩ := hm
  have e : List.lookup m [("held", SV.own (.dct (cD vP s.held))), ("ends", .own (.dct (cD .int s.ends))), ("stamps", .own (.dct (cD .int p.m))), ("now", .val (.int s.now)), ("stamp", .val (.int p.n))] = none := by
    simp [List.lookup, h1, h2, h3, h4, h5, beq_eq_false_iff_ne.mpr h1, beq_eq_false_iff_ne.mpr h2, beq_eq_false_iff_ne.mpr h3, beq_eq_false_iff_ne.mpr h4, beq_eq_false_iff_ne.mpr h5]
  simp [hi, cell, e]
theorem c_text_put (hi : h[i]? = some (cell s p)) (hz : p.m.length < sizeLine) (hz2 : s.held.length < sizeLine) :
    Out (callF prog (d + 5) "text_done" [.ref i, .str wPut, .lst [.str k, .str t]] h) h i p (putP s k t) := by
  unfold Out
  rw [callF_is (fn := f_text_done) rfl rfl]
  simp [f_text_done, c_put hi hz hz2, putP, run1, run2, run3, recv2, recv3, recv3b, recvM, runIdx, seqOf, lstOf, dctOf, oIdxL, oIdxD, entOf, atI, ixN, part, runCut, bindT, runCmp, runIn, flat, deq, datOf, inD, inT, oLen, cmpInt, cmpI, oAdd, oSub, newLst, frzIt, getPl, putPl, muOf, isK, runMu, muD, runISet, oGet, oGetD, List.lookup, fput, kcls]
theorem c_text_putnew (hi : h[i]? = some (cell s p)) (hz : p.m.length < sizeLine) (hz2 : s.held.length < sizeLine) :
    Out (callF prog (d + 5) "text_done" [.ref i, .str wPutnew, .lst [.str k, .str t]] h) h i p (putnewP s k t) := by
  unfold Out
  rw [callF_is (fn := f_text_done) rfl rfl]
  have k1 := c_keepT (d := d + 1) (k := k) hi hz hz2
  have hh := set_id hi
  simp [cell] at k1 hh
  unfold putnewP KV.has
  cases e : tfind k s.held with
  | none => simp [f_text_done, e, hi, cell, k1, c_as_number, run1, run2, run3, recv2, recv3, recv3b, recvM, runIdx, seqOf, lstOf, dctOf, oIdxL, oIdxD, entOf, atI, ixN, part, runCut, bindT, runCmp, runIn, flat, deq, datOf, inD, inT, oLen, cmpInt, cmpI, oAdd, oSub, newLst, frzIt, getPl, putPl, muOf, isK, runMu, muD, runISet, oGet, oGetD, List.lookup, fput, kcls]
  | some v => simp [f_text_done, e, hi, cell, hh, c_as_number, vP, run1, run2, run3, recv2, recv3, recv3b, recvM, runIdx, seqOf, lstOf, dctOf, oIdxL, oIdxD, entOf, atI, ixN, part, runCut, bindT, runCmp, runIn, flat, deq, datOf, inD, inT, oLen, cmpInt, cmpI, oAdd, oSub, newLst, frzIt, getPl, putPl, muOf, isK, runMu, muD, runISet, oGet, oGetD, List.lookup, fput, kcls]
theorem c_text_old {w : T} {xs : List D} {C : CallF} (hw : w = wGet ∨ w = wSwap ∨ w = wAdd ∨ w = wJoin ∨ w = wLong) (hi : h[i]? = some (cell s p)) (e : s.txt k = none) :
    callF prog (d + 2) "text_done" [.ref i, .str w, .lst (.str k :: xs)] h = .ok (.val dKind) ⟨[], h⟩ := by
  rw [callF_is (fn := f_text_done) rfl rfl]
  have k1 := c_kind (d := d) (k := k) hi
  have p0 : (0 : Int) < (xs.length : Int) + 1 := by omega
  unfold KV.txt at e
  unfold KV.kindOf at k1
  cases e2 : tfind k s.held with
  | none => simp [e2] at e
  | some v =>
    rw [e2] at k1
    simp [cell] at hi
    cases v with
    | txt t => simp [e2] at e
    | _ => rcases hw with rfl | rfl | rfl | rfl | rfl <;> simp [Val.kd] at k1 <;> simp [f_text_done, k1, hi, p0, run1, run2, run3, recv2, recv3, recv3b, recvM, runIdx, seqOf, lstOf, dctOf, oIdxL, oIdxD, entOf, atI, ixN, part, runCut, bindT, runCmp, runIn, flat, deq, datOf, inD, inT, oLen, cmpInt, cmpI, oAdd, oSub, newLst, frzIt, getPl, putPl, muOf, isK, runMu, muD, runISet, oGet, oGetD, List.lookup, fput, kcls]
/-- the text there is, or none -/
theorem c_text_have (hi : h[i]? = some (cell s p)) {o : Option T} (e : s.txt k = some o) :
    ∃ kd : T, callF prog (d + 1) "Store.kind" [.ref i, .str k] h = .ok (.val (.str kd)) ⟨[], h⟩ ∧ (kd = [110, 111, 110, 101] ∨ kd = textK) ∧ callF prog (d + 1) "Store.value" [.ref i, .str k, .str textK, .non] h = .ok (.val (optT o)) ⟨[], h⟩ := by
  have k1 := c_kind (d := d) (k := k) hi
  have k2 := c_value (d := d) (k := k) (kd := textK) (z := .non) hi
  unfold KV.txt at e
  unfold KV.kindOf at k1
  cases e2 : tfind k s.held with
  | none =>
    rw [e2] at k1 k2 e
    cases e
    exact ⟨_, k1, .inl rfl, k2⟩
  | some v =>
    rw [e2] at k1 k2
    cases v with
    | txt t =>
      simp [e2] at e
      subst e
      exact ⟨_, k1, .inr rfl, k2⟩
    | _ => simp [e2] at e
theorem c_text_get (hi : h[i]? = some (cell s p)) : Out (callF prog (d + 5) "text_done" [.ref i, .str wGet, .lst [.str k]] h) h i p (getP s k) := by
  unfold Out getP onTxt
  have hh := set_id hi
  cases e : s.txt k with
  | none => simp only [ts_nil, hh]; exact c_text_old (C := callF prog d) (.inl rfl) hi e
  | some o =>
    rw [callF_is (fn := f_text_done) rfl rfl]
    obtain ⟨kd, e1, e2, e3⟩ := c_text_have (d := d + 3) hi e
    have hm := @hmS h i s p
    rcases e2 with rfl | rfl <;> cases o <;> simp [optT] at e3 <;> simp [f_text_done, hmS hi, e1, e3, hh, c_told, c_told0, toldT, run1, run2, run3, recv2, recv3, recv3b, recvM, runIdx, seqOf, lstOf, dctOf, oIdxL, oIdxD, entOf, atI, ixN, part, runCut, bindT, runCmp, runIn, flat, deq, datOf, inD, inT, oLen, cmpInt, cmpI, oAdd, oSub, newLst, frzIt, getPl, putPl, muOf, isK, runMu, muD, runISet, oGet, oGetD, List.lookup, fput, kcls]
theorem c_text_swap (hi : h[i]? = some (cell s p)) (hz : p.m.length < sizeLine) (hz2 : s.held.length < sizeLine) : Out (callF prog (d + 5) "text_done" [.ref i, .str wSwap, .lst [.str k, .str t]] h) h i p (swapP s k t) := by
  unfold Out swapP onTxt
  have hh := set_id hi
  cases e : s.txt k with
  | none => simp only [ts_nil, hh]; exact c_text_old (C := callF prog d) (.inr (.inl rfl)) hi e
  | some o =>
    rw [callF_is (fn := f_text_done) rfl rfl]
    obtain ⟨kd, e1, e2, e3⟩ := c_text_have (d := d + 3) hi e
    have e5 := c_put (d := d) (k := k) (t := t) hi hz hz2
    rcases e2 with rfl | rfl <;> cases o <;> simp [optT] at e3 <;> simp [f_text_done, hmS hi, e1, e3, e5, hh, c_told, c_told0, toldT, run1, run2, run3, recv2, recv3, recv3b, recvM, runIdx, seqOf, lstOf, dctOf, oIdxL, oIdxD, entOf, atI, ixN, part, runCut, bindT, runCmp, runIn, flat, deq, datOf, inD, inT, oLen, cmpInt, cmpI, oAdd, oSub, newLst, frzIt, getPl, putPl, muOf, isK, runMu, muD, runISet, oGet, oGetD, List.lookup, fput, kcls]
theorem c_text_long (hi : h[i]? = some (cell s p)) : Out (callF prog (d + 5) "text_done" [.ref i, .str wLong, .lst [.str k]] h) h i p (longP s k) := by
  unfold Out longP onTxt
  have hh := set_id hi
  cases e : s.txt k with
  | none => simp only [ts_nil, hh]; exact c_text_old (C := callF prog d) (.inr (.inr (.inr (.inr rfl)))) hi e
  | some o =>
    rw [callF_is (fn := f_text_done) rfl rfl]
    obtain ⟨kd, e1, e2, e3⟩ := c_text_have (d := d + 3) hi e
    rcases e2 with rfl | rfl <;> cases o <;> simp [optT] at e3 <;> simp [f_text_done, hmS hi, e1, e3, hh, run1, run2, run3, recv2, recv3, recv3b, recvM, runIdx, seqOf, lstOf, dctOf, oIdxL, oIdxD, entOf, atI, ixN, part, runCut, bindT, runCmp, runIn, flat, deq, datOf, inD, inT, oLen, cmpInt, cmpI, oAdd, oSub, newLst, frzIt, getPl, putPl, muOf, isK, runMu, muD, runISet, oGet, oGetD, List.lookup, fput, kcls]
theorem c_text_add (hi : h[i]? = some (cell s p)) (hz : p.m.length < sizeLine) (hz2 : s.held.length < sizeLine) : Out (callF prog (d + 5) "text_done" [.ref i, .str wAdd, .lst [.str k, .str t]] h) h i p (addsP s k t) := by
  unfold Out addsP onTxt
  have hh := set_id hi
  cases e : s.txt k with
  | none => simp only [ts_nil, hh]; exact c_text_old (C := callF prog d) (.inr (.inr (.inl rfl))) hi e
  | some o =>
    rw [callF_is (fn := f_text_done) rfl rfl]
    obtain ⟨kd, e1, e2, e3⟩ := c_text_have (d := d + 3) hi e
    have e5 := c_added (d := d) (k := k) (t := t) (o := o) hi hz hz2
    unfold Out at e5
    simp only []
    generalize addP s k (o.getD [48]) t = r at *
    rcases e2 with rfl | rfl <;> cases o <;> simp [optT] at e3 e5 <;> simp [f_text_done, hmS hi, e1, e3, e5, hh, run1, run2, run3, recv2, recv3, recv3b, recvM, runIdx, seqOf, lstOf, dctOf, oIdxL, oIdxD, entOf, atI, ixN, part, runCut, bindT, runCmp, runIn, flat, deq, datOf, inD, inT, oLen, cmpInt, cmpI, oAdd, oSub, newLst, frzIt, getPl, putPl, muOf, isK, runMu, muD, runISet, oGet, oGetD, List.lookup, fput, kcls]
theorem c_text_join (hi : h[i]? = some (cell s p)) (hz : p.m.length < sizeLine) (hz2 : s.held.length < sizeLine) (hl : ∀ t, tfind k s.held = some (.txt t) → t.length ≤ 300) (ht : t.length ≤ 1000) : Out (callF prog (d + 5) "text_done" [.ref i, .str wJoin, .lst [.str k, .str t]] h) h i p (joinsP s k t) := by
  unfold Out joinsP onTxt
  have hh := set_id hi
  cases e : s.txt k with
  | none => simp only [ts_nil, hh]; exact c_text_old (C := callF prog d) (.inr (.inr (.inr (.inl rfl)))) hi e
  | some o =>
    rw [callF_is (fn := f_text_done) rfl rfl]
    obtain ⟨kd, e1, e2, e3⟩ := c_text_have (d := d + 3) hi e
    have ho : (o.getD []).length ≤ 300 := by
      unfold KV.txt at e
      split at e
      · cases e; simp
      · rename_i t' e'
        cases e
        exact hl _ e'
      · cases e
    have e5 := c_joined (d := d) (k := k) (t := t) (o := o) hi hz hz2 (by simp [sizeLine]; omega)
    unfold Out at e5
    simp only []
    generalize joinP s k (o.getD []) t = r at *
    rcases e2 with rfl | rfl <;> cases o <;> simp [optT] at e3 e5 <;> simp [f_text_done, hmS hi, e1, e3, e5, hh, run1, run2, run3, recv2, recv3, recv3b, recvM, runIdx, seqOf, lstOf, dctOf, oIdxL, oIdxD, entOf, atI, ixN, part, runCut, bindT, runCmp, runIn, flat, deq, datOf, inD, inT, oLen, cmpInt, cmpI, oAdd, oSub, newLst, frzIt, getPl, putPl, muOf, isK, runMu, muD, runISet, oGet, oGetD, List.lookup, fput, kcls]
end
end KW.Pl
/-! KwG5: deeds on rows. -/
namespace KW.Pl
def loI (n : Nat) (f : Int) : Int := if f < 0 then (if f + n > 0 then f + n else 0) else f
def hiI (n : Nat) (l : Int) : Int := if l < 0 then l + n else l
def sliceP (xs : List D) (f l : Int) : List D := if loI xs.length f ≤ hiI xs.length l then (xs.drop (loI xs.length f).toNat).take (hiI xs.length l + 1 - loI xs.length f).toNat else []
theorem lo_pos (n : Nat) (f : Int) : 0 ≤ loI n f := by
  unfold loI
  split
  · split <;> omega
  · omega
theorem cut_is {α : Type} (xs : List α) {f l : Int} (h1 : 0 ≤ f) (h2 : f ≤ l) : cut xs (some f) (some (l + 1)) = (xs.drop f.toNat).take (l + 1 - f).toNat := by
  unfold cut sIx
  simp only []
  rw [if_neg (by omega), if_neg (by omega)]
  by_cases z : f.toNat ≤ xs.length
  · rw [Nat.min_eq_left z]
    by_cases y : (l + 1).toNat ≤ xs.length
    · rw [Nat.min_eq_left y]
      congr 1
      omega
    · rw [Nat.min_eq_right (by omega)]
      rw [List.take_of_length_le (by simp), List.take_of_length_le (by simp; omega)]
  · rw [show min f.toNat xs.length = xs.length from by omega, List.drop_length, List.take_nil]
    rw [List.drop_eq_nil_of_le (by omega), List.take_nil]
def inB (lo hi : Int) (d : D) : Bool := match d with
  | .int k => decide (lo ≤ k) && decide (k ≤ hi)
  | _ => false
theorem sl_go {f : D → D} {lo hi : Int} (hlh : lo ≤ hi) : ∀ (xs : List D) (a : Int), (∀ (j : Nat) (h : j < xs.length), f (.int (a + j)) = xs[j]) →
    ((range' a 1 xs.length).filter (inB lo hi)).map f = (xs.drop (lo - a).toNat).take (hi + 1 - (if lo ≤ a then a else lo)).toNat
  | [], a, _ => by simp [range']
  | x :: r, a, hf => by
    have ih := sl_go hlh r (a + 1) fun j hj => by
      have := hf (j + 1) (by simp; omega)
      simp only [List.getElem_cons_succ] at this
      rw [← this]
      congr 2
      push_cast
      omega
    have h0 : f (.int a) = x := by
      have := hf 0 (by simp)
      simpa using this
    rw [List.length_cons, range', List.filter_cons]
    by_cases z1 : lo ≤ a
    · by_cases z2 : a ≤ hi
      · have : inB lo hi (.int a) = true := by simp [inB, z1, z2]
        rw [if_pos this, List.map_cons, h0, ih, if_pos z1, if_pos (by omega)]
        rw [show (lo - a).toNat = 0 from by omega, show (lo - (a + 1)).toNat = 0 from by omega, List.drop_zero, List.drop_zero]
        rw [show (hi + 1 - a).toNat = (hi + 1 - (a + 1)).toNat + 1 from by omega, List.take_succ_cons]
      · have : inB lo hi (.int a) = false := by simp [inB, z1, z2]
        rw [if_neg (by rw [this]; exact Bool.false_ne_true), ih, if_pos z1, if_pos (by omega)]
        rw [show (hi + 1 - (a + 1)).toNat = 0 from by omega, show (hi + 1 - a).toNat = 0 from by omega, List.take_zero, List.take_zero]
    · have : inB lo hi (.int a) = false := by simp [inB, z1]
      rw [if_neg (by rw [this]; exact Bool.false_ne_true), ih, if_neg z1]
      rw [show (lo - a).toNat = (lo - (a + 1)).toNat + 1 from by omega, List.drop_succ_cons]
      congr 2
      split <;> omega
theorem sl_none {lo hi : Int} (h : ¬ lo ≤ hi) (ds : List D) : ds.filter (inB lo hi) = [] := by
  rw [List.filter_eq_nil_iff]
  intro d _
  cases d with
  | int k => simp [inB]; omega
  | _ => simp [inB]
section
variable {d : Nat} {h : List Cell} {i n : Nat} {k o t w : T} {xs ys : List D} {f l : Int}
theorem slice_len : (sliceP xs f l).length ≤ xs.length := by
  unfold sliceP
  split
  · simp; omega
  · simp
theorem c_between (hl : xs.length ≤ 1000) : callF prog (d + 1) "between" [.lst xs, .int f, .int l] h = .ok (.own (.lst (sliceP xs f l))) ⟨[], h⟩ := by
  rw [callF_is (fn := f_between) rfl rfl]
  have g0 : okSize 0 = true := rfl
  unfold sliceP
  generalize hlo : loI xs.length f = lo
  generalize hhi : hiI xs.length l = hi
  have p := lo_pos xs.length f
  rw [hlo] at p
  have e1 : (if f < 0 then (if f + (xs.length : Int) > 0 then f + (xs.length : Int) else 0) else f) = lo := hlo
  have e2 : (if l < 0 then l + (xs.length : Int) else l) = hi := hhi
  have key : kFn (execs (callF prog d) (f_between.body.drop 3) ⟨[some (.val (.lst xs)), some (.val (.int lo)), some (.val (.int hi)), some (.val (.int xs.length))], h⟩) = .ok (.own (.lst (if lo ≤ hi then (xs.drop lo.toNat).take (hi + 1 - lo).toNat else []))) ⟨[], h⟩ := by
    by_cases z : lo ≤ hi
    · have g : okSize (min (hi + 1 - lo).toNat (xs.length - lo.toNat)) = true := by
        simp [okSize, sizeLine]
        omega
      have ez : ¬ hi < lo := by omega
      simp [f_between, run2, recv2, runCmp, cmpInt, cmpI, z, run3, recv3, recv3b, part, oAdd, runCut, lstOf, cut_is xs p z, newLst, g, run1, seqOf]
    · simp [f_between, run2, recv2, runCmp, cmpInt, cmpI, z, newLst, g0]
  simp [f_between] at key
  rw [← key]
  by_cases z1 : f < 0
  · rw [if_pos z1] at e1
    by_cases z3 : f + (xs.length : Int) > 0
    · rw [if_pos z3] at e1
      by_cases z2 : l < 0
      · rw [if_pos z2] at e2
        subst e1 e2
        simp [f_between, run1, run2, recv2, oLen, seqOf, lstOf, runCmp, cmpInt, cmpI, z1, z2, oAdd, oMax2, z3]
      · rw [if_neg z2] at e2
        subst e1 e2
        simp [f_between, run1, run2, recv2, oLen, seqOf, lstOf, runCmp, cmpInt, cmpI, z1, z2, oAdd, oMax2, z3]
    · rw [if_neg z3] at e1
      have z3' : ¬ 0 < f + (xs.length : Int) := z3
      by_cases z2 : l < 0
      · rw [if_pos z2] at e2
        subst e1 e2
        simp [f_between, run1, run2, recv2, oLen, seqOf, lstOf, runCmp, cmpInt, cmpI, z1, z2, oAdd, oMax2, z3']
      · rw [if_neg z2] at e2
        subst e1 e2
        simp [f_between, run1, run2, recv2, oLen, seqOf, lstOf, runCmp, cmpInt, cmpI, z1, z2, oAdd, oMax2, z3']
  · rw [if_neg z1] at e1
    by_cases z2 : l < 0
    · rw [if_pos z2] at e2
      subst e1 e2
      simp [f_between, run1, run2, recv2, oLen, seqOf, lstOf, runCmp, cmpInt, cmpI, z1, z2, oAdd]
    · rw [if_neg z2] at e2
      subst e1 e2
      simp [f_between, run1, run2, recv2, oLen, seqOf, lstOf, runCmp, cmpInt, cmpI, z1, z2, oAdd]
theorem c_texts_row {xs : List D} (hl : xs.length ≤ sizeLine) : callF prog (d + 1) "texts_row" [.lst xs] h = .ok (.val (rowD xs)) ⟨[], h⟩ := by
  rw [callF_is (fn := f_texts_row) rfl rfl]
  have hc := comp_is (C := callF prog d) (cs := []) (e := .tup [.cst (.str [116, 101, 120, 116]), .var 1]) (σ := [some (.val (.lst xs)), none]) (h := h) (i := 1) (b := fun _ => true)
    (f := fun x => .tup [.str textK, x]) (ds := xs) (mu := false) (fun z => by cases z) rfl (fun d hd => by simp) (fun d hd _ => by simp [exports, textK])
  rw [filter_true] at hc
  have g : okSize (xs.map fun x => D.tup [.str textK, x]).length = true := by simpa [okSize] using hl
  rw [newLst, if_pos g] at hc
  simp [f_texts_row, hc, seqOf, lstOf, muOf, run1, rowD]
theorem atI_first {x : D} {r : List D} : atI (x :: r) 0 = some x := by
  unfold atI ixN
  rw [if_pos (by decide), if_pos (by simp)]
  rfl
theorem atI_last {l : List D} {x : D} : atI (l ++ [x]) (-1) = some x := by
  unfold atI ixN
  rw [if_neg (by decide), if_pos (by simp; omega)]
  have : (-1 + (((l ++ [x]).length : Nat) : Int)).toNat = l.length := by simp; omega
  show (l ++ [x])[_]? = _
  rw [this]
  simp
theorem cut_init {l : List D} {x : D} : cut (l ++ [x]) none (some (-1)) = l := by
  unfold cut sIx
  simp
  rw [show (-1 + ((l.length : Int) + 1)).toNat = l.length from by omega]
  simp
theorem cut_last {l : List D} {x : D} : cut (l ++ [x]) (some (-1)) none = [x] := by
  unfold cut sIx
  simp
  rw [show (-1 + ((l.length : Int) + 1)).toNat = l.length from by omega]
  simp
end
theorem slice_map {α β : Type} (f : α → β) (xs : List α) (lo n : Nat) : ((xs.map f).drop lo).take n = ((xs.drop lo).take n).map f := by rw [List.map_take, List.map_drop]
/-- the row a key has: none of another kind -/
def KV.row (s : KV) (k : T) : Option (List T) := match tfind k s.held with
  | none => some []
  | some (.row ts) => some ts
  | _ => none
def rowO : Option (List T) → D
  | some ts => .lst (ts.map .str)
  | none => .non
abbrev wFirst : T := [102, 105, 114, 115, 116]
abbrev wLast : T := [108, 97, 115, 116]
abbrev wTakefirst : T := [116, 97, 107, 101, 102, 105, 114, 115, 116]
abbrev wTakelast : T := [116, 97, 107, 101, 108, 97, 115, 116]
abbrev wMany : T := [109, 97, 110, 121]
abbrev wSlice : T := [115, 108, 105, 99, 101]
abbrev wCarry : T := [99, 97, 114, 114, 121]
def KV.keepR (s : KV) (k : T) (v : Val) (a : D) : Res := ⟨s.keepV k v, s.keepT k v, a⟩
def onRow (s : KV) (k : T) (f : List T → Res) : Res := match s.row k with
  | none => ⟨s, [], dKind⟩
  | some o => f o
def rowPut (s : KV) (k : T) (later : List T) : Res := if later.length > 200 then ⟨s, [], dLong⟩ else s.keepR k (.row later) (dNum (later.length : Nat))
def firstP (s : KV) (k : T) (ts : List T) : Res := onRow s k fun row => rowPut s k (ts.reverse ++ row)
def lastP (s : KV) (k : T) (ts : List T) : Res := onRow s k fun row => rowPut s k (row ++ ts)
def takeF (s : KV) (k : T) : List T → Res
  | [] => ⟨s, [], dNone⟩
  | x :: xs => s.keepR k (.row xs) (dText x)
def takeL (s : KV) (k : T) (row : List T) : Res := match row.getLast? with
  | none => ⟨s, [], dNone⟩
  | some x => s.keepR k (.row row.dropLast) (dText x)
def takefirstP (s : KV) (k : T) : Res := onRow s k (takeF s k)
def takelastP (s : KV) (k : T) : Res := onRow s k (takeL s k)
def manyP (s : KV) (k : T) : Res := onRow s k fun row => ⟨s, [], dNum (row.length : Nat)⟩
def slD (xs : List D) (f l : T) : D := match numIn f, numIn l with
  | some a, some b => rowD (sliceP xs a b)
  | _, _ => dNumber
def sliceWP (s : KV) (k f l : T) : Res := onRow s k fun row => ⟨s, [], slD (row.map .str) f l⟩
def carryR (s : KV) (k o : T) (row other : List T) : Res := match row.getLast? with
  | none => ⟨s, [], dNone⟩
  | some x => if o = k then s.keepR k (.row (x :: row.dropLast)) (dText x)
    else if other.length = 200 then ⟨s, [], dLong⟩
    else ⟨(s.keepV k (.row row.dropLast)).setV o (.row (x :: other)), s.keepT k (.row row.dropLast) ++ [o], dText x⟩
def carryO (s : KV) (k o : T) (row : List T) : Res := match s.row o with
  | none => ⟨s, [], dKind⟩
  | some other => carryR s k o row other
def carryP (s : KV) (k o : T) : Res := onRow s k fun row => carryO s k o row
/-- rows are not too long -/
def KV.RowsOk (s : KV) : Prop := ∀ k ts, s.row k = some ts → ts.length ≤ 200
theorem KV.Ok.rows {s : KV} {n : Nat} (I : s.Ok n) : s.RowsOk := fun k ts e => by
  unfold KV.row at e
  split at e
  · cases e; simp
  · rename_i e2
    cases e
    exact (I.vs _ (tfind_mem e2)).rw _ rfl
  · cases e
theorem keepV_ne {s : KV} {k o : T} {v : Val} (hn : o ≠ k) : tfind o (s.keepV k v).held = tfind o s.held := by
  unfold KV.keepV
  split
  · exact tfind_tdel_ne hn
  · exact tfind_tput_ne hn
theorem keepT_len (s : KV) (k : T) (v : Val) : (s.keepT k v).length ≤ 1 := by
  unfold KV.keepT KV.dropT
  split
  · split <;> simp
  · simp
theorem keepV_he (s : KV) (k : T) (v : Val) : (s.keepV k v).held.length ≤ s.held.length + 1 := by
  unfold KV.keepV
  split
  · exact Nat.le_succ_of_le (tdel_len _ _)
  · exact tput_len_le _ _ _
section
variable {d : Nat} {h : List Cell} {i : Nat} {s : KV} {p : Stp} {k o t w : T} {row ts : List T}
theorem valR (hi : h[i]? = some (cell s p)) : callF prog (d + 1) "Store.value" [.ref i, .str k, .str rowK, .lst []] h = .ok (.val (rowO (s.row k))) ⟨[], h⟩ := by
  rw [c_value hi]
  unfold KV.row
  cases e : tfind k s.held with
  | none => rfl
  | some v => cases v <;> simp [Val.kd, Val.pd, rowO]
theorem c_keepR (hi : h[i]? = some (cell s p)) (hz : p.m.length < sizeLine) (hz2 : s.held.length < sizeLine) (ts : List T) :
    callF prog (d + 3) "Store.keep" [.ref i, .str k, .str rowK, .lst (ts.map .str)] h = .ok (.val .non) ⟨[], h.set i (cell (s.keepV k (.row ts)) (p.ts (s.keepT k (.row ts))))⟩ := c_keep (v := .row ts) hi hz hz2
theorem hmK {C : CallF} {σ : List (Option SV)} {es : List E} (hi : h[i]? = some (cell s p)) : kMeth C "Store" "keep" es (.ok (.val (.ref i)) ⟨σ, h⟩) = kMeth2 C "Store.keep" i (evalEs C es ⟨σ, h⟩) := hmS hi (by decide)
theorem hmV {C : CallF} {σ : List (Option SV)} {es : List E} (hi : h[i]? = some (cell s p)) : kMeth C "Store" "value" es (.ok (.val (.ref i)) ⟨σ, h⟩) = kMeth2 C "Store.value" i (evalEs C es ⟨σ, h⟩) := hmS hi (by decide)
theorem c_put_first (hi : h[i]? = some (cell s p)) (hz : p.m.length < sizeLine) (hz2 : s.held.length < sizeLine) (hl : row.length ≤ 1000) (hy : ts.length ≤ 1000) :
    Out (callF prog (d + 4) "put_in_rows" [.ref i, .str wFirst, .str k, .lst (row.map .str), .lst (ts.map .str)] h) h i p (rowPut s k (ts.reverse ++ row)) := by
  unfold Out
  rw [callF_is (fn := f_put_in_rows) rfl rfl]
  have k1 := c_keepR (d := d) (k := k) hi hz hz2 (ts.reverse ++ row)
  have hh := set_id hi
  have g1 : okSize ts.length = true := ok_of (by omega)
  have g2 : okSize (ts.length + row.length) = true := ok_of (by omega)
  unfold rowPut
  simp at k1
  by_cases z : 200 < ts.length + row.length
  · have z2 : (200 : Int) < (ts.length : Int) + (row.length : Int) := by omega
    simp [f_put_in_rows, oRev, g1, g2, z, z2, hh, run1, run2, run3, recv2, recv3, recv3b, recvM, runIdx, seqOf, lstOf, dctOf, oIdxL, oIdxD, entOf, atI, ixN, part, runCut, bindT, runCmp, runIn, flat, deq, datOf, inD, inT, oLen, cmpInt, cmpI, oAdd, oSub, newLst, frzIt, getPl, putPl, muOf, isK, runMu, muD, runISet, oGet, oGetD, List.lookup, fput, kcls]
  · have z2 : ¬ (200 : Int) < (ts.length : Int) + (row.length : Int) := by omega
    simp [f_put_in_rows, oRev, g1, g2, z, z2, hmK hi, k1, KV.keepR, run1, run2, run3, recv2, recv3, recv3b, recvM, runIdx, seqOf, lstOf, dctOf, oIdxL, oIdxD, entOf, atI, ixN, part, runCut, bindT, runCmp, runIn, flat, deq, datOf, inD, inT, oLen, cmpInt, cmpI, oAdd, oSub, newLst, frzIt, getPl, putPl, muOf, isK, runMu, muD, runISet, oGet, oGetD, List.lookup, fput, kcls]
theorem c_put_last (hi : h[i]? = some (cell s p)) (hz : p.m.length < sizeLine) (hz2 : s.held.length < sizeLine) (hl : row.length ≤ 1000) (hy : ts.length ≤ 1000) :
    Out (callF prog (d + 4) "put_in_rows" [.ref i, .str wLast, .str k, .lst (row.map .str), .lst (ts.map .str)] h) h i p (rowPut s k (row ++ ts)) := by
  unfold Out
  rw [callF_is (fn := f_put_in_rows) rfl rfl]
  have k1 := c_keepR (d := d) (k := k) hi hz hz2 (row ++ ts)
  have hh := set_id hi
  have g2 : okSize (row.length + ts.length) = true := ok_of (by omega)
  unfold rowPut
  simp at k1
  by_cases z : 200 < row.length + ts.length
  · have z2 : (200 : Int) < (row.length : Int) + (ts.length : Int) := by omega
    simp [f_put_in_rows, g2, z, z2, hh, run1, run2, run3, recv2, recv3, recv3b, recvM, runIdx, seqOf, lstOf, dctOf, oIdxL, oIdxD, entOf, atI, ixN, part, runCut, bindT, runCmp, runIn, flat, deq, datOf, inD, inT, oLen, cmpInt, cmpI, oAdd, oSub, newLst, frzIt, getPl, putPl, muOf, isK, runMu, muD, runISet, oGet, oGetD, List.lookup, fput, kcls]
  · have z2 : ¬ (200 : Int) < (row.length : Int) + (ts.length : Int) := by omega
    simp [f_put_in_rows, g2, z, z2, hmK hi, k1, KV.keepR, run1, run2, run3, recv2, recv3, recv3b, recvM, runIdx, seqOf, lstOf, dctOf, oIdxL, oIdxD, entOf, atI, ixN, part, runCut, bindT, runCmp, runIn, flat, deq, datOf, inD, inT, oLen, cmpInt, cmpI, oAdd, oSub, newLst, frzIt, getPl, putPl, muOf, isK, runMu, muD, runISet, oGet, oGetD, List.lookup, fput, kcls]
theorem c_take_first (hi : h[i]? = some (cell s p)) (hz : p.m.length < sizeLine) (hz2 : s.held.length < sizeLine) (hl : row.length ≤ 1000) :
    Out (callF prog (d + 4) "taken" [.ref i, .str wTakefirst, .str k, .lst (row.map .str)] h) h i p (takeF s k row) := by
  unfold Out
  rw [callF_is (fn := f_taken) rfl rfl]
  have hh := set_id hi
  cases row with
  | nil => simp [f_taken, takeF, hh]
  | cons x xs =>
    have k1 := c_keepR (d := d) (k := k) hi hz hz2 xs
    have g1 : okSize xs.length = true := ok_of (by simp at hl; omega)
    simp [f_taken, oNeg, part, runCut, cut1D, g1, hmK hi, k1, takeF, KV.keepR, run1, run2, run3, recv2, recv3, recv3b, recvM, runIdx, seqOf, lstOf, dctOf, oIdxL, oIdxD, entOf, atI, ixN, part, runCut, bindT, runCmp, runIn, flat, deq, datOf, inD, inT, oLen, cmpInt, cmpI, oAdd, oSub, newLst, frzIt, getPl, putPl, muOf, isK, runMu, muD, runISet, oGet, oGetD, List.lookup, fput, kcls]
theorem c_take_last (hi : h[i]? = some (cell s p)) (hz : p.m.length < sizeLine) (hz2 : s.held.length < sizeLine) (hl : row.length ≤ 1000) :
    Out (callF prog (d + 4) "taken" [.ref i, .str wTakelast, .str k, .lst (row.map .str)] h) h i p (takeL s k row) := by
  unfold Out
  rw [callF_is (fn := f_taken) rfl rfl]
  have hh := set_id hi
  rcases List.eq_nil_or_concat row with rfl | ⟨xs, x, rfl⟩
  · simp [f_taken, takeL, hh]
  · rw [List.concat_eq_append] at *
    have k1 := c_keepR (d := d) (k := k) hi hz hz2 xs
    have g1 : okSize xs.length = true := ok_of (by simp at hl; omega)
    have he : (xs.map D.str ++ [D.str x]).isEmpty = false := by cases xs <;> rfl
    have a1 : atI (xs.map D.str ++ [D.str x]) (-1) = some (.str x) := atI_last
    have a2 : cut (xs.map D.str ++ [D.str x]) none (some (-1)) = xs.map D.str := cut_init
    simp [f_taken, run1, run2, recv2, runCmp, datOf, oNeg, runIdx, seqOf, lstOf, oIdxL, a1, part, runCut, a2, newLst, g1, hmK hi, k1, takeL, he, KV.keepR]
end
end KW.Pl
/-! KwG6: rows carried; deeds on rows by their words. -/
namespace KW.Pl
section
variable {d : Nat} {h : List Cell} {i : Nat} {s : KV} {p : Stp} {k o t w : T} {row ts : List T}
theorem ts_app_one (p : Stp) (a : List T) (o : T) : p.ts (a ++ [o]) = (p.ts a).t o := by rw [ts_append]; rfl
theorem c_carried (hi : h[i]? = some (cell s p)) (hz : p.m.length + 2 < sizeLine) (hz2 : s.held.length + 2 < sizeLine) (ok : s.RowsOk) (er : s.row k = some row) :
    Out (callF prog (d + 5) "carried" [.ref i, .str k, .lst (row.map .str), .str o] h) h i p (carryO s k o row) := by
  unfold Out carryO
  have hl := ok k row er
  rw [callF_is (fn := f_carried) rfl rfl]
  have hh := set_id hi
  have k2 := valR (d := d + 3) (k := o) hi
  cases eo : s.row o with
  | none =>
    rw [eo] at k2
    simp [f_carried, hmV hi, k2, rowO, hh, show okSize 0 = true from rfl, run1, run2, run3, recv2, recv3, recv3b, recvM, runIdx, seqOf, lstOf, dctOf, oIdxL, oIdxD, entOf, atI, ixN, part, runCut, bindT, runCmp, runIn, flat, deq, datOf, inD, inT, oLen, cmpInt, cmpI, oAdd, oSub, newLst, frzIt, getPl, putPl, muOf, isK, runMu, muD, runISet, oGet, oGetD, List.lookup, fput, kcls]
  | some other =>
    rw [eo] at k2
    have hlo := ok o other eo
    unfold carryR
    rcases List.eq_nil_or_concat row with rfl | ⟨xs, x, rfl⟩
    · simp [f_carried, hmV hi, k2, rowO, hh, show okSize 0 = true from rfl, run1, run2, run3, recv2, recv3, recv3b, recvM, runIdx, seqOf, lstOf, dctOf, oIdxL, oIdxD, entOf, atI, ixN, part, runCut, bindT, runCmp, runIn, flat, deq, datOf, inD, inT, oLen, cmpInt, cmpI, oAdd, oSub, newLst, frzIt, getPl, putPl, muOf, isK, runMu, muD, runISet, oGet, oGetD, List.lookup, fput, kcls]
    · rw [List.concat_eq_append] at *
      simp at hl
      have g1 : okSize xs.length = true := ok_of (by omega)
      have g2 : okSize (1 + xs.length) = true := ok_of (by omega)
      have he : (xs.map D.str ++ [D.str x]).isEmpty = false := by cases xs <;> rfl
      have a1 : atI (xs.map D.str ++ [D.str x]) (-1) = some (.str x) := atI_last
      have a2 : cut (xs.map D.str ++ [D.str x]) none (some (-1)) = xs.map D.str := cut_init
      have a3 : cut (xs.map D.str ++ [D.str x]) (some (-1)) none = [.str x] := cut_last
      by_cases hne : o = k
      · subst hne
        have k1 := c_keepR (d := d + 1) (k := o) hi (by omega) (by omega) (x :: xs)
        simp at k1
        simp [f_carried, hmV hi, k2, rowO, show okSize 0 = true from rfl, show okSize 1 = true from rfl, he, oNeg, a3, a2, g1, g2, hmK hi, k1, a1, KV.keepR, run1, run2, recv2, runIdx, seqOf, lstOf, oIdxL, part, runCut, runCmp, datOf, newLst, oAdd, frzIt, getPl, putPl]
      · by_cases hf : other.length = 200
        · have hf2 : (other.length : Int) = 200 := by omega
          simp [f_carried, hmV hi, k2, rowO, hh, show okSize 0 = true from rfl, he, hne, hf, run1, run2, run3, recv2, recv3, recv3b, recvM, runIdx, seqOf, lstOf, dctOf, oIdxL, oIdxD, entOf, atI, ixN, part, runCut, bindT, runCmp, runIn, flat, deq, datOf, inD, inT, oLen, cmpInt, cmpI, oAdd, oSub, newLst, frzIt, getPl, putPl, muOf, isK, runMu, muD, runISet, oGet, oGetD, List.lookup, fput, kcls]
        · have hf2 : ¬ (other.length : Int) = 200 := by omega
          have k1 := c_take_last (d := d) (k := k) (row := xs ++ [x]) hi (by omega) (by omega) (by simp; omega)
          unfold Out takeL at k1
          simp [KV.keepR] at k1
          have hi2 : (h.set i (cell (s.keepV k (.row xs)) (p.ts (s.keepT k (.row xs)))))[i]? = some (cell (s.keepV k (.row xs)) (p.ts (s.keepT k (.row xs)))) := by rw [get_set, hi]; rfl
          have eo2 : (s.keepV k (.row xs)).row o = some other := by
            unfold KV.row at eo ⊢
            rw [keepV_ne hne]
            exact eo
          have k3 := valR (d := d + 3) (k := o) hi2
          rw [eo2] at k3
          have l1 := keepT_len s k (.row xs)
          have l2 := ts_len (s.keepT k (.row xs)) p
          have l3 := keepV_he s k (.row xs)
          have k4 := c_put_first (d := d) (k := o) (row := other) (ts := [x]) hi2 (by omega) (by omega) (by omega) (by simp)
          unfold Out rowPut at k4
          have hlt : ¬ other.length + 1 > 200 := by omega
          have kt : (s.keepV k (.row xs)).keepT o (.row (x :: other)) = [o] := rfl
          have kv : (s.keepV k (.row xs)).keepV o (.row (x :: other)) = (s.keepV k (.row xs)).setV o (.row (x :: other)) := rfl
          simp [hlt, KV.keepR, kt, kv] at k4
          simp [f_carried, hmV hi, k2, rowO, show okSize 0 = true from rfl, show okSize 1 = true from rfl, he, hne, hf, hf2, k1, hmV hi2, k3, k4, ts_app_one, run1, run2, run3, recv2, recv3, recv3b, recvM, runIdx, seqOf, lstOf, dctOf, oIdxL, oIdxD, entOf, atI, ixN, part, runCut, bindT, runCmp, runIn, flat, deq, datOf, inD, inT, oLen, cmpInt, cmpI, oAdd, oSub, newLst, frzIt, getPl, putPl, muOf, isK, runMu, muD, runISet, oGet, oGetD, List.lookup, fput, kcls]
/-! by their words -/
theorem valN (hi : h[i]? = some (cell s p)) (hs : s.row k = none) : callF prog (d + 1) "Store.value" [.ref i, .str k, .str rowK, .lst []] h = .ok (.val .non) ⟨[], h⟩ := by
  rw [valR hi, hs]; rfl
theorem valS (hi : h[i]? = some (cell s p)) (hs : s.row k = some row) : callF prog (d + 1) "Store.value" [.ref i, .str k, .str rowK, .lst []] h = .ok (.val (.lst (row.map .str))) ⟨[], h⟩ := by
  rw [valR hi, hs]; rfl
theorem c_row_none {xs : List D} (hi : h[i]? = some (cell s p)) (hs : s.row k = none) : callF prog (d + 5) "row_done" [.ref i, .str w, .lst (.str k :: xs)] h = .ok (.val dKind) ⟨[], h⟩ := by
  rw [callF_is (fn := f_row_done) rfl rfl]
  have k1 := valN (d := d + 3) hi hs
  have p0 : (0 : Int) < (xs.length : Int) + 1 := by omega
  simp [f_row_done, hmV hi, k1, p0, show okSize 0 = true from rfl, run1, run2, run3, recv2, recv3, recv3b, recvM, runIdx, seqOf, lstOf, dctOf, oIdxL, oIdxD, entOf, atI, ixN, part, runCut, bindT, runCmp, runIn, flat, deq, datOf, inD, inT, oLen, cmpInt, cmpI, oAdd, oSub, newLst, frzIt, getPl, putPl, muOf, isK, runMu, muD, runISet, oGet, oGetD, List.lookup, fput, kcls]
theorem c_row_first (hi : h[i]? = some (cell s p)) (hz : p.m.length < sizeLine) (hz2 : s.held.length < sizeLine) (ok : s.RowsOk) (hy : ts.length ≤ 1000) :
    Out (callF prog (d + 5) "row_done" [.ref i, .str wFirst, .lst (.str k :: ts.map .str)] h) h i p (firstP s k ts) := by
  unfold Out firstP onRow
  have hh := set_id hi
  have p0 : (0 : Int) < (ts.length : Int) + 1 := by omega
  cases e : s.row k with
  | none => simp only [ts_nil, hh]; exact c_row_none hi e
  | some row =>
    rw [callF_is (fn := f_row_done) rfl rfl]
    have k1 := valS (d := d + 3) hi e
    have k2 := c_put_first (d := d) (k := k) (row := row) (ts := ts) hi hz hz2 (by have := ok k row e; omega) hy
    unfold Out at k2
    have g1 : okSize ts.length = true := ok_of (by omega)
    simp only []
    generalize rowPut s k (ts.reverse ++ row) = r at *
    simp [f_row_done, hmV hi, k1, p0, show okSize 0 = true from rfl, cut1D, g1, k2, run1, run2, run3, recv2, recv3, recv3b, recvM, runIdx, seqOf, lstOf, dctOf, oIdxL, oIdxD, entOf, atI, ixN, part, runCut, bindT, runCmp, runIn, flat, deq, datOf, inD, inT, oLen, cmpInt, cmpI, oAdd, oSub, newLst, frzIt, getPl, putPl, muOf, isK, runMu, muD, runISet, oGet, oGetD, List.lookup, fput, kcls]
theorem c_row_last (hi : h[i]? = some (cell s p)) (hz : p.m.length < sizeLine) (hz2 : s.held.length < sizeLine) (ok : s.RowsOk) (hy : ts.length ≤ 1000) :
    Out (callF prog (d + 5) "row_done" [.ref i, .str wLast, .lst (.str k :: ts.map .str)] h) h i p (lastP s k ts) := by
  unfold Out lastP onRow
  have hh := set_id hi
  have p0 : (0 : Int) < (ts.length : Int) + 1 := by omega
  cases e : s.row k with
  | none => simp only [ts_nil, hh]; exact c_row_none hi e
  | some row =>
    rw [callF_is (fn := f_row_done) rfl rfl]
    have k1 := valS (d := d + 3) hi e
    have k2 := c_put_last (d := d) (k := k) (row := row) (ts := ts) hi hz hz2 (by have := ok k row e; omega) hy
    unfold Out at k2
    have g1 : okSize ts.length = true := ok_of (by omega)
    simp only []
    generalize rowPut s k (row ++ ts) = r at *
    simp [f_row_done, hmV hi, k1, p0, show okSize 0 = true from rfl, cut1D, g1, k2, run1, run2, run3, recv2, recv3, recv3b, recvM, runIdx, seqOf, lstOf, dctOf, oIdxL, oIdxD, entOf, atI, ixN, part, runCut, bindT, runCmp, runIn, flat, deq, datOf, inD, inT, oLen, cmpInt, cmpI, oAdd, oSub, newLst, frzIt, getPl, putPl, muOf, isK, runMu, muD, runISet, oGet, oGetD, List.lookup, fput, kcls]
theorem c_row_takefirst (hi : h[i]? = some (cell s p)) (hz : p.m.length < sizeLine) (hz2 : s.held.length < sizeLine) (ok : s.RowsOk) :
    Out (callF prog (d + 5) "row_done" [.ref i, .str wTakefirst, .lst [.str k]] h) h i p (takefirstP s k) := by
  unfold Out takefirstP onRow
  have hh := set_id hi
  cases e : s.row k with
  | none => simp only [ts_nil, hh]; exact c_row_none hi e
  | some row =>
    rw [callF_is (fn := f_row_done) rfl rfl]
    have k1 := valS (d := d + 3) hi e
    have k2 := c_take_first (d := d) (k := k) (row := row) hi hz hz2 (by have := ok k row e; omega)
    unfold Out at k2
    simp only []
    generalize takeF s k row = r at *
    simp [f_row_done, hmV hi, k1, show okSize 0 = true from rfl, k2, run1, run2, run3, recv2, recv3, recv3b, recvM, runIdx, seqOf, lstOf, dctOf, oIdxL, oIdxD, entOf, atI, ixN, part, runCut, bindT, runCmp, runIn, flat, deq, datOf, inD, inT, oLen, cmpInt, cmpI, oAdd, oSub, newLst, frzIt, getPl, putPl, muOf, isK, runMu, muD, runISet, oGet, oGetD, List.lookup, fput, kcls]
theorem c_row_takelast (hi : h[i]? = some (cell s p)) (hz : p.m.length < sizeLine) (hz2 : s.held.length < sizeLine) (ok : s.RowsOk) :
    Out (callF prog (d + 5) "row_done" [.ref i, .str wTakelast, .lst [.str k]] h) h i p (takelastP s k) := by
  unfold Out takelastP onRow
  have hh := set_id hi
  cases e : s.row k with
  | none => simp only [ts_nil, hh]; exact c_row_none hi e
  | some row =>
    rw [callF_is (fn := f_row_done) rfl rfl]
    have k1 := valS (d := d + 3) hi e
    have k2 := c_take_last (d := d) (k := k) (row := row) hi hz hz2 (by have := ok k row e; omega)
    unfold Out at k2
    simp only []
    generalize takeL s k row = r at *
    simp [f_row_done, hmV hi, k1, show okSize 0 = true from rfl, k2, run1, run2, run3, recv2, recv3, recv3b, recvM, runIdx, seqOf, lstOf, dctOf, oIdxL, oIdxD, entOf, atI, ixN, part, runCut, bindT, runCmp, runIn, flat, deq, datOf, inD, inT, oLen, cmpInt, cmpI, oAdd, oSub, newLst, frzIt, getPl, putPl, muOf, isK, runMu, muD, runISet, oGet, oGetD, List.lookup, fput, kcls]
theorem c_row_many (hi : h[i]? = some (cell s p)) : Out (callF prog (d + 5) "row_done" [.ref i, .str wMany, .lst [.str k]] h) h i p (manyP s k) := by
  unfold Out manyP onRow
  have hh := set_id hi
  cases e : s.row k with
  | none => simp only [ts_nil, hh]; exact c_row_none hi e
  | some row =>
    rw [callF_is (fn := f_row_done) rfl rfl]
    have k1 := valS (d := d + 3) hi e
    simp [f_row_done, hmV hi, k1, show okSize 0 = true from rfl, hh, run1, run2, run3, recv2, recv3, recv3b, recvM, runIdx, seqOf, lstOf, dctOf, oIdxL, oIdxD, entOf, atI, ixN, part, runCut, bindT, runCmp, runIn, flat, deq, datOf, inD, inT, oLen, cmpInt, cmpI, oAdd, oSub, newLst, frzIt, getPl, putPl, muOf, isK, runMu, muD, runISet, oGet, oGetD, List.lookup, fput, kcls]
theorem c_row_carry (hi : h[i]? = some (cell s p)) (hz : p.m.length + 2 < sizeLine) (hz2 : s.held.length + 2 < sizeLine) (ok : s.RowsOk) :
    Out (callF prog (d + 6) "row_done" [.ref i, .str wCarry, .lst [.str k, .str o]] h) h i p (carryP s k o) := by
  unfold Out carryP onRow
  have hh := set_id hi
  cases e : s.row k with
  | none => simp only [ts_nil, hh]; exact c_row_none (d := d + 1) hi e
  | some row =>
    rw [callF_is (fn := f_row_done) rfl rfl]
    have k1 := valS (d := d + 4) hi e
    have k2 := c_carried (d := d) (k := k) (o := o) hi hz hz2 ok e
    unfold Out at k2
    simp only []
    generalize carryO s k o row = r at *
    simp [f_row_done, hmV hi, k1, show okSize 0 = true from rfl, k2, run1, run2, run3, recv2, recv3, recv3b, recvM, runIdx, seqOf, lstOf, dctOf, oIdxL, oIdxD, entOf, atI, ixN, part, runCut, bindT, runCmp, runIn, flat, deq, datOf, inD, inT, oLen, cmpInt, cmpI, oAdd, oSub, newLst, frzIt, getPl, putPl, muOf, isK, runMu, muD, runISet, oGet, oGetD, List.lookup, fput, kcls]
theorem c_row_slice {f l : T} (hi : h[i]? = some (cell s p)) (ok : s.RowsOk) : Out (callF prog (d + 5) "row_done" [.ref i, .str wSlice, .lst [.str k, .str f, .str l]] h) h i p (sliceWP s k f l) := by
  unfold Out sliceWP onRow
  have hh := set_id hi
  cases e : s.row k with
  | none => simp only [ts_nil, hh]; exact c_row_none hi e
  | some row =>
    rw [callF_is (fn := f_row_done) rfl rfl]
    have k1 := valS (d := d + 3) hi e
    have hl := ok k row e
    unfold slD
    cases e1 : numIn f with
    | none => simp [f_row_done, hmV hi, k1, show okSize 0 = true from rfl, hh, c_number_in, e1, numD, run1, run2, run3, recv2, recv3, recv3b, recvM, runIdx, seqOf, lstOf, dctOf, oIdxL, oIdxD, entOf, atI, ixN, part, runCut, bindT, runCmp, runIn, flat, deq, datOf, inD, inT, oLen, cmpInt, cmpI, oAdd, oSub, newLst, frzIt, getPl, putPl, muOf, isK, runMu, muD, runISet, oGet, oGetD, List.lookup, fput, kcls]
    | some a =>
      cases e2 : numIn l with
      | none => simp [f_row_done, hmV hi, k1, show okSize 0 = true from rfl, hh, c_number_in, e1, e2, numD, run1, run2, run3, recv2, recv3, recv3b, recvM, runIdx, seqOf, lstOf, dctOf, oIdxL, oIdxD, entOf, atI, ixN, part, runCut, bindT, runCmp, runIn, flat, deq, datOf, inD, inT, oLen, cmpInt, cmpI, oAdd, oSub, newLst, frzIt, getPl, putPl, muOf, isK, runMu, muD, runISet, oGet, oGetD, List.lookup, fput, kcls]
      | some b =>
        have k2 := c_between (d := d + 3) (h := h) (xs := row.map .str) (f := a) (l := b) (by simp; omega)
        have k3 := c_texts_row (d := d + 3) (h := h) (xs := sliceP (row.map .str) a b) (by have := slice_len (xs := row.map D.str) (f := a) (l := b); simp at this; simp [sizeLine]; omega)
        simp [f_row_done, hmV hi, k1, show okSize 0 = true from rfl, hh, c_number_in, e1, e2, numD, k2, k3, run1, run2, run3, recv2, recv3, recv3b, recvM, runIdx, seqOf, lstOf, dctOf, oIdxL, oIdxD, entOf, atI, ixN, part, runCut, bindT, runCmp, runIn, flat, deq, datOf, inD, inT, oLen, cmpInt, cmpI, oAdd, oSub, newLst, frzIt, getPl, putPl, muOf, isK, runMu, muD, runISet, oGet, oGetD, List.lookup, fput, kcls]
end
end KW.Pl
/-! KwG7: deeds on sets. -/
namespace KW.Pl
abbrev SetM := List (T × Unit)
/-- the set a key has: none of another kind -/
def KV.st (s : KV) (k : T) : Option SetM := match tfind k s.held with
  | none => some []
  | some (.set m) => some m
  | _ => none
def setO : Option SetM → D
  | some m => .dct (cD uD m)
  | none => .non
abbrev wIn : T := [105, 110]
abbrev wOut : T := [111, 117, 116]
abbrev wWithin : T := [119, 105, 116, 104, 105, 110]
abbrev wAll : T := [97, 108, 108]
abbrev wBoth : T := [98, 111, 116, 104]
abbrev wEither : T := [101, 105, 116, 104, 101, 114]
abbrev wLess : T := [108, 101, 115, 115]
def puts (m : SetM) (ts : List T) : SetM := ts.foldl (fun m t => tput t () m) m
def dels {α : Type} (m : List (T × α)) (ts : List T) : List (T × α) := ts.foldl (fun m t => tdel t m) m
abbrev keysT {α : Type} (m : List (T × α)) : List T := m.map (·.1)
def onSet (s : KV) (k : T) (f : SetM → Res) : Res := match s.st k with
  | none => ⟨s, [], dKind⟩
  | some m => f m
def inR (s : KV) (k : T) (ts : List T) (m : SetM) : Res := if (puts m ts).length > 200 then ⟨s, [], dLong⟩
  else if (puts m ts).length > m.length then s.keepR k (.set (puts m ts)) (dNum ((puts m ts).length - m.length : Int)) else ⟨s, [], dNum ((puts m ts).length - m.length : Int)⟩
def outR (s : KV) (k : T) (ts : List T) (m : SetM) : Res := if (dels m ts).length < m.length then s.keepR k (.set (dels m ts)) (dNum (m.length - (dels m ts).length : Int)) else ⟨s, [], dNum (m.length - (dels m ts).length : Int)⟩
def inP (s : KV) (k : T) (ts : List T) : Res := onSet s k (inR s k ts)
def outP (s : KV) (k : T) (ts : List T) : Res := onSet s k (outR s k ts)
def withinP (s : KV) (k t : T) : Res := onSet s k fun m => ⟨s, [], numB (tfind t m).isSome⟩
def allP (s : KV) (k : T) : Res := onSet s k fun m => ⟨s, [], rowT (sortT (keysT m))⟩
def bothL (m o : SetM) : List T := (keysT m).filter fun t => (tfind t o).isSome
def lessL (m o : SetM) : List T := (keysT m).filter fun t => !(tfind t o).isSome
def eitherL (m o : SetM) : List T := keysT m ++ lessL o m
def twoR (s : KV) (ts : List T) : Res := ⟨s, [], if ts.length > 200 then dLong else rowT (sortT ts)⟩
def onTwo (s : KV) (k o : T) (f : SetM → SetM → List T) : Res := match s.st k, s.st o with
  | some m, some n => twoR s (f m n)
  | _, _ => ⟨s, [], dKind⟩
def bothP (s : KV) (k o : T) : Res := onTwo s k o bothL
def lessP (s : KV) (k o : T) : Res := onTwo s k o lessL
def eitherP (s : KV) (k o : T) : Res := onTwo s k o eitherL
def KV.SetsOk (s : KV) : Prop := ∀ k m, s.st k = some m → m.length ≤ 200 ∧ (keysT m).Nodup
theorem KV.Ok.sets {s : KV} {n : Nat} (I : s.Ok n) : s.SetsOk := fun k ts e => by
  unfold KV.st at e
  split at e
  · cases e; simp [keysT]
  · rename_i e2
    cases e
    exact (I.vs _ (tfind_mem e2)).st _ rfl
  · cases e
theorem puts_len : ∀ (ts : List T) (m : SetM), (puts m ts).length ≤ m.length + ts.length
  | [], _ => Nat.le_refl _
  | t :: r, m => by
    have h1 := puts_len r (tput t () m)
    have h2 := tput_len_le t () m
    show (puts (tput t () m) r).length ≤ _
    rw [List.length_cons]
    omega
theorem dels_len {α : Type} : ∀ (ts : List T) (m : List (T × α)), (dels m ts).length ≤ m.length
  | [], _ => Nat.le_refl _
  | t :: r, m => Nat.le_trans (dels_len r (tdel t m)) (tdel_len _ _)
section
variable {d : Nat} {h : List Cell} {i : Nat} {s : KV} {p : Stp} {k o t w : T} {m n : SetM} {ts : List T}
theorem valSet (hi : h[i]? = some (cell s p)) : callF prog (d + 1) "Store.value" [.ref i, .str k, .str setK, .dct []] h = .ok (.val (setO (s.st k))) ⟨[], h⟩ := by
  rw [c_value hi]
  unfold KV.st
  cases e : tfind k s.held with
  | none => rfl
  | some v => cases v <;> simp [Val.kd, Val.pd, setO]
theorem c_keepS (hi : h[i]? = some (cell s p)) (hz : p.m.length < sizeLine) (hz2 : s.held.length < sizeLine) (m : SetM) :
    callF prog (d + 3) "Store.keep" [.ref i, .str k, .str setK, .dct (cD uD m)] h = .ok (.val .non) ⟨[], h.set i (cell (s.keepV k (.set m)) (p.ts (s.keepT k (.set m))))⟩ := c_keep (v := .set m) hi hz hz2
theorem in_go {C : CallF} {x0 x1 x2 x3 : Option SV} : ∀ (ts : List T) (m : SetM) (x5 : Option SV), m.length + ts.length < sizeLine → ∃ y, forLoop [5] (runB C b_put_in_sets_0) (ts.map .str) ⟨[x0, x1, x2, x3, some (.own (.dct (cD uD m))), x5], h⟩ = .ok .next ⟨[x0, x1, x2, x3, some (.own (.dct (cD uD (puts m ts)))), y], h⟩
  | [], m, x5, _ => ⟨x5, rfl⟩
  | t :: r, m, x5, hl => by
    have h2 := tput_len_le t () m
    rw [List.length_cons] at hl
    obtain ⟨y, e⟩ := in_go (C := C) (x0 := x0) (x1 := x1) (x2 := x2) (x3 := x3) r (tput t () m) (some (.val (.str t))) (by omega)
    refine ⟨y, ?_⟩
    have g : m.length < sizeLine := by omega
    rw [List.map_cons, forLoop]
    have e1 : runB C b_put_in_sets_0 ⟨[x0, x1, x2, x3, some (.own (.dct (cD uD m))), some (.val (.str t))], h⟩ = .ok .next ⟨[x0, x1, x2, x3, some (.own (.dct (cD uD (tput t () m)))), some (.val (.str t))], h⟩ := by
      simp [runB, b_put_in_sets_0, runISet, getPl, putPl, g]
    simp only [bindT, List.set_cons_succ, List.set_cons_zero]
    rw [e1, bind_ok]
    exact e
theorem popD_cD {α : Type} (g : α → D) (k : T) (l : List (T × α)) (z : D) : muD (plainEs (cD g l)) .popD [.str k, z] = some (((tfind k l).map fun v => SV.val (g v)).getD (.val z), plainEs (cD g (tdel k l))) := by
  have hp := kfind_plain (.inr k) (cD g l)
  rw [kfind_cD] at hp
  have hd := kdel_plain (.inr k) (cD g l)
  rw [kdel_cD] at hd
  simp only [muD, keyOf, Option.map_some, hp]
  cases e : tfind k l with
  | none => rw [tdel_none e]; rfl
  | some v => simp only [Option.map_some, Option.getD_some]; exact congrArg some (Prod.ext rfl hd)
theorem out_go {C : CallF} {x0 x1 x2 x3 : Option SV} : ∀ (ts : List T) (m : SetM) (x5 : Option SV), ∃ y, forLoop [5] (runB C b_taken_out_0) (ts.map .str) ⟨[x0, x1, x2, x3, some (.own (.dct (cD uD m))), x5], h⟩ = .ok .next ⟨[x0, x1, x2, x3, some (.own (.dct (cD uD (dels m ts)))), y], h⟩
  | [], m, x5 => ⟨x5, rfl⟩
  | t :: r, m, x5 => by
    obtain ⟨y, e⟩ := out_go (C := C) (x0 := x0) (x1 := x1) (x2 := x2) (x3 := x3) r (tdel t m) (some (.val (.str t)))
    refine ⟨y, ?_⟩
    rw [List.map_cons, forLoop]
    have e1 : runB C b_taken_out_0 ⟨[x0, x1, x2, x3, some (.own (.dct (cD uD m))), some (.val (.str t))], h⟩ = .ok .next ⟨[x0, x1, x2, x3, some (.own (.dct (cD uD (tdel t m)))), some (.val (.str t))], h⟩ := by
      have pd := popD_cD uD t m .non
      simp only [plainEs] at pd
      simp [runB, b_taken_out_0, recvM, lstOf, dctOf, runMu, getPl, putPl, pd, -unSV]
    simp only [bindT, List.set_cons_succ, List.set_cons_zero]
    rw [e1, bind_ok]
    exact e
theorem c_put_in (hi : h[i]? = some (cell s p)) (hz : p.m.length < sizeLine) (hz2 : s.held.length < sizeLine) (hl : m.length ≤ 200) (hy : ts.length ≤ 1000) :
    Out (callF prog (d + 4) "put_in_sets" [.ref i, .str k, .dct (cD uD m), .lst (ts.map .str)] h) h i p (inR s k ts m) := by
  unfold Out
  rw [callF_is (fn := f_put_in_sets) rfl rfl]
  have hh := set_id hi
  have k1 := c_keepS (d := d) (k := k) hi hz hz2 (puts m ts)
  obtain ⟨y, e⟩ := in_go (C := callF prog (d + 3)) (h := h) (x0 := some (.val (.ref i))) (x1 := some (.val (.str k))) (x2 := some (.val (.dct (cD uD m)))) (x3 := some (.val (.lst (ts.map .str)))) ts m none (by simp [sizeLine]; omega)
  unfold inR
  generalize puts m ts = l at *
  by_cases z : 200 < l.length
  · have z2 : (200 : Int) < (l.length : Int) := by omega
    simp [f_put_in_sets, oCopy, e, z, z2, hh, run1, run2, run3, recv2, recv3, recv3b, recvM, runIdx, seqOf, lstOf, dctOf, oIdxL, oIdxD, entOf, atI, ixN, part, runCut, bindT, runCmp, runIn, flat, deq, datOf, inD, inT, oLen, cmpInt, cmpI, oAdd, oSub, newLst, frzIt, getPl, putPl, muOf, isK, runMu, muD, runISet, oGet, oGetD, List.lookup, fput, kcls]
  · have z2 : ¬ (200 : Int) < (l.length : Int) := by omega
    by_cases y2 : m.length < l.length
    · have y3 : (m.length : Int) < (l.length : Int) := by omega
      simp [f_put_in_sets, oCopy, e, z, z2, y2, y3, hh, hmK hi, k1, KV.keepR, run1, run2, run3, recv2, recv3, recv3b, recvM, runIdx, seqOf, lstOf, dctOf, oIdxL, oIdxD, entOf, atI, ixN, part, runCut, bindT, runCmp, runIn, flat, deq, datOf, inD, inT, oLen, cmpInt, cmpI, oAdd, oSub, newLst, frzIt, getPl, putPl, muOf, isK, runMu, muD, runISet, oGet, oGetD, List.lookup, fput, kcls]
    · have y3 : ¬ (m.length : Int) < (l.length : Int) := by omega
      simp [f_put_in_sets, oCopy, e, z, z2, y2, y3, hh, run1, run2, run3, recv2, recv3, recv3b, recvM, runIdx, seqOf, lstOf, dctOf, oIdxL, oIdxD, entOf, atI, ixN, part, runCut, bindT, runCmp, runIn, flat, deq, datOf, inD, inT, oLen, cmpInt, cmpI, oAdd, oSub, newLst, frzIt, getPl, putPl, muOf, isK, runMu, muD, runISet, oGet, oGetD, List.lookup, fput, kcls]
theorem c_taken_out (hi : h[i]? = some (cell s p)) (hz : p.m.length < sizeLine) (hz2 : s.held.length < sizeLine) :
    Out (callF prog (d + 4) "taken_out" [.ref i, .str k, .dct (cD uD m), .lst (ts.map .str)] h) h i p (outR s k ts m) := by
  unfold Out
  rw [callF_is (fn := f_taken_out) rfl rfl]
  have hh := set_id hi
  have k1 := c_keepS (d := d) (k := k) hi hz hz2 (dels m ts)
  obtain ⟨y, e⟩ := out_go (C := callF prog (d + 3)) (h := h) (x0 := some (.val (.ref i))) (x1 := some (.val (.str k))) (x2 := some (.val (.dct (cD uD m)))) (x3 := some (.val (.lst (ts.map .str)))) ts m none
  unfold outR
  generalize dels m ts = l at *
  by_cases y2 : l.length < m.length
  · have y3 : (l.length : Int) < (m.length : Int) := by omega
    simp [f_taken_out, oCopy, e, y2, y3, hh, hmK hi, k1, KV.keepR, run1, run2, run3, recv2, recv3, recv3b, recvM, runIdx, seqOf, lstOf, dctOf, oIdxL, oIdxD, entOf, atI, ixN, part, runCut, bindT, runCmp, runIn, flat, deq, datOf, inD, inT, oLen, cmpInt, cmpI, oAdd, oSub, newLst, frzIt, getPl, putPl, muOf, isK, runMu, muD, runISet, oGet, oGetD, List.lookup, fput, kcls]
  · have y3 : ¬ (l.length : Int) < (m.length : Int) := by omega
    simp [f_taken_out, oCopy, e, y2, y3, hh, run1, run2, run3, recv2, recv3, recv3b, recvM, runIdx, seqOf, lstOf, dctOf, oIdxL, oIdxD, entOf, atI, ixN, part, runCut, bindT, runCmp, runIn, flat, deq, datOf, inD, inT, oLen, cmpInt, cmpI, oAdd, oSub, newLst, frzIt, getPl, putPl, muOf, isK, runMu, muD, runISet, oGet, oGetD, List.lookup, fput, kcls]
theorem keys_map {α : Type} (g : α → D) (l : List (T × α)) : (cD g l).map (fun q => keyD q.1) = (keysT l).map .str := by
  unfold cD keysT
  rw [List.map_map, List.map_map]
  rfl
theorem keys_map' {α : Type} (g : α → D) (l : List (T × α)) : (plainEs (cD g l)).map (fun q => keyD q.1) = (keysT l).map .str := by
  rw [← keys_map g]
  simp [plainEs, List.map_map, Function.comp_def]
theorem c_of_both (hl : m.length ≤ 200) : callF prog (d + 1) "of_two" [.str wBoth, .dct (cD uD m), .dct (cD uD n)] h = .ok (.own (.lst ((bothL m n).map .str))) ⟨[], h⟩ := by
  rw [callF_is (fn := f_of_two) rfl rfl]
  have hc := comp_strs (C := callF prog d) (cs := [.p2 (.cmp .isIn) (.var 3) (.var 2)]) (σ := [some (.val (.str wBoth)), some (.val (.dct (cD uD m))), some (.val (.dct (cD uD n))), none]) (h := h) (i := 3) (ts := keysT m) (b := fun t => (tfind t n).isSome) (mu := false) (fun z => by cases z) rfl (fun t ht => by
    cases e : tfind t n <;> simp [e, run1, run2, run3, recv2, recv3, recv3b, recvM, runIdx, seqOf, lstOf, dctOf, oIdxL, oIdxD, entOf, atI, ixN, part, runCut, bindT, runCmp, runIn, flat, deq, datOf, inD, inT, oLen, cmpInt, cmpI, oAdd, oSub, newLst, frzIt, getPl, putPl, muOf, isK, runMu, muD, runISet, oGet, oGetD, List.lookup, fput, kcls]) (by simp; omega)
  have km := keys_map' uD m
  simp only [plainEs] at km
  simp [f_of_two, run2, recv2, runCmp, datOf, dctOf, muOf, -List.map_map, -keyD, km, hc, bothL]
theorem c_of_less (hl : m.length ≤ 200) : callF prog (d + 1) "of_two" [.str wLess, .dct (cD uD m), .dct (cD uD n)] h = .ok (.own (.lst ((lessL m n).map .str))) ⟨[], h⟩ := by
  rw [callF_is (fn := f_of_two) rfl rfl]
  have hc := comp_strs (C := callF prog d) (cs := [.p2 (.cmp .notIn) (.var 3) (.var 2)]) (σ := [some (.val (.str wLess)), some (.val (.dct (cD uD m))), some (.val (.dct (cD uD n))), none]) (h := h) (i := 3) (ts := keysT m) (b := fun t => !(tfind t n).isSome) (mu := false) (fun z => by cases z) rfl (fun t ht => by
    cases e : tfind t n <;> simp [e, run1, run2, run3, recv2, recv3, recv3b, recvM, runIdx, seqOf, lstOf, dctOf, oIdxL, oIdxD, entOf, atI, ixN, part, runCut, bindT, runCmp, runIn, flat, deq, datOf, inD, inT, oLen, cmpInt, cmpI, oAdd, oSub, newLst, frzIt, getPl, putPl, muOf, isK, runMu, muD, runISet, oGet, oGetD, List.lookup, fput, kcls]) (by simp; omega)
  have km := keys_map' uD m
  simp only [plainEs] at km
  simp [f_of_two, run2, recv2, runCmp, datOf, dctOf, muOf, -List.map_map, -keyD, km, hc, lessL]
theorem c_of_either (hl : m.length ≤ 200) (hl2 : n.length ≤ 200) : callF prog (d + 1) "of_two" [.str wEither, .dct (cD uD m), .dct (cD uD n)] h = .ok (.own (.lst ((eitherL m n).map .str))) ⟨[], h⟩ := by
  rw [callF_is (fn := f_of_two) rfl rfl]
  have hc := comp_strs (C := callF prog d) (cs := [.p2 (.cmp .notIn) (.var 3) (.var 1)]) (σ := [some (.val (.str wEither)), some (.val (.dct (cD uD m))), some (.val (.dct (cD uD n))), none]) (h := h) (i := 3) (ts := keysT n) (b := fun t => !(tfind t m).isSome) (mu := false) (fun z => by cases z) rfl (fun t ht => by
    cases e : tfind t m <;> simp [e, run1, run2, run3, recv2, recv3, recv3b, recvM, runIdx, seqOf, lstOf, dctOf, oIdxL, oIdxD, entOf, atI, ixN, part, runCut, bindT, runCmp, runIn, flat, deq, datOf, inD, inT, oLen, cmpInt, cmpI, oAdd, oSub, newLst, frzIt, getPl, putPl, muOf, isK, runMu, muD, runISet, oGet, oGetD, List.lookup, fput, kcls]) (by simp; omega)
  have km := keys_map' uD m
  have kn := keys_map' uD n
  simp only [plainEs] at km kn
  have g1 : okSize m.length = true := ok_of (by omega)
  have g2 : okSize (m.length + (lessL n m).length) = true := ok_of (by
    have : (lessL n m).length ≤ (keysT n).length := List.length_filter_le _ _
    simp at this
    omega)
  simp [f_of_two, run1, oKeys, run2, recv2, runCmp, datOf, dctOf, muOf, -List.map_map, -keyD, km, kn, hc, newLst, g1, oAdd, lstOf, eitherL]
  simp [lessL] at g2
  simp [lessL, g2]
theorem sortable_str {xs : List T} : sortable (xs.map .str) = true := by
  cases xs with
  | nil => rfl
  | cons x r =>
    show allSrt .s ((x :: r).map .str) = true
    unfold allSrt
    rw [List.all_eq_true]
    intro y hy
    obtain ⟨t, _, rfl⟩ := List.mem_map.mp hy
    rfl
theorem sort_strs {xs : List T} (hl : xs.length ≤ 100000) : oSort (xs.map .str) = some (.own (.lst ((sortT xs).map .str))) := by
  unfold oSort
  rw [if_pos sortable_str, sortD_str, newLst, if_pos]
  exact ok_of (by rw [List.length_map]; unfold sortT; rw [sortB_len]; exact hl)
theorem sort_keys {α : Type} (g : α → D) {hh : List Cell} {l : List (T × α)} (hl : l.length ≤ 100000) : (oKeys hh (.val (.dct (cD g l)))).bind oSort = some (.own (.lst ((sortT (keysT l)).map .str))) := by
  have e : oKeys hh (.val (.dct (cD g l))) = some ((keysT l).map .str) := by
    have := keys_map' g l
    simp only [oKeys, dctOf, Option.map_some]
    rw [this]
  rw [e]
  exact sort_strs (by simpa using hl)
theorem c_texts_rowT (hl : ts.length ≤ 100000) : callF prog (d + 1) "texts_row" [.lst (ts.map .str)] h = .ok (.val (rowT ts)) ⟨[], h⟩ := c_texts_row (by simp [sizeLine]; omega)
end
end KW.Pl
/-! KwG8: deeds on sets by their words. -/
namespace KW.Pl
section
variable {d : Nat} {h : List Cell} {i : Nat} {s : KV} {p : Stp} {k o t w : T} {m n : SetM} {ts : List T}
theorem two_is (w : T) : decide (w ∈ kl_OF_TWO) = (decide (w = wBoth) || (decide (w = wEither) || decide (w = wLess))) := by
  simp [kl_OF_TWO]
theorem c_set_none {xs : List D} (hw : w = wIn ∨ w = wOut ∨ w = wWithin ∨ w = wAll) (hi : h[i]? = some (cell s p)) (hs : s.st k = none) : callF prog (d + 5) "set_done" [.ref i, .str w, .lst (.str k :: xs)] h = .ok (.val dKind) ⟨[], h⟩ := by
  rw [callF_is (fn := f_set_done) rfl rfl]
  have k1 := valSet (d := d + 3) (k := k) hi
  rw [hs] at k1
  have p0 : (0 : Int) < (xs.length : Int) + 1 := by omega
  rcases hw with rfl | rfl | rfl | rfl <;> simp [f_set_done, hmV hi, k1, setO, p0, kl_OF_TWO, run1, run2, run3, recv2, recv3, recv3b, recvM, runIdx, seqOf, lstOf, dctOf, oIdxL, oIdxD, entOf, atI, ixN, part, runCut, bindT, runCmp, runIn, flat, deq, datOf, inD, inT, oLen, cmpInt, cmpI, oAdd, oSub, newLst, frzIt, getPl, putPl, muOf, isK, runMu, muD, runISet, oGet, oGetD, List.lookup, fput, kcls]
theorem c_set_in (hi : h[i]? = some (cell s p)) (hz : p.m.length < sizeLine) (hz2 : s.held.length < sizeLine) (ok : s.SetsOk) (hy : ts.length ≤ 1000) :
    Out (callF prog (d + 5) "set_done" [.ref i, .str wIn, .lst (.str k :: ts.map .str)] h) h i p (inP s k ts) := by
  unfold Out inP onSet
  have hh := set_id hi
  cases e : s.st k with
  | none => simp only [ts_nil, hh]; exact c_set_none (.inl rfl) hi e
  | some m =>
    rw [callF_is (fn := f_set_done) rfl rfl]
    have k1 := valSet (d := d + 3) (k := k) hi
    rw [e] at k1
    have k2 := c_put_in (d := d) (k := k) (m := m) (ts := ts) hi hz hz2 (ok k m e).1 hy
    unfold Out at k2
    have p0 : (0 : Int) < (ts.length : Int) + 1 := by omega
    have g1 : okSize ts.length = true := ok_of (by omega)
    simp only []
    generalize inR s k ts m = r at *
    simp [f_set_done, hmV hi, k1, setO, p0, kl_OF_TWO, cut1D, g1, k2, run1, run2, run3, recv2, recv3, recv3b, recvM, runIdx, seqOf, lstOf, dctOf, oIdxL, oIdxD, entOf, atI, ixN, part, runCut, bindT, runCmp, runIn, flat, deq, datOf, inD, inT, oLen, cmpInt, cmpI, oAdd, oSub, newLst, frzIt, getPl, putPl, muOf, isK, runMu, muD, runISet, oGet, oGetD, List.lookup, fput, kcls]
theorem c_set_out (hi : h[i]? = some (cell s p)) (hz : p.m.length < sizeLine) (hz2 : s.held.length < sizeLine) (hy : ts.length ≤ 1000) :
    Out (callF prog (d + 5) "set_done" [.ref i, .str wOut, .lst (.str k :: ts.map .str)] h) h i p (outP s k ts) := by
  unfold Out outP onSet
  have hh := set_id hi
  cases e : s.st k with
  | none => simp only [ts_nil, hh]; exact c_set_none (.inr (.inl rfl)) hi e
  | some m =>
    rw [callF_is (fn := f_set_done) rfl rfl]
    have k1 := valSet (d := d + 3) (k := k) hi
    rw [e] at k1
    have k2 := c_taken_out (d := d) (k := k) (m := m) (ts := ts) hi hz hz2
    unfold Out at k2
    have p0 : (0 : Int) < (ts.length : Int) + 1 := by omega
    have g1 : okSize ts.length = true := ok_of (by omega)
    simp only []
    generalize outR s k ts m = r at *
    simp [f_set_done, hmV hi, k1, setO, p0, kl_OF_TWO, cut1D, g1, k2, run1, run2, run3, recv2, recv3, recv3b, recvM, runIdx, seqOf, lstOf, dctOf, oIdxL, oIdxD, entOf, atI, ixN, part, runCut, bindT, runCmp, runIn, flat, deq, datOf, inD, inT, oLen, cmpInt, cmpI, oAdd, oSub, newLst, frzIt, getPl, putPl, muOf, isK, runMu, muD, runISet, oGet, oGetD, List.lookup, fput, kcls]
theorem c_set_within (hi : h[i]? = some (cell s p)) :
    Out (callF prog (d + 5) "set_done" [.ref i, .str wWithin, .lst [.str k, .str t]] h) h i p (withinP s k t) := by
  unfold Out withinP onSet
  have hh := set_id hi
  cases e : s.st k with
  | none => simp only [ts_nil, hh]; exact c_set_none (.inr (.inr (.inl rfl))) hi e
  | some m =>
    rw [callF_is (fn := f_set_done) rfl rfl]
    have k1 := valSet (d := d + 3) (k := k) hi
    rw [e] at k1
    cases e2 : tfind t m <;> simp [f_set_done, hmV hi, k1, setO, kl_OF_TWO, e2, c_as_number, hh, run1, run2, run3, recv2, recv3, recv3b, recvM, runIdx, seqOf, lstOf, dctOf, oIdxL, oIdxD, entOf, atI, ixN, part, runCut, bindT, runCmp, runIn, flat, deq, datOf, inD, inT, oLen, cmpInt, cmpI, oAdd, oSub, newLst, frzIt, getPl, putPl, muOf, isK, runMu, muD, runISet, oGet, oGetD, List.lookup, fput, kcls]
theorem c_set_all (hi : h[i]? = some (cell s p)) (ok : s.SetsOk) :
    Out (callF prog (d + 5) "set_done" [.ref i, .str wAll, .lst [.str k]] h) h i p (allP s k) := by
  unfold Out allP onSet
  have hh := set_id hi
  cases e : s.st k with
  | none => simp only [ts_nil, hh]; exact c_set_none (.inr (.inr (.inr rfl))) hi e
  | some m =>
    rw [callF_is (fn := f_set_done) rfl rfl]
    have k1 := valSet (d := d + 3) (k := k) hi
    rw [e] at k1
    have hl := (ok k m e).1
    have k2 := fun hh => sort_keys uD (hh := hh) (l := m) (by omega)
    have k3 := c_texts_rowT (d := d + 3) (h := h) (ts := sortT (keysT m)) (by unfold sortT; rw [sortB_len]; simp; omega)
    simp [f_set_done, hmV hi, k1, setO, kl_OF_TWO, run1, run2, recv2, runCmp, datOf, runIdx, seqOf, lstOf, oIdxL, atI, ixN, k2, frzIt, getPl, putPl, k3, hh]
theorem c_two {w : T} {f : SetM → SetM → List T} (hw : w = wBoth ∨ w = wEither ∨ w = wLess) (hi : h[i]? = some (cell s p)) (ok : s.SetsOk)
    (hf : ∀ m n : SetM, m.length ≤ 200 → n.length ≤ 200 → (f m n).length ≤ 400 ∧ callF prog (d + 4) "of_two" [.str w, .dct (cD uD m), .dct (cD uD n)] h = .ok (.own (.lst ((f m n).map .str))) ⟨[], h⟩) :
    Out (callF prog (d + 5) "set_done" [.ref i, .str w, .lst [.str k, .str o]] h) h i p (onTwo s k o f) := by
  unfold Out onTwo
  have hh := set_id hi
  rw [callF_is (fn := f_set_done) rfl rfl]
  have k1 := valSet (d := d + 3) (k := k) hi
  have k2 := valSet (d := d + 3) (k := o) hi
  cases e : s.st k with
  | none =>
    rw [e] at k1
    cases e2 : s.st o <;> rw [e2] at k2 <;> rcases hw with rfl | rfl | rfl <;> simp [f_set_done, hmV hi, k1, k2, setO, kl_OF_TWO, hh, run1, run2, run3, recv2, recv3, recv3b, recvM, runIdx, seqOf, lstOf, dctOf, oIdxL, oIdxD, entOf, atI, ixN, part, runCut, bindT, runCmp, runIn, flat, deq, datOf, inD, inT, oLen, cmpInt, cmpI, oAdd, oSub, newLst, frzIt, getPl, putPl, muOf, isK, runMu, muD, runISet, oGet, oGetD, List.lookup, fput, kcls]
  | some m =>
    rw [e] at k1
    cases e2 : s.st o with
    | none =>
      rw [e2] at k2
      rcases hw with rfl | rfl | rfl <;> simp [f_set_done, hmV hi, k1, k2, setO, kl_OF_TWO, hh, run1, run2, run3, recv2, recv3, recv3b, recvM, runIdx, seqOf, lstOf, dctOf, oIdxL, oIdxD, entOf, atI, ixN, part, runCut, bindT, runCmp, runIn, flat, deq, datOf, inD, inT, oLen, cmpInt, cmpI, oAdd, oSub, newLst, frzIt, getPl, putPl, muOf, isK, runMu, muD, runISet, oGet, oGetD, List.lookup, fput, kcls]
    | some n =>
      rw [e2] at k2
      obtain ⟨l1, k3⟩ := hf m n (ok k m e).1 (ok o n e2).1
      have k4 := sort_strs (xs := f m n) (by omega)
      have k5 := c_texts_rowT (d := d + 3) (h := h) (ts := sortT (f m n)) (by unfold sortT; rw [sortB_len]; omega)
      have l2 : (sortT (f m n)).length = (f m n).length := sortB_len _ _
      simp only [twoR]
      generalize f m n = l at *
      by_cases z : 200 < l.length
      · have z2 : (200 : Int) < (l.length : Int) := by omega
        rcases hw with rfl | rfl | rfl <;> simp [f_set_done, hmV hi, k1, k2, setO, kl_OF_TWO, k3, k4, l2, z, z2, hh, run1, run2, run3, recv2, recv3, recv3b, recvM, runIdx, seqOf, lstOf, dctOf, oIdxL, oIdxD, entOf, atI, ixN, part, runCut, bindT, runCmp, runIn, flat, deq, datOf, inD, inT, oLen, cmpInt, cmpI, oAdd, oSub, newLst, frzIt, getPl, putPl, muOf, isK, runMu, muD, runISet, oGet, oGetD, List.lookup, fput, kcls]
      · have z2 : ¬ (200 : Int) < (l.length : Int) := by omega
        rcases hw with rfl | rfl | rfl <;> simp [f_set_done, hmV hi, k1, k2, setO, kl_OF_TWO, k3, k4, l2, z, z2, k5, hh, run1, run2, run3, recv2, recv3, recv3b, recvM, runIdx, seqOf, lstOf, dctOf, oIdxL, oIdxD, entOf, atI, ixN, part, runCut, bindT, runCmp, runIn, flat, deq, datOf, inD, inT, oLen, cmpInt, cmpI, oAdd, oSub, newLst, frzIt, getPl, putPl, muOf, isK, runMu, muD, runISet, oGet, oGetD, List.lookup, fput, kcls]
theorem filter_le {α : Type} {p : α → Bool} {l : List α} {n : Nat} (h : l.length ≤ n) : (l.filter p).length ≤ n := Nat.le_trans (List.length_filter_le _ _) h
theorem c_set_both (hi : h[i]? = some (cell s p)) (ok : s.SetsOk) : Out (callF prog (d + 5) "set_done" [.ref i, .str wBoth, .lst [.str k, .str o]] h) h i p (bothP s k o) :=
  c_two (.inl rfl) hi ok fun m n h1 h2 => ⟨filter_le (by simp; omega), c_of_both h1⟩
theorem c_set_less (hi : h[i]? = some (cell s p)) (ok : s.SetsOk) : Out (callF prog (d + 5) "set_done" [.ref i, .str wLess, .lst [.str k, .str o]] h) h i p (lessP s k o) :=
  c_two (.inr (.inr rfl)) hi ok fun m n h1 h2 => ⟨filter_le (by simp; omega), c_of_less h1⟩
theorem c_set_either (hi : h[i]? = some (cell s p)) (ok : s.SetsOk) : Out (callF prog (d + 5) "set_done" [.ref i, .str wEither, .lst [.str k, .str o]] h) h i p (eitherP s k o) :=
  c_two (.inr (.inl rfl)) hi ok fun m n h1 h2 => ⟨by
    have : (lessL n m).length ≤ 200 := filter_le (by simp; omega)
    unfold eitherL
    rw [List.length_append]
    simp at *
    omega, c_of_either h1 h2⟩
end
end KW.Pl
/-! KwG9: deeds on tables, ranks. -/
namespace KW.Pl
/-- tables and ranks alike -/
structure EK (α : Type) where
  kd : T
  g : α → D
  vl : List (T × α) → Val
  of : KV → T → Option (List (T × α))
  pd : ∀ m, (vl m).pd = .dct (cD g m)
  ld : ∀ m, (vl m).ld = .dct (cD g m)
  kk : ∀ m, (vl m).kd = kd
  ne : ∀ a b, neqD (g a) (g b) = some (!deq (g a) (g b))
  sh : ∀ a, shaped (g a) = true
  nt : ¬ kd = textK
  dt : ∀ a h, datOf h (.val (g a)) = some (g a)
  em : ∀ m, (vl m).emp = m.isEmpty
def KV.tb (s : KV) (k : T) : Option (List (T × T)) := match tfind k s.held with
  | none => some []
  | some (.tab m) => some m
  | _ => none
def KV.rk (s : KV) (k : T) : Option (List (T × Int)) := match tfind k s.held with
  | none => some []
  | some (.rnk m) => some m
  | _ => none
def EK.tab : EK T := ⟨tabK, .str, .tab, KV.tb, fun _ => rfl, fun _ => rfl, fun _ => rfl, fun a b => by simp [deq], fun _ => rfl, by decide, fun _ _ => rfl, fun _ => rfl⟩
def EK.rnk : EK Int := ⟨rankK, .int, .rnk, KV.rk, fun _ => rfl, fun _ => rfl, fun _ => rfl, fun a b => by simp [deq], fun _ => rfl, by decide, fun _ _ => rfl, fun _ => rfl⟩
def dctO {α : Type} (g : α → D) : Option (List (T × α)) → D
  | some m => .dct (cD g m)
  | none => .non
def KV.EntsOk (s : KV) : Prop := (∀ k m, s.tb k = some m → m.length ≤ 100 ∧ (keysT m).Nodup) ∧ ∀ k m, s.rk k = some m → m.length ≤ 100 ∧ (keysT m).Nodup
theorem KV.Ok.ents {s : KV} {n : Nat} (I : s.Ok n) : s.EntsOk := by
  constructor
  · intro k ts e
    unfold KV.tb at e
    split at e
    · cases e; simp [keysT]
    · rename_i e2
      cases e
      exact (I.vs _ (tfind_mem e2)).tb _ rfl
    · cases e
  · intro k ts e
    unfold KV.rk at e
    split at e
    · cases e; simp [keysT]
    · rename_i e2
      cases e
      exact (I.vs _ (tfind_mem e2)).rk _ rfl
    · cases e
section
variable {α : Type} (K : EK α)
def entR (s : KV) (k : T) (nm : T) (v : α) (m : List (T × α)) : Res := match tfind nm m with
  | none => if m.length = 100 then ⟨s, [], dLong⟩ else s.keepR k (K.vl (tput nm v m)) (numB true)
  | some u => if deq (K.g u) (K.g v) = true then ⟨s, [], numB false⟩ else s.keepR k (K.vl (tput nm v m)) (numB false)
def delR (s : KV) (k : T) (ns : List T) (m : List (T × α)) : Res := if (dels m ns).length < m.length then s.keepR k (K.vl (dels m ns)) (dNum (m.length - (dels m ns).length : Int)) else ⟨s, [], dNum (m.length - (dels m ns).length : Int)⟩
def onEnt (s : KV) (k : T) (f : List (T × α) → Res) : Res := match K.of s k with
  | none => ⟨s, [], dKind⟩
  | some m => f m
end
def ltPI (a b : Int × T) : Bool := if a.1 = b.1 then ltT a.2 b.2 else decide (a.1 < b.1)
/-- the names of a rank in their order -/
def ordT (m : List (T × Int)) : List T := (sortB ltPI (m.map fun q => (q.2, q.1))).map (·.2)
def plcT (m : List (T × Int)) (nm : T) : Nat := ((ordT m).findIdx? fun z => decide (z = nm)).getD 0
def fldT (m : List (T × T)) : List T := (sortT (keysT m)).flatMap fun t => [t, (tfind t m).getD []]
abbrev wField : T := [102, 105, 101, 108, 100]
abbrev wAsk : T := [97, 115, 107]
abbrev wNofield : T := [110, 111, 102, 105, 101, 108, 100]
abbrev wFields : T := [102, 105, 101, 108, 100, 115]
abbrev wRank : T := [114, 97, 110, 107]
abbrev wUnrank : T := [117, 110, 114, 97, 110, 107]
abbrev wPlace : T := [112, 108, 97, 99, 101]
abbrev wScore : T := [115, 99, 111, 114, 101]
abbrev wBest : T := [98, 101, 115, 116]
def fieldP (s : KV) (k nm v : T) : Res := onEnt EK.tab s k (entR EK.tab s k nm v)
def nofieldP (s : KV) (k : T) (ns : List T) : Res := onEnt EK.tab s k (delR EK.tab s k ns)
def askP (s : KV) (k nm : T) : Res := onEnt EK.tab s k fun m => ⟨s, [], toldT (tfind nm m)⟩
def fieldsP (s : KV) (k : T) : Res := onEnt EK.tab s k fun m => ⟨s, [], rowT (fldT m)⟩
def rankP (s : KV) (k v nm : T) : Res := onEnt EK.rnk s k fun m => match numIn v with
  | none => ⟨s, [], dNumber⟩
  | some n => entR EK.rnk s k nm n m
def unrankP (s : KV) (k : T) (ns : List T) : Res := onEnt EK.rnk s k (delR EK.rnk s k ns)
def bestP (s : KV) (k f l : T) : Res := onEnt EK.rnk s k fun m => ⟨s, [], slD ((ordT m).map .str) f l⟩
def scoreP (s : KV) (k nm : T) : Res := onEnt EK.rnk s k fun m => ⟨s, [], match tfind nm m with
  | some n => dNum n
  | none => dNone⟩
def placeP (s : KV) (k nm : T) : Res := onEnt EK.rnk s k fun m => ⟨s, [], match tfind nm m with
  | some n => dNum (plcT m nm : Nat)
  | none => dNone⟩
theorem ordT_len (m : List (T × Int)) : (ordT m).length = m.length := by
  unfold ordT
  rw [List.length_map, sortB_len, List.length_map]
section
variable {d : Nat} {h : List Cell} {i : Nat} {s : KV} {p : Stp} {k o t w nm : T} {ts : List T} {α : Type} {K : EK α} {m : List (T × α)} {v : α}
theorem valTab (hi : h[i]? = some (cell s p)) : callF prog (d + 1) "Store.value" [.ref i, .str k, .str tabK, .dct []] h = .ok (.val (dctO .str (s.tb k))) ⟨[], h⟩ := by
  rw [c_value hi]
  unfold KV.tb
  cases e : tfind k s.held with
  | none => rfl
  | some v => cases v <;> simp [Val.kd, Val.pd, dctO]
theorem valRnk (hi : h[i]? = some (cell s p)) : callF prog (d + 1) "Store.value" [.ref i, .str k, .str rankK, .dct []] h = .ok (.val (dctO .int (s.rk k))) ⟨[], h⟩ := by
  rw [c_value hi]
  unfold KV.rk
  cases e : tfind k s.held with
  | none => rfl
  | some v => cases v <;> simp [Val.kd, Val.pd, dctO]
theorem c_keepE (K : EK α) (hi : h[i]? = some (cell s p)) (hz : p.m.length < sizeLine) (hz2 : s.held.length < sizeLine) (m : List (T × α)) :
    callF prog (d + 3) "Store.keep" [.ref i, .str k, .str K.kd, .dct (cD K.g m)] h = .ok (.val .non) ⟨[], h.set i (cell (s.keepV k (K.vl m)) (p.ts (s.keepT k (K.vl m))))⟩ := by
  have := c_keep (d := d) (k := k) (v := K.vl m) hi hz hz2
  rw [K.kk, K.pd] at this
  exact this
theorem eqD_self' {a : D} (h : shaped a = true) (e : deq a a = true) : eqD a a = some true := by
  unfold eqD
  rw [if_pos (by rw [h]; rfl), e]
theorem c_with_entry (K : EK α) (hi : h[i]? = some (cell s p)) (hz : p.m.length < sizeLine) (hz2 : s.held.length < sizeLine) (hl : m.length ≤ 100) :
    Out (callF prog (d + 4) "with_entry" [.ref i, .str k, .str K.kd, .dct (cD K.g m), .str nm, K.g v] h) h i p (entR K s k nm v m) := by
  unfold Out
  rw [callF_is (fn := f_with_entry) rfl rfl]
  have k1 := c_keepE (d := d) (k := k) K hi hz hz2 (tput nm v m)
  have hh := set_id hi
  have g1 : m.length < sizeLine := by simp [sizeLine]; omega
  have kp := kput_cD K.g nm v m
  unfold entR
  have dv : ∀ h, datOf h (.val (K.g v)) = some (K.g v) := K.dt v
  cases e : tfind nm m with
  | none =>
    by_cases z : m.length = 100
    · have z2 : (m.length : Int) = 100 := by omega
      simp [f_with_entry, e, z, z2, hh, run1, run2, run3, recv2, recv3, recv3b, recvM, runIdx, seqOf, lstOf, dctOf, oIdxL, oIdxD, entOf, atI, ixN, part, runCut, bindT, runCmp, runIn, flat, deq, datOf, inD, inT, oLen, cmpInt, cmpI, oAdd, oSub, newLst, frzIt, getPl, putPl, muOf, isK, runMu, muD, runISet, oGet, oGetD, List.lookup, fput, kcls]
    · have z2 : ¬ (m.length : Int) = 100 := by omega
      simp [f_with_entry, run1, run2, recv2, runCmp, runIn, lstOf, inD, dctOf, e, oLen, seqOf, datOf, z, z2, oCopy, runISet, getPl, putPl, g1, kp, hmK hi, frzIt, k1, c_as_number, KV.keepR]
  | some u =>
    have du := K.dt u
    have ne := K.ne u v
    cases z : deq (K.g u) (K.g v) <;> rw [z] at ne <;>
      simp [f_with_entry, run1, run2, recv2, runCmp, runIn, runIdx, seqOf, oIdxD, entOf, lstOf, inD, dctOf, e, oLen, dv, du, ne, z, oCopy, runISet, getPl, putPl, g1, kp, hmK hi, frzIt, k1, c_as_number, KV.keepR, hh]
theorem wo_goP {C : CallF} {x0 x1 x2 x3 x4 : Option SV} (g : α → D) : ∀ (ns : List T) (l : List (T × α)) (x6 : Option SV), ∃ y, forLoop [6] (runB C b_without_0) (ns.map .str) ⟨[x0, x1, x2, x3, x4, some (.own (.dct (cD g l))), x6], h⟩ = .ok .next ⟨[x0, x1, x2, x3, x4, some (.own (.dct (cD g (dels l ns)))), y], h⟩
  | [], l, x6 => ⟨x6, rfl⟩
  | n :: r, l, x6 => by
    obtain ⟨y, e⟩ := wo_goP (C := C) (x0 := x0) (x1 := x1) (x2 := x2) (x3 := x3) (x4 := x4) g r (tdel n l) (some (.val (.str n)))
    refine ⟨y, ?_⟩
    rw [List.map_cons, forLoop]
    have e1 : runB C b_without_0 ⟨[x0, x1, x2, x3, x4, some (.own (.dct (cD g l))), some (.val (.str n))], h⟩ = .ok .next ⟨[x0, x1, x2, x3, x4, some (.own (.dct (cD g (tdel n l)))), some (.val (.str n))], h⟩ := by
      have pd := popD_cD g n l .non
      simp only [plainEs] at pd
      simp [runB, b_without_0, recvM, lstOf, dctOf, runMu, getPl, putPl, pd, -unSV]
    simp only [bindT, List.set_cons_succ, List.set_cons_zero]
    rw [e1, bind_ok]
    exact e
theorem c_without {ns : List T} (K : EK α) (hi : h[i]? = some (cell s p)) (hz : p.m.length < sizeLine) (hz2 : s.held.length < sizeLine) :
    Out (callF prog (d + 4) "without" [.ref i, .str k, .str K.kd, .dct (cD K.g m), .lst (ns.map .str)] h) h i p (delR K s k ns m) := by
  unfold Out
  rw [callF_is (fn := f_without) rfl rfl]
  have k1 := c_keepE (d := d) (k := k) K hi hz hz2 (dels m ns)
  have hh := set_id hi
  obtain ⟨y, e⟩ := wo_goP (C := callF prog (d + 3)) (h := h) (x0 := some (.val (.ref i))) (x1 := some (.val (.str k))) (x2 := some (.val (.str K.kd))) (x3 := some (.val (.dct (cD K.g m)))) (x4 := some (.val (.lst (ns.map .str)))) K.g ns m none
  unfold delR
  generalize dels m ns = l at *
  by_cases z : l.length < m.length
  · have z2 : (l.length : Int) < (m.length : Int) := by omega
    simp [f_without, oCopy, e, z, z2, hmK hi, k1, KV.keepR, run1, run2, run3, recv2, recv3, recv3b, recvM, runIdx, seqOf, lstOf, dctOf, oIdxL, oIdxD, entOf, atI, ixN, part, runCut, bindT, runCmp, runIn, flat, deq, datOf, inD, inT, oLen, cmpInt, cmpI, oAdd, oSub, newLst, frzIt, getPl, putPl, muOf, isK, runMu, muD, runISet, oGet, oGetD, List.lookup, fput, kcls]
  · have z2 : ¬ (l.length : Int) < (m.length : Int) := by omega
    simp [f_without, oCopy, e, z, z2, hh, run1, run2, run3, recv2, recv3, recv3b, recvM, runIdx, seqOf, lstOf, dctOf, oIdxL, oIdxD, entOf, atI, ixN, part, runCut, bindT, runCmp, runIn, flat, deq, datOf, inD, inT, oLen, cmpInt, cmpI, oAdd, oSub, newLst, frzIt, getPl, putPl, muOf, isK, runMu, muD, runISet, oGet, oGetD, List.lookup, fput, kcls]
/-- pairs of a dict, by its keys -/
theorem comp_pairs {C : CallF} {e : E} {σ : List (Option SV)} {j : Nat} {f : T × α → D} (hn : (keysT m).Nodup) (hl : m.length ≤ 1000) (h0 : σ[j]? = some none)
    (he : ∀ (t : T) (u : α), tfind t m = some u → exports (evalE C e ⟨σ.set j (some (.val (.str t))), h⟩) = .ok (f (t, u)) ⟨σ.set j (some (.val (.str t))), h⟩) :
    kComp C [j] [] e (.ok ((keysT m).map .str, false) ⟨σ, h⟩) = .ok (.own (.lst (m.map f))) ⟨σ, h⟩ := by
  have hc := comp_is (C := C) (cs := []) (e := e) (σ := σ) (h := h) (i := j) (b := fun _ => true) (f := fun d => match d with
      | .str t => ((tfind t m).map fun u => f (t, u)).getD D.non
      | _ => D.non) (ds := (keysT m).map .str) (mu := false) (fun z => by cases z) h0 (fun d hd => by simp) (fun d hd _ => by
      obtain ⟨t, ht, rfl⟩ := List.mem_map.mp hd
      obtain ⟨q, hq, rfl⟩ := List.mem_map.mp ht
      have e2 := tfind_nd hn q hq
      rw [he _ _ e2]
      simp [e2])
  rw [hc, filter_true]
  have em : ((keysT m).map D.str).map (fun d : D => match d with
      | .str t => ((tfind t m).map fun u => f (t, u)).getD D.non
      | _ => D.non) = m.map f := by
    rw [List.map_map]
    unfold keysT
    rw [List.map_map]
    apply List.map_congr_left
    intro q hq
    have e2 := tfind_nd hn q hq
    simp [Function.comp, e2]
  rw [em, newLst, if_pos]
  · rfl
  · exact ok_of (by simp; omega)
end
end KW.Pl
/-! KwG10: deeds on tables, ranks by their words. -/
namespace KW.Pl
section
variable {d : Nat} {h : List Cell} {i : Nat} {s : KV} {p : Stp} {k o t w nm : T} {ts : List T}
theorem c_tab_none {xs : List D} (hi : h[i]? = some (cell s p)) (hs : s.tb k = none) : callF prog (d + 5) "table_done" [.ref i, .str w, .lst (.str k :: xs)] h = .ok (.val dKind) ⟨[], h⟩ := by
  rw [callF_is (fn := f_table_done) rfl rfl]
  have k1 := valTab (d := d + 3) (k := k) hi
  rw [hs] at k1
  have p0 : (0 : Int) < (xs.length : Int) + 1 := by omega
  simp [f_table_done, hmV hi, k1, dctO, p0, run1, run2, run3, recv2, recv3, recv3b, recvM, runIdx, seqOf, lstOf, dctOf, oIdxL, oIdxD, entOf, atI, ixN, part, runCut, bindT, runCmp, runIn, flat, deq, datOf, inD, inT, oLen, cmpInt, cmpI, oAdd, oSub, newLst, frzIt, getPl, putPl, muOf, isK, runMu, muD, runISet, oGet, oGetD, List.lookup, fput, kcls]
theorem c_tab_field {v : T} (hi : h[i]? = some (cell s p)) (hz : p.m.length < sizeLine) (hz2 : s.held.length < sizeLine) (ok : s.EntsOk) :
    Out (callF prog (d + 5) "table_done" [.ref i, .str wField, .lst [.str k, .str nm, .str v]] h) h i p (fieldP s k nm v) := by
  unfold Out fieldP onEnt
  have hh := set_id hi
  show _ = _
  cases e : EK.tab.of s k with
  | none => simp only [ts_nil, hh]; exact c_tab_none hi e
  | some m =>
    rw [callF_is (fn := f_table_done) rfl rfl]
    have k1 := valTab (d := d + 3) (k := k) hi
    have e' : s.tb k = some m := e
    rw [e'] at k1
    have k2 := c_with_entry (d := d) (k := k) (nm := nm) (m := m) (v := v) EK.tab hi hz hz2 (ok.1 k m e).1
    unfold Out at k2
    simp only []
    generalize entR EK.tab s k nm v m = r at *
    simp [EK.tab] at k2
    simp [f_table_done, hmV hi, k1, dctO, k2, run1, run2, run3, recv2, recv3, recv3b, recvM, runIdx, seqOf, lstOf, dctOf, oIdxL, oIdxD, entOf, atI, ixN, part, runCut, bindT, runCmp, runIn, flat, deq, datOf, inD, inT, oLen, cmpInt, cmpI, oAdd, oSub, newLst, frzIt, getPl, putPl, muOf, isK, runMu, muD, runISet, oGet, oGetD, List.lookup, fput, kcls]
theorem c_tab_nofield (hi : h[i]? = some (cell s p)) (hz : p.m.length < sizeLine) (hz2 : s.held.length < sizeLine) (hy : ts.length ≤ 1000) :
    Out (callF prog (d + 5) "table_done" [.ref i, .str wNofield, .lst (.str k :: ts.map .str)] h) h i p (nofieldP s k ts) := by
  unfold Out nofieldP onEnt
  have hh := set_id hi
  cases e : EK.tab.of s k with
  | none => simp only [ts_nil, hh]; exact c_tab_none hi e
  | some m =>
    rw [callF_is (fn := f_table_done) rfl rfl]
    have k1 := valTab (d := d + 3) (k := k) hi
    have e' : s.tb k = some m := e
    rw [e'] at k1
    have k2 := c_without (d := d) (k := k) (m := m) (ns := ts) EK.tab hi hz hz2
    unfold Out at k2
    have p0 : (0 : Int) < (ts.length : Int) + 1 := by omega
    have g1 : okSize ts.length = true := ok_of (by omega)
    simp only []
    generalize delR EK.tab s k ts m = r at *
    simp [EK.tab] at k2
    simp [f_table_done, hmV hi, k1, dctO, p0, cut1D, g1, k2, run1, run2, run3, recv2, recv3, recv3b, recvM, runIdx, seqOf, lstOf, dctOf, oIdxL, oIdxD, entOf, atI, ixN, part, runCut, bindT, runCmp, runIn, flat, deq, datOf, inD, inT, oLen, cmpInt, cmpI, oAdd, oSub, newLst, frzIt, getPl, putPl, muOf, isK, runMu, muD, runISet, oGet, oGetD, List.lookup, fput, kcls]
theorem c_tab_ask (hi : h[i]? = some (cell s p)) :
    Out (callF prog (d + 5) "table_done" [.ref i, .str wAsk, .lst [.str k, .str nm]] h) h i p (askP s k nm) := by
  unfold Out askP onEnt
  have hh := set_id hi
  cases e : EK.tab.of s k with
  | none => simp only [ts_nil, hh]; exact c_tab_none hi e
  | some m =>
    rw [callF_is (fn := f_table_done) rfl rfl]
    have k1 := valTab (d := d + 3) (k := k) hi
    have e' : s.tb k = some m := e
    rw [e'] at k1
    cases e2 : tfind nm m <;> simp [f_table_done, hmV hi, k1, dctO, e2, toldT, hh, run1, run2, run3, recv2, recv3, recv3b, recvM, runIdx, seqOf, lstOf, dctOf, oIdxL, oIdxD, entOf, atI, ixN, part, runCut, bindT, runCmp, runIn, flat, deq, datOf, inD, inT, oLen, cmpInt, cmpI, oAdd, oSub, newLst, frzIt, getPl, putPl, muOf, isK, runMu, muD, runISet, oGet, oGetD, List.lookup, fput, kcls]
def fldOf (m : List (T × T)) (t : T) : List T := [t, (tfind t m).getD []]
theorem fld_go {C : CallF} {x0 x1 x2 x3 : Option SV} (m : List (T × T)) : ∀ (ds acc : List T) (x6 : Option SV), (∀ x ∈ ds, ∃ u, tfind x m = some u) → acc.length + 2 * ds.length ≤ 1000 →
    ∃ y, forLoop [6] (runB C b_table_done_0) (ds.map .str) ⟨[x0, x1, x2, x3, some (.val (.dct (cD .str m))), some (.own (.lst (acc.map .str))), x6], h⟩ = .ok .next ⟨[x0, x1, x2, x3, some (.val (.dct (cD .str m))), some (.own (.lst ((acc ++ ds.flatMap (fldOf m)).map .str))), y], h⟩
  | [], acc, x6, _, _ => ⟨x6, by simp [forLoop]⟩
  | t :: r, acc, x6, hx, hl => by
    obtain ⟨u, e⟩ := hx t (by simp)
    rw [List.length_cons] at hl
    obtain ⟨y, q⟩ := fld_go (C := C) (x0 := x0) (x1 := x1) (x2 := x2) (x3 := x3) m r (acc ++ [t, u]) (some (.val (.str t))) (fun z hz => hx z (by simp [hz])) (by simp; omega)
    refine ⟨y, ?_⟩
    have g : acc.length + 2 ≤ sizeLine := by simp [sizeLine]; omega
    have e1 : runB C b_table_done_0 ⟨[x0, x1, x2, x3, some (.val (.dct (cD .str m))), some (.own (.lst (acc.map .str))), some (.val (.str t))], h⟩ = .ok .next ⟨[x0, x1, x2, x3, some (.val (.dct (cD .str m))), some (.own (.lst ((acc ++ [t, u]).map .str))), some (.val (.str t))], h⟩ := by
      simp [runB, b_table_done_0, recvM, lstOf, run2, recv2, runIdx, seqOf, dctOf, oIdxD, entOf, e, newLst, show okSize 2 = true from rfl, runMu, getPl, putPl, muL, g]
    rw [List.map_cons, forLoop]
    simp only [bindT, List.set_cons_succ, List.set_cons_zero]
    rw [e1, bind_ok]
    simp only []
    rw [q]
    simp [fldOf, e]
theorem mem_tfind {α : Type} {t : T} : ∀ {l : List (T × α)}, t ∈ keysT l → ∃ u, tfind t l = some u
  | q :: r, h => by
    unfold tfind
    by_cases e : q.1 = t
    · exact ⟨q.2, by rw [if_pos e]⟩
    · rw [if_neg e]
      rcases List.mem_cons.mp h with h | h
      · exact absurd h.symm e
      · exact mem_tfind h
theorem sortT_mem {t : T} {l : List T} : t ∈ sortT l ↔ t ∈ l := sortB_mem
theorem sortT_len (l : List T) : (sortT l).length = l.length := sortB_len _ _
theorem fldT_is (m : List (T × T)) : fldT m = (sortT (keysT m)).flatMap (fldOf m) := rfl
theorem fldT_len (m : List (T × T)) : (fldT m).length = 2 * m.length := by
  rw [fldT_is]
  have : m.length = (sortT (keysT m)).length := by rw [sortT_len]; simp
  rw [this]
  generalize sortT (keysT m) = l
  induction l with
  | nil => rfl
  | cons x r ih =>
    rw [List.flatMap_cons, List.length_append, List.length_cons, ih]
    simp [fldOf]
    omega
theorem c_tab_fields (hi : h[i]? = some (cell s p)) (ok : s.EntsOk) :
    Out (callF prog (d + 5) "table_done" [.ref i, .str wFields, .lst [.str k]] h) h i p (fieldsP s k) := by
  unfold Out fieldsP onEnt
  have hh := set_id hi
  cases e : EK.tab.of s k with
  | none => simp only [ts_nil, hh]; exact c_tab_none hi e
  | some m =>
    rw [callF_is (fn := f_table_done) rfl rfl]
    have k1 := valTab (d := d + 3) (k := k) hi
    have e' : s.tb k = some m := e
    rw [e'] at k1
    have hl := (ok.1 k m e).1
    have ks := fun hh => sort_keys D.str (hh := hh) (l := m) (by omega)
    obtain ⟨y, q⟩ := fld_go (C := callF prog (d + 4)) (h := h) (x0 := some (.val (.ref i))) (x1 := some (.val (.str wFields))) (x2 := some (.val (.lst [.str k]))) (x3 := some (.val (.str k))) m (sortT (keysT m)) [] none (fun x hx => mem_tfind (sortT_mem.mp hx)) (by rw [sortT_len]; simp; omega)
    rw [List.nil_append, ← fldT_is] at q
    have r := c_texts_rowT (d := d + 3) (h := h) (ts := fldT m) (by rw [fldT_len]; omega)
    simp at q
    simp [f_table_done, run1, run2, recv2, runIdx, seqOf, lstOf, oIdxL, atI, ixN, hmV hi, k1, dctO, runCmp, datOf, newLst, show okSize 0 = true from rfl, ks, muOf, isK, q, frzIt, getPl, putPl, r, hh]
/-! ranks -/
theorem c_rk_none {xs : List D} (hi : h[i]? = some (cell s p)) (hs : s.rk k = none) : callF prog (d + 5) "rank_done" [.ref i, .str w, .lst (.str k :: xs)] h = .ok (.val dKind) ⟨[], h⟩ := by
  rw [callF_is (fn := f_rank_done) rfl rfl]
  have k1 := valRnk (d := d + 3) (k := k) hi
  rw [hs] at k1
  have p0 : (0 : Int) < (xs.length : Int) + 1 := by omega
  simp [f_rank_done, hmV hi, k1, dctO, p0, run1, run2, run3, recv2, recv3, recv3b, recvM, runIdx, seqOf, lstOf, dctOf, oIdxL, oIdxD, entOf, atI, ixN, part, runCut, bindT, runCmp, runIn, flat, deq, datOf, inD, inT, oLen, cmpInt, cmpI, oAdd, oSub, newLst, frzIt, getPl, putPl, muOf, isK, runMu, muD, runISet, oGet, oGetD, List.lookup, fput, kcls]
theorem c_rk_rank {v : T} (hi : h[i]? = some (cell s p)) (hz : p.m.length < sizeLine) (hz2 : s.held.length < sizeLine) (ok : s.EntsOk) :
    Out (callF prog (d + 5) "rank_done" [.ref i, .str wRank, .lst [.str k, .str v, .str nm]] h) h i p (rankP s k v nm) := by
  unfold Out rankP onEnt
  have hh := set_id hi
  cases e : EK.rnk.of s k with
  | none => simp only [ts_nil, hh]; exact c_rk_none hi e
  | some m =>
    rw [callF_is (fn := f_rank_done) rfl rfl]
    have k1 := valRnk (d := d + 3) (k := k) hi
    have e' : s.rk k = some m := e
    rw [e'] at k1
    simp only []
    cases hn : numIn v with
    | none => simp [f_rank_done, hmV hi, k1, dctO, c_number_in, hn, numD, hh, run1, run2, run3, recv2, recv3, recv3b, recvM, runIdx, seqOf, lstOf, dctOf, oIdxL, oIdxD, entOf, atI, ixN, part, runCut, bindT, runCmp, runIn, flat, deq, datOf, inD, inT, oLen, cmpInt, cmpI, oAdd, oSub, newLst, frzIt, getPl, putPl, muOf, isK, runMu, muD, runISet, oGet, oGetD, List.lookup, fput, kcls]
    | some n =>
      have k2 := c_with_entry (d := d) (k := k) (nm := nm) (m := m) (v := n) EK.rnk hi hz hz2 (ok.2 k m e).1
      unfold Out at k2
      simp only []
      generalize entR EK.rnk s k nm n m = r at *
      simp [EK.rnk] at k2
      simp [f_rank_done, hmV hi, k1, dctO, c_number_in, hn, numD, k2, run1, run2, run3, recv2, recv3, recv3b, recvM, runIdx, seqOf, lstOf, dctOf, oIdxL, oIdxD, entOf, atI, ixN, part, runCut, bindT, runCmp, runIn, flat, deq, datOf, inD, inT, oLen, cmpInt, cmpI, oAdd, oSub, newLst, frzIt, getPl, putPl, muOf, isK, runMu, muD, runISet, oGet, oGetD, List.lookup, fput, kcls]
theorem c_rk_unrank (hi : h[i]? = some (cell s p)) (hz : p.m.length < sizeLine) (hz2 : s.held.length < sizeLine) (hy : ts.length ≤ 1000) :
    Out (callF prog (d + 5) "rank_done" [.ref i, .str wUnrank, .lst (.str k :: ts.map .str)] h) h i p (unrankP s k ts) := by
  unfold Out unrankP onEnt
  have hh := set_id hi
  cases e : EK.rnk.of s k with
  | none => simp only [ts_nil, hh]; exact c_rk_none hi e
  | some m =>
    rw [callF_is (fn := f_rank_done) rfl rfl]
    have k1 := valRnk (d := d + 3) (k := k) hi
    have e' : s.rk k = some m := e
    rw [e'] at k1
    have k2 := c_without (d := d) (k := k) (m := m) (ns := ts) EK.rnk hi hz hz2
    unfold Out at k2
    have p0 : (0 : Int) < (ts.length : Int) + 1 := by omega
    have g1 : okSize ts.length = true := ok_of (by omega)
    simp only []
    generalize delR EK.rnk s k ts m = r at *
    simp [EK.rnk] at k2
    simp [f_rank_done, hmV hi, k1, dctO, p0, cut1D, g1, k2, run1, run2, run3, recv2, recv3, recv3b, recvM, runIdx, seqOf, lstOf, dctOf, oIdxL, oIdxD, entOf, atI, ixN, part, runCut, bindT, runCmp, runIn, flat, deq, datOf, inD, inT, oLen, cmpInt, cmpI, oAdd, oSub, newLst, frzIt, getPl, putPl, muOf, isK, runMu, muD, runISet, oGet, oGetD, List.lookup, fput, kcls]
abbrev pairPI (q : Int × T) : D := .tup [.int q.1, .str q.2]
theorem sort_rank {m : List (T × Int)} (hl : m.length ≤ 1000) : oSort (m.map fun q => pairPI (q.2, q.1)) = some (.own (.lst ((sortB ltPI (m.map fun q => (q.2, q.1))).map pairPI))) := by
  have e : (m.map fun q => pairPI (q.2, q.1)) = (m.map fun q => (q.2, q.1)).map pairPI := by rw [List.map_map]; rfl
  rw [e]
  unfold oSort
  rw [if_pos, sortD_map ltPI pairPI, newLst, if_pos]
  · exact ok_of (by rw [List.length_map, sortB_len, List.length_map]; omega)
  · refine List.pairwise_of_forall fun x y => ?_
    show (if y.1 = x.1 then ltT y.2 x.2 else decide (y.1 < x.1)) = ltPI y x
    rfl
  · cases m with
    | nil => rfl
    | cons q r =>
      show allSrt .pis (((q :: r).map fun q => (q.2, q.1)).map pairPI) = true
      unfold allSrt
      rw [List.all_eq_true]
      intro x hx
      obtain ⟨q', _, rfl⟩ := List.mem_map.mp hx
      rfl
theorem ord_go {C : CallF} {x0 : Option SV} : ∀ (ds : List (Int × T)) (a b : Option SV) (acc : List D), ∃ a' b', compLoop [1, 2] (runC C []) (runX C (.var 2)) (ds.map pairPI) ⟨[x0, a, b], h⟩ acc = .ok (acc.reverse ++ (ds.map (·.2)).map .str) ⟨[x0, a', b'], h⟩
  | [], a, b, acc => ⟨a, b, by simp [compLoop]⟩
  | q :: r, a, b, acc => by
    obtain ⟨y, z⟩ := q
    obtain ⟨a', b', e⟩ := ord_go (C := C) (x0 := x0) r (some (.val (.int y))) (some (.val (.str z))) (.str z :: acc)
    refine ⟨a', b', ?_⟩
    have e1 : runC C [] ⟨[x0, some (.val (.int y)), some (.val (.str z))], h⟩ = .ok true ⟨[x0, some (.val (.int y)), some (.val (.str z))], h⟩ := by simp [runC]
    have e2 : runX C (.var 2) ⟨[x0, some (.val (.int y)), some (.val (.str z))], h⟩ = .ok (.str z) ⟨[x0, some (.val (.int y)), some (.val (.str z))], h⟩ := by simp [runX, exports]
    have e3 : bindT [1, 2] (pairPI (y, z)) ⟨[x0, a, b], h⟩ = some ⟨[x0, some (.val (.int y)), some (.val (.str z))], h⟩ := rfl
    rw [List.map_cons, compLoop]
    simp only [e3]
    rw [e1, bind_ok, if_pos rfl, e2, bind_ok, e]
    simp
theorem c_in_order {m : List (T × Int)} (hn : (keysT m).Nodup) (hl : m.length ≤ 100) : callF prog (d + 1) "in_order" [.dct (cD .int m)] h = .ok (.own (.lst ((ordT m).map .str))) ⟨[], h⟩ := by
  rw [callF_is (fn := f_in_order) rfl rfl]
  have hc := comp_pairs (C := callF prog d) (h := h) (m := m) (σ := [some (.val (.dct (cD .int m))), none, none]) (j := 2) (e := .tup [.p2 .idx (.var 0) (.var 2), .var 2]) (f := fun q => pairPI (q.2, q.1)) hn (by omega) rfl (fun t u e => by
    simp [run2, recv2, runIdx, seqOf, lstOf, dctOf, oIdxD, entOf, e, exports])
  have hs := sort_rank (m := m) (by omega)
  obtain ⟨a, b, e⟩ := ord_go (C := callF prog d) (h := h) (x0 := some (.val (.dct (cD .int m)))) (sortB ltPI (m.map fun q => (q.2, q.1))) none none []
  rw [List.reverse_nil, List.nil_append] at e
  have km := keys_map' D.int m
  simp only [plainEs] at km
  have g : okSize ((ordT m).map D.str).length = true := ok_of (by rw [List.length_map, ordT_len]; omega)
  have hd : kComp (callF prog d) [1, 2] [] (.var 2) (.ok ((sortB ltPI (m.map fun q => (q.2, q.1))).map pairPI, false) ⟨[some (.val (.dct (cD .int m))), none, none], h⟩) = .ok (.own (.lst ((ordT m).map .str))) ⟨[some (.val (.dct (cD .int m))), none, none], h⟩ := by
    rw [kComp_ok]
    simp only [Bool.false_and, if_neg Bool.false_ne_true]
    rw [e, kCalm_ok, kComp2_ok]
    show opt (backT [some (.val (.dct (cD .int m))), none, none] [1, 2] ⟨[some (.val (.dct (cD .int m))), a, b], h⟩) (newLst ((ordT m).map .str)) = _
    rw [newLst, if_pos g]
    rfl
  simp only [oSort] at hs
  simp [f_in_order, dctOf, muOf, -List.map_map, -keyD, km, hc, run1, lstOf, oSort, hs, seqOf, frzIt, getPl, putPl, hd]
theorem ord_mem {m : List (T × Int)} {t : T} : t ∈ ordT m ↔ t ∈ keysT m := by
  unfold ordT keysT
  rw [List.mem_map, List.mem_map]
  constructor
  · rintro ⟨q, hq, rfl⟩
    obtain ⟨q', h1, rfl⟩ := List.mem_map.mp (sortB_mem.mp hq)
    exact ⟨q', h1, rfl⟩
  · rintro ⟨q, hq, rfl⟩
    exact ⟨(q.2, q.1), sortB_mem.mpr (List.mem_map_of_mem hq), rfl⟩
theorem all_shaped (l : List T) : (l.map D.str).all shaped = true := by
  rw [List.all_eq_true]
  intro x hx
  obtain ⟨t, _, rfl⟩ := List.mem_map.mp hx
  rfl
theorem index_is {m : List (T × Int)} {u : Int} (e : tfind nm m = some u) {hh : List Cell} : oIndex hh (.own (.lst ((ordT m).map .str))) (.val (.str nm)) = some (.val (.int (plcT m nm : Nat))) := by
  have hm : nm ∈ ordT m := ord_mem.mpr (List.mem_map.mpr ⟨_, tfind_mem e, rfl⟩)
  show ((some ((ordT m).map D.str)).bind fun xs => (some (D.str nm)).bind fun d => if (shaped d && xs.all shaped) = true then (xs.findIdx? fun z => deq z d).map fun (j : Nat) => RV.val (.int (j : Int)) else none) = _
  simp only [Option.bind_some]
  rw [if_pos (by rw [all_shaped]; rfl), List.findIdx?_map]
  unfold plcT
  have e2 : ((fun z => deq z (.str nm)) ∘ D.str) = fun z => decide (z = nm) := by
    funext z
    simp [deq]
  rw [e2]
  have hf : ((ordT m).findIdx? fun z => decide (z = nm)).isSome = true := by
    rw [List.findIdx?_isSome, List.any_eq_true]
    exact ⟨_, hm, by simp⟩
  obtain ⟨j, hj⟩ := Option.isSome_iff_exists.mp hf
  rw [hj]
  rfl
theorem c_rk_best {f l : T} (hi : h[i]? = some (cell s p)) (ok : s.EntsOk) :
    Out (callF prog (d + 5) "rank_done" [.ref i, .str wBest, .lst [.str k, .str f, .str l]] h) h i p (bestP s k f l) := by
  unfold Out bestP onEnt
  have hh := set_id hi
  cases e : EK.rnk.of s k with
  | none => simp only [ts_nil, hh]; exact c_rk_none hi e
  | some m =>
    rw [callF_is (fn := f_rank_done) rfl rfl]
    have k1 := valRnk (d := d + 3) (k := k) hi
    have e' : s.rk k = some m := e
    rw [e'] at k1
    obtain ⟨hl, hn⟩ := ok.2 k m e
    unfold slD
    cases e1 : numIn f with
    | none => simp [f_rank_done, hmV hi, k1, dctO, c_number_in, e1, numD, hh, run1, run2, run3, recv2, recv3, recv3b, recvM, runIdx, seqOf, lstOf, dctOf, oIdxL, oIdxD, entOf, atI, ixN, part, runCut, bindT, runCmp, runIn, flat, deq, datOf, inD, inT, oLen, cmpInt, cmpI, oAdd, oSub, newLst, frzIt, getPl, putPl, muOf, isK, runMu, muD, runISet, oGet, oGetD, List.lookup, fput, kcls]
    | some a =>
      cases e2 : numIn l with
      | none => simp [f_rank_done, hmV hi, k1, dctO, c_number_in, e1, e2, numD, hh, run1, run2, run3, recv2, recv3, recv3b, recvM, runIdx, seqOf, lstOf, dctOf, oIdxL, oIdxD, entOf, atI, ixN, part, runCut, bindT, runCmp, runIn, flat, deq, datOf, inD, inT, oLen, cmpInt, cmpI, oAdd, oSub, newLst, frzIt, getPl, putPl, muOf, isK, runMu, muD, runISet, oGet, oGetD, List.lookup, fput, kcls]
      | some b =>
        have k3 := c_in_order (d := d + 3) (h := h) hn hl
        have ol := ordT_len m
        have k4 := c_between (d := d + 3) (h := h) (xs := (ordT m).map .str) (f := a) (l := b) (by simp; omega)
        have k5 := c_texts_row (d := d + 3) (h := h) (xs := sliceP ((ordT m).map .str) a b) (by have := slice_len (xs := (ordT m).map D.str) (f := a) (l := b); simp at this; simp [sizeLine]; omega)
        simp [f_rank_done, run1, run2, recv2, runIdx, seqOf, lstOf, oIdxL, atI, ixN, hmV hi, k1, dctO, runCmp, datOf, c_number_in, e1, e2, numD, k3, k4, k5, hh]
theorem c_rk_score (hi : h[i]? = some (cell s p)) :
    Out (callF prog (d + 5) "rank_done" [.ref i, .str wScore, .lst [.str k, .str nm]] h) h i p (scoreP s k nm) := by
  unfold Out scoreP onEnt
  have hh := set_id hi
  cases e : EK.rnk.of s k with
  | none => simp only [ts_nil, hh]; exact c_rk_none hi e
  | some m =>
    rw [callF_is (fn := f_rank_done) rfl rfl]
    have k1 := valRnk (d := d + 3) (k := k) hi
    have e' : s.rk k = some m := e
    rw [e'] at k1
    cases e2 : tfind nm m <;> simp [f_rank_done, hmV hi, k1, dctO, e2, hh, run1, run2, run3, recv2, recv3, recv3b, recvM, runIdx, seqOf, lstOf, dctOf, oIdxL, oIdxD, entOf, atI, ixN, part, runCut, bindT, runCmp, runIn, flat, deq, datOf, inD, inT, oLen, cmpInt, cmpI, oAdd, oSub, newLst, frzIt, getPl, putPl, muOf, isK, runMu, muD, runISet, oGet, oGetD, List.lookup, fput, kcls]
theorem c_rk_place (hi : h[i]? = some (cell s p)) (ok : s.EntsOk) :
    Out (callF prog (d + 5) "rank_done" [.ref i, .str wPlace, .lst [.str k, .str nm]] h) h i p (placeP s k nm) := by
  unfold Out placeP onEnt
  have hh := set_id hi
  cases e : EK.rnk.of s k with
  | none => simp only [ts_nil, hh]; exact c_rk_none hi e
  | some m =>
    rw [callF_is (fn := f_rank_done) rfl rfl]
    have k1 := valRnk (d := d + 3) (k := k) hi
    have e' : s.rk k = some m := e
    rw [e'] at k1
    obtain ⟨hl, hn⟩ := ok.2 k m e
    have k3 := c_in_order (d := d + 3) (h := h) hn hl
    cases e2 : tfind nm m with
    | none => simp [f_rank_done, hmV hi, k1, dctO, e2, hh, run1, run2, run3, recv2, recv3, recv3b, recvM, runIdx, seqOf, lstOf, dctOf, oIdxL, oIdxD, entOf, atI, ixN, part, runCut, bindT, runCmp, runIn, flat, deq, datOf, inD, inT, oLen, cmpInt, cmpI, oAdd, oSub, newLst, frzIt, getPl, putPl, muOf, isK, runMu, muD, runISet, oGet, oGetD, List.lookup, fput, kcls]
    | some u =>
      have k4 := fun hh => index_is (nm := nm) (hh := hh) e2
      simp [f_rank_done, run1, run2, recv2, runIdx, seqOf, lstOf, oIdxL, atI, ixN, hmV hi, k1, dctO, runCmp, datOf, runIn, inD, dctOf, e2, k3, k4, hh]
end
end KW.Pl
/-! KwG11: deeds on keys. -/
namespace KW.Pl
abbrev wHas : T := [104, 97, 115]
abbrev wDrop : T := [100, 114, 111, 112]
abbrev wKind : T := [107, 105, 110, 100]
abbrev wKeys : T := [107, 101, 121, 115]
abbrev wRename : T := [114, 101, 110, 97, 109, 101]
abbrev wEnd : T := [101, 110, 100]
abbrev wLeft : T := [108, 101, 102, 116]
abbrev wStay : T := [115, 116, 97, 121]
def dropAll (s : KV) (ks : List T) : KV := ks.foldl KV.drop s
def dropTs : KV → List T → List T
  | _, [] => []
  | s, k :: r => s.dropT k ++ dropTs (s.drop k) r
def hasP (s : KV) (ks : List T) : Res := ⟨s, [], dNum ((ks.filter s.has).length : Nat)⟩
def dropP (s : KV) (ks : List T) : Res := ⟨dropAll s ks, dropTs s ks, dNum ((dropTs s ks).length : Nat)⟩
def kindP (s : KV) (k : T) : Res := ⟨s, [], .tup [.str [111, 107], .str (s.kindOf k)]⟩
def keysP (s : KV) : Res := ⟨s, [], if s.held.length > 200 then dLong else rowT (sortT (keysT s.held))⟩
def KV.endTo (s : KV) (k : T) : Option Int → KV
  | some x => { s with ends := tput k x s.ends }
  | none => s
def renP (s : KV) (o n : T) : Res := match tfind o s.held with
  | none => ⟨s, [], dBadNone⟩
  | some v => ⟨(((s.drop o).drop n).keepV n v).endTo n (tfind o s.ends), [o] ++ (s.drop o).dropT n ++ ((s.drop o).drop n).keepT n v, dDone⟩
def endP (s : KV) (k t : T) : Res := match numIn t with
  | none => ⟨s, [], dNumber⟩
  | some m => if 1 ≤ m ∧ m ≤ 1000000 then (if s.has k then ⟨s.endTo k (some (s.now + m)), [], numB true⟩ else ⟨s, [], numB false⟩) else ⟨s, [], dNumber⟩
def leftP (s : KV) (k : T) : Res := ⟨s, [], dNum (match tfind k s.held with
  | none => -2
  | some _ => match tfind k s.ends with
    | some e => e - s.now
    | none => -1)⟩
def stayP (s : KV) (k : T) : Res := ⟨s.noEnd k, [], numB (tfind k s.ends).isSome⟩
theorem dropTs_len : ∀ (ks : List T) (s : KV), (dropTs s ks).length ≤ ks.length
  | [], _ => Nat.le_refl _
  | k :: r, s => by
    have := dropTs_len r (s.drop k)
    unfold dropTs KV.dropT
    rw [List.length_append, List.length_cons]
    split <;> simp <;> omega
theorem dropT_len (s : KV) (k : T) : (s.dropT k).length ≤ 1 := by
  unfold KV.dropT
  split <;> simp
section
variable {d : Nat} {h : List Cell} {i : Nat} {s : KV} {p : Stp} {k o t w n : T} {ks : List T} {σ : List (Option SV)}
theorem fHeld (hi : h[i]? = some (cell s p)) : kFld kcls "held" (.ok (.val (.ref i)) ⟨σ, h⟩) = .ok (.pk (.fld i "held") (.dct (cD vP s.held))) ⟨σ, h⟩ := by simp [hi, cell, kcls, List.lookup]
theorem fEnds (hi : h[i]? = some (cell s p)) : kFld kcls "ends" (.ok (.val (.ref i)) ⟨σ, h⟩) = .ok (.pk (.fld i "ends") (.dct (cD .int s.ends))) ⟨σ, h⟩ := by simp [hi, cell, kcls, List.lookup]
theorem fStamps (hi : h[i]? = some (cell s p)) : kFld kcls "stamps" (.ok (.val (.ref i)) ⟨σ, h⟩) = .ok (.pk (.fld i "stamps") (.dct (cD .int p.m))) ⟨σ, h⟩ := by simp [hi, cell, kcls, List.lookup]
theorem fNow (hi : h[i]? = some (cell s p)) : kFld kcls "now" (.ok (.val (.ref i)) ⟨σ, h⟩) = .ok (.val (.int s.now)) ⟨σ, h⟩ := by simp [hi, cell, kcls, List.lookup]
theorem popEnds {c : Cont} (hi : h[i]? = some (cell s p)) : runMu ⟨σ, h⟩ .popD (.pk (.fld i "ends") c) [.str k, .non] = .ok (.val (((tfind k s.ends).map D.int).getD .non)) ⟨σ, h.set i (cell (s.noEnd k) p)⟩ := by
  have pd := popD_cD D.int k s.ends .non
  have un := unplain (cD D.int (tdel k s.ends))
  simp only [plainEs] at pd
  unfold runMu getPl
  simp only [hi, cell, ffind, List.lookup]
  simp only [show (("ends" : String) == "held") = false from rfl, show (("ends" : String) == "ends") = true from rfl, plainEs, pd, un]
  unfold putPl
  simp only [hi, cell, fput, KV.noEnd]
  cases e : tfind k s.ends <;> simp [fput]
theorem setEnds {c : Cont} {x : Int} (hi : h[i]? = some (cell s p)) (hz : s.ends.length < sizeLine) : runISet ⟨σ, h⟩ (.pk (.fld i "ends") c) (.str k) (.val (.int x)) = .ok () ⟨σ, h.set i (cell (s.endTo k (some x)) p)⟩ := by
  simp [runISet, getPl, putPl, hi, cell, List.lookup, fput, hz, KV.endTo]
theorem c_has (hi : h[i]? = some (cell s p)) (hk : ks.length ≤ 1000) : Out (callF prog (d + 1) "key_done" [.ref i, .str wHas, .lst (ks.map .str)] h) h i p (hasP s ks) := by
  unfold Out
  rw [callF_is (fn := f_key_done) rfl rfl]
  have hh := set_id hi
  have hc := comp_strs (C := callF prog d) (cs := [.p2 (.cmp .isIn) (.var 3) (.fld kcls (.var 0) "held")]) (σ := [some (.val (.ref i)), some (.val (.str wHas)), some (.val (.lst (ks.map .str))), none]) (h := h) (i := 3) (ts := ks) (b := s.has) (mu := false) (fun z => by cases z) rfl (fun t ht => by
    unfold KV.has
    cases e : tfind t s.held <;> simp [recv2, run2, runCmp, runIn, fHeld hi, lstOf, inD, dctOf, e]) (by omega)
  simp [f_key_done, hc, run1, run2, recv2, runCmp, datOf, seqOf, lstOf, muOf, oLen, hasP, hh]
theorem drop_go {fc : S → R Bool} {fe : S → R D} {σ : List (Option SV)} (h1 : ∀ (k : T) (hh : List Cell) (s : KV) (p : Stp), hh[i]? = some (cell s p) → p.m.length < sizeLine →
      fc ⟨σ.set 3 (some (.val (.str k))), hh⟩ = .ok (s.has k) ⟨σ.set 3 (some (.val (.str k))), hh.set i (cell (s.drop k) (p.ts (s.dropT k)))⟩)
    (h2 : ∀ (k : T) hh, fe ⟨σ.set 3 (some (.val (.str k))), hh⟩ = .ok (.str k) ⟨σ.set 3 (some (.val (.str k))), hh⟩) : ∀ (ks : List T) (h : List Cell) (s : KV) (p : Stp) (σ' : List (Option SV)) (acc : List D), h[i]? = some (cell s p) → p.m.length + ks.length < sizeLine →
    (∀ x, σ'.set 3 x = σ.set 3 x) → ∃ σ'', (∀ x, σ''.set 3 x = σ.set 3 x) ∧ compLoop [3] fc fe (ks.map .str) ⟨σ', h⟩ acc = .ok (acc.reverse ++ (dropTs s ks).map .str) ⟨σ'', h.set i (cell (dropAll s ks) (p.ts (dropTs s ks)))⟩
  | [], h, s, p, σ', acc, hi, _, hs => ⟨σ', hs, by simp [compLoop, dropAll, dropTs, set_id hi]⟩
  | k :: r, h, s, p, σ', acc, hi, hz, hs => by
    rw [List.length_cons] at hz
    have e1 := h1 k h s p hi (by omega)
    have l1 := ts_len (s.dropT k) p
    have l2 := dropT_len s k
    have ih := fun acc => drop_go h1 h2 r (h.set i (cell (s.drop k) (p.ts (s.dropT k)))) (s.drop k) (p.ts (s.dropT k)) (σ.set 3 (some (.val (.str k)))) acc (by simp [hi]) (by omega) (fun x => by rw [List.set_set])
    rw [List.map_cons, compLoop]
    simp only [bindT, hs]
    have ea : dropAll s (k :: r) = dropAll (s.drop k) r := rfl
    have et : dropTs s (k :: r) = s.dropT k ++ dropTs (s.drop k) r := rfl
    rw [e1, bind_ok, ea, et, ts_append]
    cases z : s.has k with
    | false =>
      obtain ⟨σ2, k1, k2⟩ := ih acc
      refine ⟨σ2, k1, ?_⟩
      rw [if_neg Bool.false_ne_true, k2, List.set_set]
      simp [KV.dropT, z]
    | true =>
      obtain ⟨σ2, k1, k2⟩ := ih (.str k :: acc)
      refine ⟨σ2, k1, ?_⟩
      rw [if_pos rfl, h2 k, bind_ok, k2, List.set_set]
      simp [KV.dropT, z]
theorem back_none {σ σ2 : List (Option SV)} {i : Nat} {h2 : List Cell} (h0 : σ[i]? = some none) (k1 : ∀ x, σ2.set i x = σ.set i x) : backT σ [i] ⟨σ2, h2⟩ = ⟨σ, h2⟩ := by
  unfold backT oldVal
  simp only [List.foldl, h0]
  rw [k1]
  congr 1
  exact List.ext_getElem? fun j => by
    by_cases z : i = j
    · subst z
      rw [h0]
      have : i < σ.length := (List.getElem?_eq_some_iff.mp h0).1
      rw [List.getElem?_set_self this]
    · rw [List.getElem?_set_ne z]
theorem c_drops (hi : h[i]? = some (cell s p)) (hk : ks.length ≤ 1000) (hz : p.m.length + ks.length < sizeLine) :
    Out (callF prog (d + 3) "key_done" [.ref i, .str wDrop, .lst (ks.map .str)] h) h i p (dropP s ks) := by
  unfold Out dropP
  rw [callF_is (fn := f_key_done) rfl rfl]
  have hc : kComp (callF prog (d + 2)) [3] [.meth "Store" "drop" (.var 0) [.var 3]] (.var 3) (.ok (ks.map .str, false) ⟨[some (.val (.ref i)), some (.val (.str wDrop)), some (.val (.lst (ks.map .str))), none], h⟩) =
      .ok (.own (.lst ((dropTs s ks).map .str))) ⟨[some (.val (.ref i)), some (.val (.str wDrop)), some (.val (.lst (ks.map .str))), none], h.set i (cell (dropAll s ks) (p.ts (dropTs s ks)))⟩ := by
    rw [kComp_ok]
    obtain ⟨σ2, k1, k2⟩ := drop_go (i := i) (σ := [some (.val (.ref i)), some (.val (.str wDrop)), some (.val (.lst (ks.map .str))), none]) (fc := runC (callF prog (d + 2)) [.meth "Store" "drop" (.var 0) [.var 3]]) (fe := runX (callF prog (d + 2)) (.var 3))
      (fun k hh s p hi hz => by
        have e := c_drop (d := d) (k := k) hi hz
        cases z : s.has k <;> rw [z] at e <;> simp [hmS hi, e, runC])
      (fun k hh => by simp [exports, runX]) ks h s p _ [] hi hz (fun _ => rfl)
    have g : okSize ((dropTs s ks).map D.str).length = true := ok_of (by have := dropTs_len ks s; simp; omega)
    simp only [Bool.false_and, if_neg Bool.false_ne_true]
    rw [k2, kCalm_ok, kComp2_ok]
    simp only [newLst, List.reverse_nil, List.nil_append, g, if_true, opt]
    rw [back_none rfl k1]
  simp [f_key_done, hc, run1, run2, recv2, runCmp, datOf, seqOf, lstOf, muOf, oLen]
theorem c_kindW (hi : h[i]? = some (cell s p)) : Out (callF prog (d + 2) "key_done" [.ref i, .str wKind, .lst [.str k]] h) h i p (kindP s k) := by
  unfold Out
  rw [callF_is (fn := f_key_done) rfl rfl]
  have hh := set_id hi
  have k1 := c_kind (d := d) (k := k) hi
  simp [f_key_done, hmS hi, k1, kindP, hh, run1, run2, run3, recv2, recv3, recv3b, recvM, runIdx, seqOf, lstOf, dctOf, oIdxL, oIdxD, entOf, atI, ixN, part, runCut, bindT, runCmp, runIn, flat, deq, datOf, inD, inT, oLen, cmpInt, cmpI, oAdd, oSub, newLst, frzIt, getPl, putPl, muOf, isK, runMu, muD, runISet, oGet, oGetD, List.lookup, fput, kcls]
theorem sort_keysF {α : Type} (g : α → D) {hh : List Cell} {q : Pl} {l : List (T × α)} (hl : l.length ≤ 100000) : (oKeys hh (.pk q (.dct (cD g l)))).bind oSort = some (.own (.lst ((sortT (keysT l)).map .str))) := sort_keys g (hh := hh) hl
theorem c_keysW {xs : List D} (hi : h[i]? = some (cell s p)) : Out (callF prog (d + 2) "key_done" [.ref i, .str wKeys, .lst xs] h) h i p (keysP s) := by
  unfold Out keysP
  rw [callF_is (fn := f_key_done) rfl rfl]
  have hh := set_id hi
  by_cases z : 200 < s.held.length
  · have z2 : (200 : Int) < (s.held.length : Int) := by omega
    simp [f_key_done, fHeld hi, z, z2, hh, run1, run2, recv2, runCmp, datOf, seqOf, lstOf, dctOf, oLen, cmpInt, cmpI]
  · have z2 : ¬ (200 : Int) < (s.held.length : Int) := by omega
    have k1 := fun hh q => sort_keysF vP (hh := hh) (q := q) (l := s.held) (by omega)
    have k2 := c_texts_rowT (d := d) (h := h) (ts := sortT (keysT s.held)) (by rw [sortT_len]; simp; omega)
    simp [f_key_done, fHeld hi, z, z2, hh, run1, run2, recv2, runCmp, datOf, seqOf, lstOf, dctOf, oLen, cmpInt, cmpI, k1, k2]
theorem drop_ends (s : KV) (k : T) : (s.drop k).ends.length ≤ s.ends.length := tdel_len _ _
theorem drop_he (s : KV) (k : T) : (s.drop k).held.length ≤ s.held.length := tdel_len _ _
theorem keepV_ends (s : KV) (k : T) (v : Val) : (s.keepV k v).ends.length ≤ s.ends.length := by
  unfold KV.keepV
  split
  · exact tdel_len _ _
  · exact Nat.le_refl _
theorem c_renamed (hi : h[i]? = some (cell s p)) (hz : p.m.length + 2 < sizeLine) (hz2 : s.held.length < sizeLine) (hel : s.ends.length < sizeLine) :
    Out (callF prog (d + 4) "renamed" [.ref i, .str o, .str n] h) h i p (renP s o n) := by
  unfold Out renP
  rw [callF_is (fn := f_renamed) rfl rfl]
  have hh := set_id hi
  cases e0 : tfind o s.held with
  | none => simp [f_renamed, fHeld hi, e0, hh, run1, run2, run3, recv2, recv3, recv3b, recvM, runIdx, seqOf, lstOf, dctOf, oIdxL, oIdxD, entOf, atI, ixN, part, runCut, bindT, runCmp, runIn, flat, deq, datOf, inD, inT, oLen, cmpInt, cmpI, oAdd, oSub, newLst, frzIt, getPl, putPl, muOf, isK, runMu, muD, runISet, oGet, oGetD]
  | some v =>
    have t1 : s.dropT o = [o] := by unfold KV.dropT KV.has; rw [e0]; rfl
    have l2 := ts_len ((s.drop o).dropT n) (p.t o)
    have l3 := dropT_len (s.drop o) n
    have l4 := t_len p o
    have l5 := drop_he s o
    have l6 := drop_he (s.drop o) n
    have l7 := drop_ends s o
    have l8 := drop_ends (s.drop o) n
    have l9 := keepV_ends ((s.drop o).drop n) n v
    have g : ∀ c, (h.set i c)[i]? = some c := fun c => by rw [get_set, hi]; rfl
    have e1 := c_drop (d := d + 1) (k := o) hi (by omega)
    rw [t1] at e1
    have e2 := c_drop (d := d + 1) (k := n) (g (cell (s.drop o) (p.t o))) (by omega)
    have e3 := c_keep (d := d) (k := n) (v := v) (g (cell ((s.drop o).drop n) ((p.t o).ts ((s.drop o).dropT n)))) (by omega) (by omega)
    simp only [List.set_set] at e2 e3
    have m1 := fun σ es => @hmS h i s p (callF prog (d + 3)) σ "drop" es hi (by decide)
    have m2 := fun σ es => @hmS _ i _ _ (callF prog (d + 3)) σ "drop" es (g (cell (s.drop o) (p.t o))) (by decide)
    have m3 := fun σ es => @hmS _ i _ _ (callF prog (d + 3)) σ "keep" es (g (cell ((s.drop o).drop n) ((p.t o).ts ((s.drop o).dropT n)))) (by decide)
    have et : p.ts ([o] ++ (s.drop o).dropT n ++ ((s.drop o).drop n).keepT n v) = ((p.t o).ts ((s.drop o).dropT n)).ts (((s.drop o).drop n).keepT n v) := by
      rw [ts_append, ts_append]; rfl
    simp only []
    rw [et]
    cases e4 : tfind o s.ends with
    | none =>
      simp [f_renamed, fHeld hi, fEnds hi, e0, e1, e2, e3, e4, m1, m2, m3, KV.endTo, vP, run1, run2, run3, recv2, recv3, recv3b, runCmp, runIn, runIdx, seqOf, oIdxD, entOf, lstOf, inD, dctOf, bindT, oGet, oGetD]
    | some x =>
      have e5 := fun σ c => @setEnds _ i _ _ n σ c x (g (cell (((s.drop o).drop n).keepV n v) (((p.t o).ts ((s.drop o).dropT n)).ts (((s.drop o).drop n).keepT n v)))) (by omega)
      have f5 := fun σ => @fEnds _ i _ _ σ (g (cell (((s.drop o).drop n).keepV n v) (((p.t o).ts ((s.drop o).dropT n)).ts (((s.drop o).drop n).keepT n v))))
      simp only [List.set_set] at e5
      simp [f_renamed, fHeld hi, fEnds hi, e0, e1, e2, e3, e4, m1, m2, m3, f5, e5, vP, run1, run2, run3, recv2, recv3, recv3b, runCmp, runIn, runIdx, seqOf, oIdxD, entOf, lstOf, inD, dctOf, bindT, oGet, oGetD]
theorem c_rename (hi : h[i]? = some (cell s p)) (hz : p.m.length + 2 < sizeLine) (hz2 : s.held.length < sizeLine) (hel : s.ends.length < sizeLine) :
    Out (callF prog (d + 5) "key_done" [.ref i, .str wRename, .lst [.str o, .str n]] h) h i p (renP s o n) := by
  have k1 := c_renamed (d := d) (o := o) (n := n) hi hz hz2 hel
  unfold Out at k1 ⊢
  rw [callF_is (fn := f_key_done) rfl rfl]
  generalize renP s o n = r at *
  simp [f_key_done, k1, run1, run2, run3, recv2, recv3, recv3b, recvM, runIdx, seqOf, lstOf, dctOf, oIdxL, oIdxD, entOf, atI, ixN, part, runCut, bindT, runCmp, runIn, flat, deq, datOf, inD, inT, oLen, cmpInt, cmpI, oAdd, oSub, newLst, frzIt, getPl, putPl, muOf, isK, runMu, muD, runISet, oGet, oGetD, List.lookup, fput, kcls]
theorem c_ended (hi : h[i]? = some (cell s p)) (hel : s.ends.length < sizeLine) : Out (callF prog (d + 2) "ended" [.ref i, .str k, .str t] h) h i p (endP s k t) := by
  unfold Out endP
  rw [callF_is (fn := f_ended) rfl rfl]
  have hh := set_id hi
  cases e : numIn t with
  | none => simp [f_ended, c_number_in, e, numD, hh, run1]
  | some m =>
    by_cases z1 : 1 ≤ m
    · by_cases z2 : m ≤ 1000000
      · unfold KV.has
        have g : ∀ c, (h.set i c)[i]? = some c := fun c => by rw [get_set, hi]; rfl
        cases e2 : tfind k s.held with
        | none => simp [f_ended, c_number_in, e, numD, z1, z2, fHeld hi, e2, hh, c_as_number, run1, run2, run3, recv2, recv3, recv3b, recvM, runIdx, seqOf, lstOf, dctOf, oIdxL, oIdxD, entOf, atI, ixN, part, runCut, bindT, runCmp, runIn, flat, deq, datOf, inD, inT, oLen, cmpInt, cmpI, oAdd, oSub, newLst, frzIt, getPl, putPl, muOf, isK, runMu, muD, runISet, oGet, oGetD]
        | some v =>
          have f6 := fun σ => @fHeld _ i _ _ σ (g (cell (s.endTo k (some (s.now + m))) p))
          have e3 : tfind k (s.endTo k (some (s.now + m))).held = some v := e2
          simp [f_ended, c_number_in, e, numD, z1, z2, fHeld hi, fEnds hi, fNow hi, e2, setEnds hi hel, f6, e3, c_as_number, run1, run2, recv2, runCmp, cmpInt, cmpI, runIn, lstOf, inD, dctOf, oAdd]
      · simp [f_ended, c_number_in, e, numD, z1, z2, hh, run1, runCmp, cmpInt, cmpI]
    · simp [f_ended, c_number_in, e, numD, z1, hh, run1, runCmp, cmpInt, cmpI]
theorem c_end (hi : h[i]? = some (cell s p)) (hel : s.ends.length < sizeLine) : Out (callF prog (d + 3) "key_done" [.ref i, .str wEnd, .lst [.str k, .str t]] h) h i p (endP s k t) := by
  have k1 := c_ended (d := d) (k := k) (t := t) hi hel
  unfold Out at k1 ⊢
  rw [callF_is (fn := f_key_done) rfl rfl]
  generalize endP s k t = r at *
  simp [f_key_done, k1, run1, run2, run3, recv2, recv3, recv3b, recvM, runIdx, seqOf, lstOf, dctOf, oIdxL, oIdxD, entOf, atI, ixN, part, runCut, bindT, runCmp, runIn, flat, deq, datOf, inD, inT, oLen, cmpInt, cmpI, oAdd, oSub, newLst, frzIt, getPl, putPl, muOf, isK, runMu, muD, runISet, oGet, oGetD, List.lookup, fput, kcls]
theorem c_left (hi : h[i]? = some (cell s p)) : Out (callF prog (d + 2) "key_done" [.ref i, .str wLeft, .lst [.str k]] h) h i p (leftP s k) := by
  have k1 : callF prog (d + 1) "left_ticks" [.ref i, .str k] h = .ok (.val (leftP s k).a) ⟨[], h⟩ := by
    rw [callF_is (fn := f_left_ticks) rfl rfl]
    unfold leftP
    cases e1 : tfind k s.held <;> cases e2 : tfind k s.ends <;> simp [f_left_ticks, fHeld hi, fEnds hi, fNow hi, e1, e2, oNeg, run1, run2, run3, recv2, recv3, recv3b, recvM, runIdx, seqOf, lstOf, dctOf, oIdxL, oIdxD, entOf, atI, ixN, part, runCut, bindT, runCmp, runIn, flat, deq, datOf, inD, inT, oLen, cmpInt, cmpI, oAdd, oSub, newLst, frzIt, getPl, putPl, muOf, isK, runMu, muD, runISet, oGet, oGetD]
  have hh := set_id hi
  unfold Out
  rw [callF_is (fn := f_key_done) rfl rfl]
  have e3 : (leftP s k).s = s := rfl
  have e4 : (leftP s k).ts = [] := rfl
  rw [e3, e4, ts_nil, hh]
  generalize (leftP s k).a = r at *
  simp [f_key_done, k1, run1, run2, run3, recv2, recv3, recv3b, recvM, runIdx, seqOf, lstOf, dctOf, oIdxL, oIdxD, entOf, atI, ixN, part, runCut, bindT, runCmp, runIn, flat, deq, datOf, inD, inT, oLen, cmpInt, cmpI, oAdd, oSub, newLst, frzIt, getPl, putPl, muOf, isK, runMu, muD, runISet, oGet, oGetD, List.lookup, fput, kcls]
theorem c_stay (hi : h[i]? = some (cell s p)) : Out (callF prog (d + 2) "key_done" [.ref i, .str wStay, .lst [.str k]] h) h i p (stayP s k) := by
  unfold Out stayP
  rw [callF_is (fn := f_key_done) rfl rfl]
  have hp := fun (σ : List (Option SV)) c => @popEnds h i s p k σ c hi
  cases e1 : tfind k s.ends <;> simp [e1] at hp <;> simp [f_key_done, fEnds hi, hp, c_as_number, recvM, lstOf, dctOf, run1, run2, recv2, runCmp, datOf, runIdx, seqOf, oIdxL, atI, ixN]
end
end KW.Pl
/-! KwG12: answers. -/
namespace KW.Pl
/-- a deed with as many words as it needs -/
inductive Deed where
  | has (ks : List T) | drop (ks : List T) | kind (k : T) | keys | ren (o n : T) | endk (k t : T) | left (k : T) | stay (k : T)
  | put (k t : T) | putnew (k t : T) | get (k : T) | swap (k t : T) | add (k t : T) | join (k t : T) | long (k : T)
  | first (k : T) (ts : List T) | last (k : T) (ts : List T) | takefirst (k : T) | takelast (k : T) | many (k : T) | slice (k f l : T) | carry (k o : T)
  | inn (k : T) (ts : List T) | out (k : T) (ts : List T) | within (k t : T) | all (k : T) | both (k o : T) | either (k o : T) | less (k o : T)
  | field (k nm v : T) | ask (k nm : T) | nofield (k : T) (ts : List T) | fields (k : T)
  | rank (k v nm : T) | unrank (k : T) (ts : List T) | place (k nm : T) | score (k nm : T) | best (k f l : T)
namespace Deed
def wd : Deed → T
  | has _ => wHas | drop _ => wDrop | kind _ => wKind | keys => wKeys | ren _ _ => wRename | endk _ _ => wEnd | left _ => wLeft | stay _ => wStay
  | put _ _ => wPut | putnew _ _ => wPutnew | get _ => wGet | swap _ _ => wSwap | add _ _ => wAdd | join _ _ => wJoin | long _ => wLong
  | first _ _ => wFirst | last _ _ => wLast | takefirst _ => wTakefirst | takelast _ => wTakelast | many _ => wMany | slice _ _ _ => wSlice | carry _ _ => wCarry
  | inn _ _ => wIn | out _ _ => wOut | within _ _ => wWithin | all _ => wAll | both _ _ => wBoth | either _ _ => wEither | less _ _ => wLess
  | field _ _ _ => wField | ask _ _ => wAsk | nofield _ _ => wNofield | fields _ => wFields
  | rank _ _ _ => wRank | unrank _ _ => wUnrank | place _ _ => wPlace | score _ _ => wScore | best _ _ _ => wBest
def args : Deed → List T
  | has ks => ks | drop ks => ks | kind k => [k] | keys => [] | ren o n => [o, n] | endk k t => [k, t] | left k => [k] | stay k => [k]
  | put k t => [k, t] | putnew k t => [k, t] | get k => [k] | swap k t => [k, t] | add k t => [k, t] | join k t => [k, t] | long k => [k]
  | first k ts => k :: ts | last k ts => k :: ts | takefirst k => [k] | takelast k => [k] | many k => [k] | slice k f l => [k, f, l] | carry k o => [k, o]
  | inn k ts => k :: ts | out k ts => k :: ts | within k t => [k, t] | all k => [k] | both k o => [k, o] | either k o => [k, o] | less k o => [k, o]
  | field k nm v => [k, nm, v] | ask k nm => [k, nm] | nofield k ts => k :: ts | fields k => [k]
  | rank k v nm => [k, v, nm] | unrank k ts => k :: ts | place k nm => [k, nm] | score k nm => [k, nm] | best k f l => [k, f, l]
def ws (w : Deed) : List T := w.wd :: w.args
def res (s : KV) : Deed → Res
  | has ks => hasP s ks | drop ks => dropP s ks | kind k => kindP s k | keys => keysP s | ren o n => renP s o n | endk k t => endP s k t | left k => leftP s k | stay k => stayP s k
  | put k t => putP s k t | putnew k t => putnewP s k t | get k => getP s k | swap k t => swapP s k t | add k t => addsP s k t | join k t => joinsP s k t | long k => longP s k
  | first k ts => firstP s k ts | last k ts => lastP s k ts | takefirst k => takefirstP s k | takelast k => takelastP s k | many k => manyP s k | slice k f l => sliceWP s k f l | carry k o => carryP s k o
  | inn k ts => inP s k ts | out k ts => outP s k ts | within k t => withinP s k t | all k => allP s k | both k o => bothP s k o | either k o => eitherP s k o | less k o => lessP s k o
  | field k nm v => fieldP s k nm v | ask k nm => askP s k nm | nofield k ts => nofieldP s k ts | fields k => fieldsP s k
  | rank k v nm => rankP s k v nm | unrank k ts => unrankP s k ts | place k nm => placeP s k nm | score k nm => scoreP s k nm | best k f l => bestP s k f l
/-- lists of words are not too long, texts neither -/
def Ok : Deed → Prop
  | has ks => 1 ≤ ks.length ∧ ks.length ≤ 199
  | drop ks => 1 ≤ ks.length ∧ ks.length ≤ 199
  | first _ ts => 1 ≤ ts.length ∧ ts.length ≤ 198
  | last _ ts => 1 ≤ ts.length ∧ ts.length ≤ 198
  | inn _ ts => 1 ≤ ts.length ∧ ts.length ≤ 198
  | out _ ts => 1 ≤ ts.length ∧ ts.length ≤ 198
  | nofield _ ts => 1 ≤ ts.length ∧ ts.length ≤ 198
  | unrank _ ts => 1 ≤ ts.length ∧ ts.length ≤ 198
  | put _ t => t.length ≤ 300
  | putnew _ t => t.length ≤ 300
  | swap _ t => t.length ≤ 300
  | join _ t => t.length ≤ 1000
  | _ => True
end Deed
def cntP (w : T) : Option D := match tfind w kt_KEY_WORDS with
  | some p => some p
  | none => match tfind w kt_TEXT_WORDS with
    | some p => some p
    | none => match tfind w kt_ROW_WORDS with
      | some p => some p
      | none => match tfind w kt_SET_WORDS with
        | some p => some p
        | none => match tfind w kt_TABLE_WORDS with
          | some p => some p
          | none => tfind w kt_RANK_WORDS
abbrev dBadWord : D := .tup [.str [98, 97, 100], .str [119, 111, 114, 100]]
abbrev dBadCount : D := .tup [.str [98, 97, 100], .str [99, 111, 117, 110, 116]]
/-- what is wrong of words -/
def wrongP (w : T) (n : Nat) : D := match cntP w with
  | none => dBadWord
  | some (.tup [.int a, .int b]) => if a ≤ n ∧ (n : Int) ≤ b then .non else dBadCount
  | _ => .non
/-- each count is a pair -/
def pairB (l : List (T × D)) : Bool := l.all fun q => match q.2 with
  | .tup [.int _, .int _] => true
  | _ => false
section
variable {d : Nat} {h : List Cell} {i : Nat} {s : KV} {p : Stp} {k o t w n : T} {ks : List T} {σ : List (Option SV)}
theorem c_count : callF prog (d + 1) "count_of" [.str w] h = .ok (.val ((cntP w).getD .non)) ⟨[], h⟩ := by
  rw [callF_is (fn := f_count_of) rfl rfl]
  unfold cntP
  cases e1 : tfind w kt_KEY_WORDS with
  | some p => simp [f_count_of, e1]
  | none =>
    cases e2 : tfind w kt_TEXT_WORDS with
    | some p => simp [f_count_of, e1, e2]
    | none =>
      cases e3 : tfind w kt_ROW_WORDS with
      | some p => simp [f_count_of, e1, e2, e3]
      | none =>
        cases e4 : tfind w kt_SET_WORDS with
        | some p => simp [f_count_of, e1, e2, e3, e4]
        | none =>
          cases e5 : tfind w kt_TABLE_WORDS with
          | some p => simp [f_count_of, e1, e2, e3, e4, e5]
          | none =>
            cases e6 : tfind w kt_RANK_WORDS with
            | some p => simp [f_count_of, e1, e2, e3, e4, e5, e6]
            | none => simp [f_count_of, e1, e2, e3, e4, e5, e6]
theorem pair_of {l : List (T × D)} (hb : pairB l = true) {x : D} (e : tfind w l = some x) : ∃ a b, x = .tup [.int a, .int b] := by
  have := List.all_eq_true.mp hb _ (tfind_mem e)
  simp only at this
  split at this
  · exact ⟨_, _, rfl⟩
  · cases this
theorem cnt_pair {x : D} (e : cntP w = some x) : ∃ a b, x = .tup [.int a, .int b] := by
  unfold cntP at e
  split at e
  · rename_i e1; cases e; exact pair_of (l := kt_KEY_WORDS) rfl e1
  · split at e
    · rename_i e1; cases e; exact pair_of (l := kt_TEXT_WORDS) rfl e1
    · split at e
      · rename_i e1; cases e; exact pair_of (l := kt_ROW_WORDS) rfl e1
      · split at e
        · rename_i e1; cases e; exact pair_of (l := kt_SET_WORDS) rfl e1
        · split at e
          · rename_i e1; cases e; exact pair_of (l := kt_TABLE_WORDS) rfl e1
          · exact pair_of (l := kt_RANK_WORDS) rfl e
theorem c_wrong {xs : List D} : callF prog (d + 2) "wrong" [.str w, .lst xs] h = .ok (.val (wrongP w xs.length)) ⟨[], h⟩ := by
  rw [callF_is (fn := f_wrong) rfl rfl]
  have e := c_count (d := d) (h := h) (w := w)
  unfold wrongP
  cases ec : cntP w with
  | none =>
    rw [ec] at e
    simp at e
    simp [f_wrong, e, run1]
  | some x =>
    obtain ⟨a, b, rfl⟩ := cnt_pair ec
    rw [ec] at e
    simp at e
    by_cases h1 : a ≤ (xs.length : Int)
    · by_cases h2 : (xs.length : Int) ≤ b
      · simp [f_wrong, e, run1, run2, recv2, runIdx, seqOf, oIdxL, atI, ixN, oLen, lstOf, runCmp, cmpInt, cmpI, h1, h2]
      · simp [f_wrong, e, run1, run2, recv2, runIdx, seqOf, oIdxL, atI, ixN, oLen, lstOf, runCmp, cmpInt, cmpI, h1, h2]
    · simp [f_wrong, e, run1, run2, recv2, runIdx, seqOf, oIdxL, atI, ixN, oLen, lstOf, runCmp, cmpInt, cmpI, h1]
/-- words that are wrong -/
theorem c_answer_bad {xs : List D} (hb : wrongP w xs.length ≠ .non) (hl : xs.length ≤ 1000) : callF prog (d + 3) "answer" [.ref i, .lst (.str w :: xs)] h = .ok (.val (wrongP w xs.length)) ⟨[], h⟩ := by
  rw [callF_is (fn := f_answer) rfl rfl]
  have e := c_wrong (d := d) (h := h) (w := w) (xs := xs)
  have g : okSize xs.length = true := ok_of (by omega)
  have hn : oIsNone (.val (wrongP w xs.length)) = some false := by
    unfold wrongP at hb ⊢
    split
    · rfl
    · rename_i e2
      rw [e2] at hb
      simp only at hb
      split
      · rename_i z
        rw [if_pos z] at hb
        exact absurd rfl hb
      · rfl
    · rename_i x1 x2
      exfalso
      apply hb
      cases ec : cntP w with
      | none => exact absurd ec x1
      | some x =>
        obtain ⟨a, b, rfl⟩ := cnt_pair ec
        exact absurd ec (x2 a b)
  generalize wrongP w xs.length = r at *
  simp [f_answer, run2, recv2, runIdx, seqOf, lstOf, oIdxL, atI, ixN, part, runCut, cut1D, newLst, g, frzIt, getPl, putPl, e, run1, hn, show (0 : Int) < (xs.length : Int) + 1 from by omega]
/-- which part does a deed -/
def Deed.part : Deed → String
  | .has _ => "key_done" | .drop _ => "key_done" | .kind _ => "key_done" | .keys => "key_done" | .ren _ _ => "key_done" | .endk _ _ => "key_done" | .left _ => "key_done" | .stay _ => "key_done"
  | .put _ _ => "text_done" | .putnew _ _ => "text_done" | .get _ => "text_done" | .swap _ _ => "text_done" | .add _ _ => "text_done" | .join _ _ => "text_done" | .long _ => "text_done"
  | .first _ _ => "row_done" | .last _ _ => "row_done" | .takefirst _ => "row_done" | .takelast _ => "row_done" | .many _ => "row_done" | .slice _ _ _ => "row_done" | .carry _ _ => "row_done"
  | .inn _ _ => "set_done" | .out _ _ => "set_done" | .within _ _ => "set_done" | .all _ => "set_done" | .both _ _ => "set_done" | .either _ _ => "set_done" | .less _ _ => "set_done"
  | .field _ _ _ => "table_done" | .ask _ _ => "table_done" | .nofield _ _ => "table_done" | .fields _ => "table_done"
  | _ => "rank_done"
theorem Deed.right {w : Deed} (ok : w.Ok) : wrongP w.wd w.args.length = .non := by
  cases w <;> simp only [Deed.Ok] at ok <;> simp only [Deed.wd, Deed.args, List.length_cons, List.length_nil] <;> first
    | rfl
    | (unfold wrongP
       first
         | (rw [show cntP _ = some (.tup [.int 1, .int 199]) from rfl]; simp only []; rw [if_pos (by omega)])
         | (rw [show cntP _ = some (.tup [.int 2, .int 199]) from rfl]; simp only []; rw [if_pos (by omega)]))
theorem c_answer_go {f : String} {xs : List D} {b1 b2 b3 b4 b5 : Bool} {x : D} {h' : List Cell} (hw : wrongP w xs.length = .non) (hl : xs.length ≤ 1000) (h1 : (tfind w kt_KEY_WORDS).isSome = b1) (h2 : (tfind w kt_TEXT_WORDS).isSome = b2) (h3 : (tfind w kt_ROW_WORDS).isSome = b3)
    (h4 : (tfind w kt_SET_WORDS).isSome = b4) (h5 : (tfind w kt_TABLE_WORDS).isSome = b5) (hf : f = bif b1 then "key_done" else bif b2 then "text_done" else bif b3 then "row_done" else bif b4 then "set_done" else bif b5 then "table_done" else "rank_done")
    (hd : callF prog (d + 2) f [.ref i, .str w, .lst xs] h = .ok (.val x) ⟨[], h'⟩) : callF prog (d + 3) "answer" [.ref i, .lst (.str w :: xs)] h = .ok (.val x) ⟨[], h'⟩ := by
  rw [callF_is (fn := f_answer) rfl rfl]
  have e := c_wrong (d := d) (h := h) (w := w) (xs := xs)
  rw [hw] at e
  have g : okSize xs.length = true := ok_of (by omega)
  have p0 : (0 : Int) < (xs.length : Int) + 1 := by omega
  subst hf
  cases b1 with
  | true =>
    simp only [cond_true] at hd
    simp [f_answer, run2, recv2, runIdx, seqOf, lstOf, oIdxL, atI, ixN, p0, part, runCut, cut1D, newLst, g, frzIt, getPl, putPl, e, run1, hd, h1]
  | false =>
    cases b2 with
    | true =>
      simp only [cond_true, cond_false] at hd
      simp [f_answer, run2, recv2, runIdx, seqOf, lstOf, oIdxL, atI, ixN, p0, part, runCut, cut1D, newLst, g, frzIt, getPl, putPl, e, run1, hd, h1, h2]
    | false =>
      cases b3 with
      | true =>
        simp only [cond_true, cond_false] at hd
        simp [f_answer, run2, recv2, runIdx, seqOf, lstOf, oIdxL, atI, ixN, p0, part, runCut, cut1D, newLst, g, frzIt, getPl, putPl, e, run1, hd, h1, h2, h3]
      | false =>
        cases b4 with
        | true =>
          simp only [cond_true, cond_false] at hd
          simp [f_answer, run2, recv2, runIdx, seqOf, lstOf, oIdxL, atI, ixN, p0, part, runCut, cut1D, newLst, g, frzIt, getPl, putPl, e, run1, hd, h1, h2, h3, h4]
        | false =>
          cases b5 <;> simp only [cond_true, cond_false] at hd <;> simp [f_answer, run2, recv2, runIdx, seqOf, lstOf, oIdxL, atI, ixN, p0, part, runCut, cut1D, newLst, g, frzIt, getPl, putPl, e, run1, hd, h1, h2, h3, h4, h5]
theorem c_answer_via {w : Deed} {r : Res} (ok : w.Ok) (hl : w.args.length ≤ 1000)
    (hd : Out (callF prog (d + 2) w.part [.ref i, .str w.wd, .lst (w.args.map .str)] h) h i p r) : Out (callF prog (d + 3) "answer" [.ref i, .lst (w.ws.map .str)] h) h i p r := by
  have hw := Deed.right ok
  rw [← List.length_map (f := D.str)] at hw
  cases w <;> exact c_answer_go hw (by rw [List.length_map]; exact hl) rfl rfl rfl rfl rfl rfl hd
end
end KW.Pl
/-! KwG13: all deeds answered; what stays. -/
namespace KW.Pl
theorem KV.Ok.txts {s : KV} {n : Nat} (I : s.Ok n) {k t : T} (e : tfind k s.held = some (.txt t)) : t.length ≤ 300 := (I.vs _ (tfind_mem e)).tx _ rfl
theorem c_answer {d : Nat} {h : List Cell} {i n : Nat} {s : KV} {p : Stp} {w : Deed} (ok : w.Ok) (I : s.Ok n) (hn : n ≤ 100000) (hp : p.m.length ≤ 1000000) (hi : h[i]? = some (cell s p)) :
    Out (callF prog (d + 9) "answer" [.ref i, .lst (w.ws.map .str)] h) h i p (w.res s) := by
  have z1 : p.m.length < sizeLine := by simp [sizeLine]; omega
  have z2 : s.held.length < sizeLine := by have := I.he; simp [sizeLine]; omega
  have z3 : p.m.length + 2 < sizeLine := by simp [sizeLine]; omega
  have z4 : s.held.length + 2 < sizeLine := by have := I.he; simp [sizeLine]; omega
  have z5 : s.ends.length < sizeLine := by have := I.en; simp [sizeLine]; omega
  have hl : w.args.length ≤ 1000 := by
    cases w <;> simp only [Deed.Ok] at ok <;> simp only [Deed.args, List.length_cons, List.length_nil] <;> omega
  refine c_answer_via (d := d + 6) ok hl ?_
  cases w with
  | has ks => exact c_has (d := d + 7) hi hl
  | drop ks => exact c_drops (d := d + 5) hi hl (by simp only [Deed.Ok] at ok; simp [sizeLine]; omega)
  | kind k => exact c_kindW (d := d + 6) hi
  | keys => exact c_keysW (d := d + 6) hi
  | ren o n => exact c_rename (d := d + 3) hi z3 z2 z5
  | endk k t => exact c_end (d := d + 5) hi z5
  | left k => exact c_left (d := d + 6) hi
  | stay k => exact c_stay (d := d + 6) hi
  | put k t => exact c_text_put (d := d + 3) hi z1 z2
  | putnew k t => exact c_text_putnew (d := d + 3) hi z1 z2
  | get k => exact c_text_get (d := d + 3) hi
  | swap k t => exact c_text_swap (d := d + 3) hi z1 z2
  | add k t => exact c_text_add (d := d + 3) hi z1 z2
  | join k t => exact c_text_join (d := d + 3) hi z1 z2 (fun t e => I.txts e) ok
  | long k => exact c_text_long (d := d + 3) hi
  | first k ts => exact c_row_first (d := d + 3) hi z1 z2 I.rows (by simp only [Deed.Ok] at ok; omega)
  | last k ts => exact c_row_last (d := d + 3) hi z1 z2 I.rows (by simp only [Deed.Ok] at ok; omega)
  | takefirst k => exact c_row_takefirst (d := d + 3) hi z1 z2 I.rows
  | takelast k => exact c_row_takelast (d := d + 3) hi z1 z2 I.rows
  | many k => exact c_row_many (d := d + 3) hi
  | slice k f l => exact c_row_slice (d := d + 3) hi I.rows
  | carry k o => exact c_row_carry (d := d + 2) hi z3 z4 I.rows
  | inn k ts => exact c_set_in (d := d + 3) hi z1 z2 I.sets (by simp only [Deed.Ok] at ok; omega)
  | out k ts => exact c_set_out (d := d + 3) hi z1 z2 (by simp only [Deed.Ok] at ok; omega)
  | within k t => exact c_set_within (d := d + 3) hi
  | all k => exact c_set_all (d := d + 3) hi I.sets
  | both k o => exact c_set_both (d := d + 3) hi I.sets
  | either k o => exact c_set_either (d := d + 3) hi I.sets
  | less k o => exact c_set_less (d := d + 3) hi I.sets
  | field k nm v => exact c_tab_field (d := d + 3) hi z1 z2 I.ents
  | ask k nm => exact c_tab_ask (d := d + 3) hi
  | nofield k ts => exact c_tab_nofield (d := d + 3) hi z1 z2 (by simp only [Deed.Ok] at ok; omega)
  | fields k => exact c_tab_fields (d := d + 3) hi I.ents
  | rank k v nm => exact c_rk_rank (d := d + 3) hi z1 z2 I.ents
  | unrank k ts => exact c_rk_unrank (d := d + 3) hi z1 z2 (by simp only [Deed.Ok] at ok; omega)
  | place k nm => exact c_rk_place (d := d + 3) hi I.ents
  | score k nm => exact c_rk_score (d := d + 3) hi
  | best k f l => exact c_rk_best (d := d + 3) hi I.ents
/-! what stays -/
section
variable {s : KV} {n : Nat} {k o t : T} {v : Val}
theorem KV.Ok.mono {m : Nat} (I : s.Ok n) (h : n ≤ m) : s.Ok m := ⟨Nat.le_trans I.he h, Nat.le_trans I.en h, I.vs, I.nd⟩
theorem KV.Ok.drop (I : s.Ok n) (k : T) : (s.drop k).Ok n := ⟨Nat.le_trans (tdel_len _ _) I.he, Nat.le_trans (tdel_len _ _) I.en, fun q hq => I.vs q (tdel_sub hq), tdel_nd I.nd⟩
theorem KV.Ok.noE (I : s.Ok n) (k : T) : (s.noEnd k).Ok n := ⟨I.he, Nat.le_trans (tdel_len _ _) I.en, I.vs, I.nd⟩
theorem KV.Ok.set (I : s.Ok n) (k : T) (h : v.Ok) : (s.setV k v).Ok (n + 1) := ⟨Nat.le_trans (tput_len_le _ _ _) (Nat.succ_le_succ I.he), Nat.le_succ_of_le I.en, fun q hq => by
  rcases tput_sub (show q ∈ tput k v s.held from hq) with h1 | rfl
  · exact I.vs q h1
  · exact h, tput_nd I.nd⟩
theorem KV.Ok.keep (I : s.Ok n) (k : T) (h : v.emp = false → v.Ok) : (s.keepV k v).Ok (n + 1) := by
  unfold KV.keepV
  split
  · exact (I.drop k).mono (Nat.le_succ n)
  · rename_i z
    exact I.set k (h (by simpa using z))
theorem KV.Ok.endT (I : s.Ok n) (k : T) (x : Option Int) : (s.endTo k x).Ok (n + 1) := by
  cases x with
  | none => exact I.mono (Nat.le_succ n)
  | some x => exact ⟨Nat.le_succ_of_le I.he, Nat.le_trans (tput_len_le _ _ _) (Nat.succ_le_succ I.en), I.vs, I.nd⟩
theorem okTxt (h : t.length ≤ 300) : (Val.txt t).Ok := ⟨rfl, fun t' e => (by cases e; exact h), fun _ e => (by cases e), fun _ e => (by cases e), fun _ e => (by cases e), fun _ e => (by cases e)⟩
theorem okRow {ts : List T} (h : ts.length ≤ 200) : (Val.row ts).emp = false → (Val.row ts).Ok := fun ne => ⟨ne, fun _ e => (by cases e), fun t' e => (by cases e; exact h), fun _ e => (by cases e), fun _ e => (by cases e), fun _ e => (by cases e)⟩
theorem okSet {m : SetM} (h : m.length ≤ 200) (h2 : (keysT m).Nodup) : (Val.set m).emp = false → (Val.set m).Ok := fun ne => ⟨ne, fun _ e => (by cases e), fun t' e => (by cases e), fun _ e => (by cases e; exact ⟨h, h2⟩), fun _ e => (by cases e), fun _ e => (by cases e)⟩
theorem okTab {m : List (T × T)} (h : m.length ≤ 100) (h2 : (keysT m).Nodup) : (Val.tab m).emp = false → (Val.tab m).Ok := fun ne => ⟨ne, fun _ e => (by cases e), fun t' e => (by cases e), fun _ e => (by cases e), fun _ e => (by cases e; exact ⟨h, h2⟩), fun _ e => (by cases e)⟩
theorem okRnk {m : List (T × Int)} (h : m.length ≤ 100) (h2 : (keysT m).Nodup) : (Val.rnk m).emp = false → (Val.rnk m).Ok := fun ne => ⟨ne, fun _ e => (by cases e), fun t' e => (by cases e), fun _ e => (by cases e), fun _ e => (by cases e), fun _ e => (by cases e; exact ⟨h, h2⟩)⟩
theorem digsW_len : ∀ (f n k : Nat), n < 10 ^ (k + 1) → (digs f n).length ≤ k + 1
  | 0, _, _, _ => Nat.zero_le _
  | f + 1, n, k, h => by
    unfold digs
    split
    · simp
    · cases k with
      | zero => rw [Nat.zero_add, Nat.pow_one] at h; omega
      | succ k =>
        have h2 : n / 10 < 10 ^ (k + 1) := by
          rw [Nat.pow_succ] at h
          omega
        have := digsW_len f (n / 10) k h2
        simp
        omega
theorem itoa_len {n : Int} (h : n.natAbs ≤ 999999999999999) : (itoa n).length ≤ 300 := by
  have := digsW_len (n.natAbs + 1) n.natAbs 14 (by omega)
  unfold itoa
  split
  · simp; omega
  · omega
/-- keys stand, few are touched -/
def Res.Good (r : Res) (n : Nat) : Prop := r.s.Ok (n + 2) ∧ r.ts.length ≤ 200
theorem good_same {a : D} (I : s.Ok n) : Res.Good ⟨s, [], a⟩ n := ⟨I.mono (by omega), by simp⟩
theorem good_keep {a : D} (I : s.Ok n) (h : v.emp = false → v.Ok) : (s.keepR k v a).Good n := ⟨(I.keep k h).mono (by omega), Nat.le_trans (keepT_len s k v) (by omega)⟩
theorem good_set {a : D} (I : s.Ok n) (h : v.Ok) : Res.Good ⟨s.setV k v, [k], a⟩ n := ⟨(I.set k h).mono (by omega), by simp⟩
theorem good_txt (I : s.Ok n) {f : Option T → Res} (h : ∀ o, (f o).Good n) : (onTxt s k f).Good n := by
  unfold onTxt
  split
  · exact good_same I
  · exact h _
theorem good_row (I : s.Ok n) {f : List T → Res} (h : ∀ o, s.row k = some o → (f o).Good n) : (onRow s k f).Good n := by
  unfold onRow
  split
  · exact good_same I
  · rename_i e
    exact h _ e
theorem good_st (I : s.Ok n) {f : SetM → Res} (h : ∀ o, s.st k = some o → (f o).Good n) : (onSet s k f).Good n := by
  unfold onSet
  split
  · exact good_same I
  · rename_i e
    exact h _ e
theorem good_ent {α : Type} {K : EK α} (I : s.Ok n) {f : List (T × α) → Res} (h : ∀ o, K.of s k = some o → (f o).Good n) : (onEnt K s k f).Good n := by
  unfold onEnt
  split
  · exact good_same I
  · rename_i e
    exact h _ e
theorem good_rowPut (I : s.Ok n) (ts : List T) : (rowPut s k ts).Good n := by
  unfold rowPut
  split
  · exact good_same I
  · exact good_keep I (okRow (by omega))
theorem puts_nd : ∀ (ts : List T) {m : SetM}, (keysT m).Nodup → (keysT (puts m ts)).Nodup
  | [], _, h => h
  | t :: r, m, h => puts_nd r (tput_nd h)
theorem dels_nd {α : Type} : ∀ (ts : List T) {m : List (T × α)}, (keysT m).Nodup → (keysT (dels m ts)).Nodup
  | [], _, h => h
  | t :: r, m, h => dels_nd r (tdel_nd h)
theorem good_entR {α : Type} {K : EK α} (I : s.Ok n) {m : List (T × α)} {nm : T} {x : α} (hm : m.length ≤ 100 ∧ (keysT m).Nodup) (hk : ∀ m : List (T × α), m.length ≤ 100 → (keysT m).Nodup → (K.vl m).emp = false → (K.vl m).Ok) : (entR K s k nm x m).Good n := by
  unfold entR
  split
  · rename_i e
    split
    · exact good_same I
    · rename_i z
      exact good_keep I (hk _ (by rw [tput_len, e]; simp; omega) (tput_nd hm.2))
  · rename_i u e
    split
    · exact good_same I
    · exact good_keep I (hk _ (by rw [tput_len, e]; simp; omega) (tput_nd hm.2))
theorem good_delR {α : Type} {K : EK α} (I : s.Ok n) {m : List (T × α)} {ts : List T} (hm : m.length ≤ 100 ∧ (keysT m).Nodup) (hk : ∀ m : List (T × α), m.length ≤ 100 → (keysT m).Nodup → (K.vl m).emp = false → (K.vl m).Ok) : (delR K s k ts m).Good n := by
  unfold delR
  split
  · exact good_keep I (hk _ (Nat.le_trans (dels_len _ _) hm.1) (dels_nd _ hm.2))
  · exact good_same I
theorem KV.Ok.dropAll : ∀ (ks : List T) {s : KV}, s.Ok n → (dropAll s ks).Ok n
  | [], _, I => I
  | k :: r, _, I => KV.Ok.dropAll r (I.drop k)
theorem Deed.good {w : Deed} (ok : w.Ok) (I : s.Ok n) : (w.res s).Good n := by
  cases w with
  | has ks => exact good_same I
  | drop ks => exact ⟨(I.dropAll ks).mono (by omega), Nat.le_trans (dropTs_len _ _) (by simp only [Deed.Ok] at ok; omega)⟩
  | kind k => exact good_same I
  | keys => exact good_same I
  | ren o k =>
    show (renP s o k).Good n
    unfold renP
    split
    · exact good_same I
    · rename_i v e
      refine ⟨((((I.drop o).drop k).keep k fun _ => I.vs _ (tfind_mem e)).endT k _).mono (by omega), ?_⟩
      have h1 := dropT_len (s.drop o) k
      have h2 := keepT_len ((s.drop o).drop k) k v
      simp
      omega
  | endk k t =>
    show (endP s k t).Good n
    unfold endP
    split
    · exact good_same I
    · rename_i m e1
      split
      · split
        · exact ⟨(I.endT k (some (s.now + m))).mono (by omega), by simp⟩
        · exact good_same I
      · exact good_same I
  | left k => exact good_same I
  | stay k => exact ⟨(I.noE k).mono (by omega), by simp [Deed.res, stayP]⟩
  | put k t => exact good_set (I.noE k) (okTxt ok)
  | putnew k t =>
    show (putnewP s k t).Good n
    unfold putnewP
    split
    · exact good_same I
    · exact good_set I (okTxt ok)
  | get k => exact good_txt I fun o => good_same I
  | swap k t => exact good_txt I fun o => good_set (I.noE k) (okTxt ok)
  | add k t =>
    refine good_txt I fun o => ?_
    unfold addP
    split
    · split
      · rename_i h
        exact good_set I (okTxt (itoa_len h))
      · exact good_same I
    · exact good_same I
  | join k t =>
    refine good_txt I fun o => ?_
    unfold joinP
    split
    · exact good_same I
    · rename_i h
      exact good_set I (okTxt (by rw [List.length_append]; omega))
  | long k => exact good_txt I fun o => good_same I
  | first k ts => exact good_row I fun o _ => good_rowPut I _
  | last k ts => exact good_row I fun o _ => good_rowPut I _
  | takefirst k =>
    refine good_row I fun o e => ?_
    have := I.rows k o e
    cases o with
    | nil => exact good_same I
    | cons x xs => exact good_keep I (okRow (by simp at this; omega))
  | takelast k =>
    refine good_row I fun o e => ?_
    have := I.rows k o e
    unfold takeL
    split
    · exact good_same I
    · exact good_keep I (okRow (by simp; omega))
  | many k => exact good_row I fun o _ => good_same I
  | slice k f l => exact good_row I fun o _ => good_same I
  | carry k o =>
    refine good_row I fun row e => ?_
    have l1 := I.rows k row e
    unfold carryO
    split
    · exact good_same I
    · rename_i other e2
      have l2 := I.rows o other e2
      unfold carryR
      split
      · exact good_same I
      · rename_i x e3
        have hne : row ≠ [] := fun z => by rw [z] at e3; cases e3
        have hp : 0 < row.length := List.length_pos_iff.mpr hne
        split
        · exact good_keep I (okRow (by simp; omega))
        · split
          · exact good_same I
          · refine ⟨((I.keep k (okRow (by simp; omega))).set o (okRow (by simp; omega) rfl)).mono (by omega), ?_⟩
            have := keepT_len s k (.row row.dropLast)
            simp
            omega
  | inn k ts =>
    refine good_st I fun m e => ?_
    have h := I.sets k m e
    unfold inR
    split
    · exact good_same I
    · split
      · exact good_keep I (okSet (by omega) (puts_nd ts h.2))
      · exact good_same I
  | out k ts =>
    refine good_st I fun m e => ?_
    have h := I.sets k m e
    unfold outR
    split
    · exact good_keep I (okSet (Nat.le_trans (dels_len _ _) h.1) (dels_nd ts h.2))
    · exact good_same I
  | within k t => exact good_st I fun m e => good_same I
  | all k => exact good_st I fun m e => good_same I
  | both k o =>
    show (onTwo s k o bothL).Good n
    unfold onTwo
    split <;> exact good_same I
  | either k o =>
    show (onTwo s k o eitherL).Good n
    unfold onTwo
    split <;> exact good_same I
  | less k o =>
    show (onTwo s k o lessL).Good n
    unfold onTwo
    split <;> exact good_same I
  | field k nm v => exact good_ent I fun m e => good_entR I (I.ents.1 k m e) fun m h1 h2 => okTab h1 h2
  | ask k nm => exact good_ent I fun m e => good_same I
  | nofield k ts => exact good_ent I fun m e => good_delR I (I.ents.1 k m e) fun m h1 h2 => okTab h1 h2
  | fields k => exact good_ent I fun m e => good_same I
  | rank k v nm =>
    refine good_ent I fun m e => ?_
    split
    · exact good_same I
    · exact good_entR I (I.ents.2 k m e) fun m h1 h2 => okRnk h1 h2
  | unrank k ts => exact good_ent I fun m e => good_delR I (I.ents.2 k m e) fun m h1 h2 => okRnk h1 h2
  | place k nm => exact good_ent I fun m e => good_same I
  | score k nm => exact good_ent I fun m e => good_same I
  | best k f l => exact good_ent I fun m e => good_same I
end
end KW.Pl
/-! KwG14: the picture. -/
namespace KW.Pl
/-- a loop that is never left -/
theorem for_inv {is : List Nat} {fb : S → R Flow} (P : List D → S → Prop) : ∀ (ds pre : List D) (s : S), P pre s →
    (∀ (a : List D) (d : D) (b : List D) (s : S), pre ++ ds = a ++ d :: b → P a s → ∃ s1 s2, bindT is d s = some s1 ∧ fb s1 = .ok .next s2 ∧ P (a ++ [d]) s2) → ∃ s', forLoop is fb ds s = .ok .next s' ∧ P (pre ++ ds) s'
  | [], pre, s, hp, _ => ⟨s, rfl, by simpa using hp⟩
  | d :: r, pre, s, hp, hs => by
    obtain ⟨s1, s2, e1, e2, hp2⟩ := hs pre d r s rfl hp
    obtain ⟨s', e3, hp3⟩ := for_inv P r (pre ++ [d]) s2 hp2 (fun a x b s e h => hs a x b s (by rw [← e]; simp) h)
    refine ⟨s', ?_, by simpa using hp3⟩
    rw [forLoop, e1]
    simp only []
    rw [e2, bind_ok]
    exact e3
def sortE {α : Type} (m : List (T × α)) : List (T × α) := sortB (fun a b => ltT a.1 b.1) m
def Val.shown : Val → D
  | .txt t => .str t
  | .row ts => .tup (ts.map .str)
  | .set m => .tup ((sortT (keysT m)).map .str)
  | .tab m => .tup ((sortE m).map fun q => .tup [.str q.1, .str q.2])
  | .rnk m => .tup ((sortE m).map fun q => .tup [.str q.1, .int q.2])
def KV.endD (s : KV) (k : T) : D := match tfind k s.ends with
  | some e => .int (e - s.now)
  | none => .non
def KV.rowP (s : KV) (k : T) : D := match tfind k s.held with
  | some v => .tup [.str k, .str v.kd, v.shown, s.endD k]
  | none => .non
def KV.rowX (s : KV) : D → D
  | .str k => s.rowP k
  | _ => .non
def picP (s : KV) : List D := (sortT (keysT s.held)).map s.rowP
theorem sortE_keys {α : Type} (m : List (T × α)) : (sortE m).map (·.1) = sortT (keysT m) := (sortB_map (fun a b : T × α => ltT a.1 b.1) ltT (·.1) m (List.pairwise_of_forall fun _ _ => rfl)).symm
theorem comp_sorted {α : Type} {m : List (T × α)} {h : List Cell} {C : CallF} {e : E} {σ : List (Option SV)} {j : Nat} {f : T × α → D} (hn : (keysT m).Nodup) (hl : m.length ≤ 1000) (h0 : σ[j]? = some none)
    (he : ∀ (t : T) (u : α), tfind t m = some u → exports (evalE C e ⟨σ.set j (some (.val (.str t))), h⟩) = .ok (f (t, u)) ⟨σ.set j (some (.val (.str t))), h⟩) :
    kComp C [j] [] e (.ok ((sortT (keysT m)).map .str, false) ⟨σ, h⟩) = .ok (.own (.lst ((sortE m).map f))) ⟨σ, h⟩ := by
  have hn2 : (keysT (sortE m)).Nodup := by
    have : (sortE m).map (·.1) = sortT (keysT m) := sortE_keys m
    show ((sortE m).map (·.1)).Nodup
    rw [this]
    have : (sortT (keysT m)).Perm (keysT m) := by
      unfold sortT
      generalize keysT m = l
      induction l with
      | nil => exact List.Perm.refl _
      | cons x r ih =>
        show (insB ltT x (sortB ltT r)).Perm _
        have ins : ∀ l : List T, (insB ltT x l).Perm (x :: l) := by
          intro l
          induction l with
          | nil => exact List.Perm.refl _
          | cons y s ih2 =>
            unfold insB
            split
            · exact (List.Perm.cons y ih2).trans (List.Perm.swap x y s)
            · exact List.Perm.refl _
        exact (ins _).trans (List.Perm.cons x ih)
    exact this.nodup_iff.mpr hn
  have hk : (sortT (keysT m)).map D.str = (keysT (sortE m)).map D.str := by
    show _ = ((sortE m).map (·.1)).map D.str
    rw [sortE_keys]
  rw [hk]
  refine comp_pairs hn2 (by unfold sortE; rw [sortB_len]; exact hl) h0 fun t u e => ?_
  refine he t u ?_
  have : (t, u) ∈ m := sortB_mem.mp (tfind_mem e)
  exact tfind_nd hn _ this
section
variable {d : Nat} {h : List Cell} {i n : Nat} {s : KV} {p : Stp} {k : T}
theorem c_picture (hi : h[i]? = some (cell s p)) (I : s.Ok n) (hn : n ≤ 1000) : callF prog (d + 1) "Store.picture" [.ref i] h = .ok (.own (.lst (picP s))) ⟨[], h⟩ := by
  rw [callF_is (fn := f_Store_picture) rfl rfl]
  have hl : s.held.length ≤ 1000 := Nat.le_trans I.he hn
  have k1 := fun hh q => sort_keysF vP (hh := hh) (q := q) (l := s.held) (by omega)
  obtain ⟨s', e, ⟨a, b, c, rfl⟩⟩ := for_inv (is := [2]) (fb := runB (callF prog d) b_Store_picture_0) (fun pre st => ∃ a b c, st = ⟨[some (.val (.ref i)), some (.own (.lst (pre.map s.rowX))), a, b, c, none], h⟩) ((sortT (keysT s.held)).map .str) [] ⟨[some (.val (.ref i)), some (.own (.lst [])), none, none, none, none], h⟩ ⟨none, none, none, rfl⟩ (by
    rintro pre x post st e ⟨a, b, c, rfl⟩
    rw [List.nil_append] at e
    have hx : x ∈ (sortT (keysT s.held)).map D.str := by rw [e]; simp
    have hpl : pre.length < sizeLine := by
      have := congrArg List.length e
      simp [sortT_len] at this
      simp [sizeLine]; omega
    obtain ⟨k, hk, rfl⟩ := List.mem_map.mp hx
    obtain ⟨v, hv⟩ := mem_tfind (sortT_mem.mp hk)
    have vo := I.vs _ (tfind_mem hv)
    have hr : s.rowP k = .tup [.str k, .str v.kd, v.shown, s.endD k] := by unfold KV.rowP; rw [hv]
    refine ⟨_, ⟨[some (.val (.ref i)), some (.own (.lst ((pre.map s.rowX) ++ [s.rowP k]))), some (.val (.str k)), some (.val (.str v.kd)), some (.val v.shown), none], h⟩, rfl, ?_, ⟨some (.val (.str k)), some (.val (.str v.kd)), some (.val v.shown), by rw [List.map_append]; rfl⟩⟩
    rw [hr]
    unfold KV.endD
    have ml : ∀ y : D, muL (pre.map s.rowX) .append [y] = some (.non, (pre.map s.rowX) ++ [y]) := fun y => by simp [muL, hpl]
    generalize (pre.map s.rowX) = acc at *
    cases v with
    | txt t =>
      cases e3 : tfind k s.ends <;>
        simp [runB, b_Store_picture_0, hi, cell, kcls, List.lookup, run1, run2, recv2, runIdx, seqOf, lstOf, dctOf, oIdxD, hv, e3, entOf, bindT, runCmp, runIn, inT, flat, deq, datOf, inD, vP, Val.kd, Val.pd, Val.shown, runMu, getPl, putPl, ml, recvM, oSub]
    | row ts =>
      cases e3 : tfind k s.ends <;>
        simp [runB, b_Store_picture_0, hi, cell, kcls, List.lookup, run1, run2, recv2, runIdx, seqOf, lstOf, dctOf, oIdxD, hv, e3, entOf, bindT, runCmp, runIn, inT, flat, deq, datOf, inD, vP, Val.kd, Val.pd, Val.shown, runMu, getPl, putPl, ml, recvM, oSub]
    | set m =>
      have ks := fun hh => sort_keys uD (hh := hh) (l := m) (by have := (vo.st _ rfl).1; omega)
      cases e3 : tfind k s.ends <;>
        simp [runB, b_Store_picture_0, hi, cell, kcls, List.lookup, run1, run2, recv2, runIdx, seqOf, lstOf, dctOf, oIdxD, hv, e3, entOf, bindT, runCmp, runIn, inT, flat, deq, datOf, inD, vP, Val.kd, Val.pd, Val.shown, runMu, getPl, putPl, ml, recvM, oSub, ks]
    | tab m =>
      obtain ⟨hm, hd⟩ := vo.tb _ rfl
      have ks := fun hh => sort_keys D.str (hh := hh) (l := m) (by omega)
      have hc := comp_sorted (C := callF prog d) (h := h) (m := m) (σ := [some (.val (.ref i)), some (.own (.lst acc)), some (.val (.str k)), some (.val (.str tabK)), some (.val (.dct (cD .str m))), none]) (j := 5) (e := .tup [.var 5, .p2 .idx (.var 4) (.var 5)]) (f := fun q => .tup [.str q.1, .str q.2]) hd (by omega) rfl (fun t u e => by
        simp [run2, recv2, runIdx, seqOf, lstOf, dctOf, oIdxD, entOf, e, exports])
      cases e3 : tfind k s.ends <;>
        simp [runB, b_Store_picture_0, hi, cell, kcls, List.lookup, run1, run2, recv2, runIdx, seqOf, lstOf, dctOf, oIdxD, hv, e3, entOf, bindT, runCmp, runIn, inT, flat, deq, datOf, inD, vP, Val.kd, Val.pd, Val.shown, runMu, getPl, putPl, ml, recvM, oSub, ks, muOf, hc, -List.map_map]
    | rnk m =>
      obtain ⟨hm, hd⟩ := vo.rk _ rfl
      have ks := fun hh => sort_keys D.int (hh := hh) (l := m) (by omega)
      have hc := comp_sorted (C := callF prog d) (h := h) (m := m) (σ := [some (.val (.ref i)), some (.own (.lst acc)), some (.val (.str k)), some (.val (.str rankK)), some (.val (.dct (cD .int m))), none]) (j := 5) (e := .tup [.var 5, .p2 .idx (.var 4) (.var 5)]) (f := fun q => .tup [.str q.1, .int q.2]) hd (by omega) rfl (fun t u e => by
        simp [run2, recv2, runIdx, seqOf, lstOf, dctOf, oIdxD, entOf, e, exports])
      cases e3 : tfind k s.ends <;>
        simp [runB, b_Store_picture_0, hi, cell, kcls, List.lookup, run1, run2, recv2, runIdx, seqOf, lstOf, dctOf, oIdxD, hv, e3, entOf, bindT, runCmp, runIn, inT, flat, deq, datOf, inD, vP, Val.kd, Val.pd, Val.shown, runMu, getPl, putPl, ml, recvM, oSub, ks, muOf, hc, -List.map_map])
  have ep : ((sortT (keysT s.held)).map D.str).map (s.rowX) = picP s := by
    unfold picP
    rw [List.map_map]
    rfl
  rw [List.nil_append, ep] at e
  simp [f_Store_picture, newLst, okSize, fHeld hi, run1, k1, seqOf, lstOf, muOf, isK, e]
end
end KW.Pl
/-! KwG15: what a deed leaves alone. -/
namespace KW.Pl
/-- the keys that a deed may write at -/
def Deed.wr : Deed → List T
  | .drop ks => ks | .ren o n => [o, n] | .endk k _ => [k] | .stay k => [k]
  | .put k _ => [k] | .putnew k _ => [k] | .swap k _ => [k] | .add k _ => [k] | .join k _ => [k]
  | .first k _ => [k] | .last k _ => [k] | .takefirst k => [k] | .takelast k => [k] | .carry k o => [k, o]
  | .inn k _ => [k] | .out k _ => [k] | .field k _ _ => [k] | .nofield k _ => [k] | .rank k _ _ => [k] | .unrank k _ => [k]
  | _ => []
section
variable {s : KV} {k o : T} {v : Val}
theorem fr_keepR {a : D} (h : o ≠ k) : tfind o (s.keepR k v a).s.held = tfind o s.held := keepV_ne h
theorem fr_txt {f : Option T → Res} (h : ∀ x, tfind o (f x).s.held = tfind o s.held) : tfind o (onTxt s k f).s.held = tfind o s.held := by
  unfold onTxt
  split
  · rfl
  · exact h _
theorem fr_row {f : List T → Res} (h : ∀ x, tfind o (f x).s.held = tfind o s.held) : tfind o (onRow s k f).s.held = tfind o s.held := by
  unfold onRow
  split
  · rfl
  · exact h _
theorem fr_set {f : SetM → Res} (h : ∀ x, tfind o (f x).s.held = tfind o s.held) : tfind o (onSet s k f).s.held = tfind o s.held := by
  unfold onSet
  split
  · rfl
  · exact h _
theorem fr_ent {α : Type} {K : EK α} {f : List (T × α) → Res} (h : ∀ x, tfind o (f x).s.held = tfind o s.held) : tfind o (onEnt K s k f).s.held = tfind o s.held := by
  unfold onEnt
  split
  · rfl
  · exact h _
theorem fr_rowPut {ts : List T} (h : o ≠ k) : tfind o (rowPut s k ts).s.held = tfind o s.held := by
  unfold rowPut
  split
  · rfl
  · exact fr_keepR h
theorem fr_entR {α : Type} {K : EK α} {nm : T} {x : α} {m : List (T × α)} (h : o ≠ k) : tfind o (entR K s k nm x m).s.held = tfind o s.held := by
  unfold entR
  split
  · split
    · rfl
    · exact fr_keepR h
  · split
    · rfl
    · exact fr_keepR h
theorem fr_delR {α : Type} {K : EK α} {ts : List T} {m : List (T × α)} (h : o ≠ k) : tfind o (delR K s k ts m).s.held = tfind o s.held := by
  unfold delR
  split
  · exact fr_keepR h
  · rfl
theorem fr_drops : ∀ (ks : List T) (s : KV), o ∉ ks → tfind o (dropAll s ks).held = tfind o s.held
  | [], _, _ => rfl
  | k :: r, s, h => by
    have h1 : o ≠ k := fun z => h (by simp [z])
    have h2 := fr_drops r (s.drop k) fun z => h (by simp [z])
    show tfind o (dropAll (s.drop k) r).held = _
    rw [h2]
    exact tfind_tdel_ne h1
theorem Deed.frame (s : KV) {w : Deed} (h : o ∉ w.wr) : tfind o (w.res s).s.held = tfind o s.held := by
  cases w <;> simp only [Deed.wr, List.mem_cons, List.not_mem_nil, or_false, not_or] at h <;> first | rfl | skip
  case drop ks => exact fr_drops ks s h
  case ren a b =>
    show tfind o (renP s a b).s.held = _
    unfold renP
    split
    · rfl
    · rename_i v e
      have e1 : ∀ (t : KV) (x : Option Int), (t.endTo b x).held = t.held := fun t x => by cases x <;> rfl
      rw [e1, keepV_ne h.2]
      show tfind o (tdel b (tdel a s.held)) = _
      rw [tfind_tdel_ne h.2, tfind_tdel_ne h.1]
  case endk a b =>
    show tfind o (endP s a b).s.held = _
    unfold endP
    split
    · rfl
    · split
      · split <;> rfl
      · rfl
  case put a b => exact tfind_tput_ne h
  case putnew a b =>
    show tfind o (putnewP s a b).s.held = _
    unfold putnewP
    split
    · rfl
    · exact tfind_tput_ne h
  case get => exact fr_txt fun x => rfl
  case swap a b => exact fr_txt fun x => tfind_tput_ne h
  case add a b =>
    refine fr_txt fun x => ?_
    unfold addP
    split
    · split
      · exact tfind_tput_ne h
      · rfl
    · rfl
  case join a b =>
    refine fr_txt fun x => ?_
    unfold joinP
    split
    · rfl
    · exact tfind_tput_ne h
  case long => exact fr_txt fun x => rfl
  case first a b => exact fr_row fun x => fr_rowPut h
  case last a b => exact fr_row fun x => fr_rowPut h
  case takefirst a =>
    refine fr_row fun x => ?_
    cases x with
    | nil => rfl
    | cons y r => exact fr_keepR h
  case takelast a =>
    refine fr_row fun x => ?_
    unfold takeL
    split
    · rfl
    · exact fr_keepR h
  case many => exact fr_row fun x => rfl
  case slice => exact fr_row fun x => rfl
  case carry a b =>
    refine fr_row fun x => ?_
    unfold carryO
    split
    · rfl
    · unfold carryR
      split
      · rfl
      · split
        · exact fr_keepR h.1
        · split
          · rfl
          · show tfind o (tput b _ (s.keepV a _).held) = _
            rw [tfind_tput_ne h.2, keepV_ne h.1]
  case inn a b =>
    refine fr_set fun x => ?_
    unfold inR
    split
    · rfl
    · split
      · exact fr_keepR h
      · rfl
  case out a b =>
    refine fr_set fun x => ?_
    unfold outR
    split
    · exact fr_keepR h
    · rfl
  case within => exact fr_set fun x => rfl
  case all => exact fr_set fun x => rfl
  case both a b =>
    show tfind o (onTwo s a b bothL).s.held = _
    unfold onTwo
    split <;> rfl
  case either a b =>
    show tfind o (onTwo s a b eitherL).s.held = _
    unfold onTwo
    split <;> rfl
  case less a b =>
    show tfind o (onTwo s a b lessL).s.held = _
    unfold onTwo
    split <;> rfl
  case field => exact fr_ent fun x => fr_entR h
  case ask => exact fr_ent fun x => rfl
  case nofield => exact fr_ent fun x => fr_delR h
  case fields => exact fr_ent fun x => rfl
  case rank a b c =>
    refine fr_ent fun x => ?_
    split
    · rfl
    · exact fr_entR h
  case unrank => exact fr_ent fun x => fr_delR h
  case place => exact fr_ent fun x => rfl
  case score => exact fr_ent fun x => rfl
  case best => exact fr_ent fun x => rfl
end
end KW.Pl
/-! KwH4: orders of texts. -/
namespace KW.Pl
theorem ltT_irr : ∀ a : T, ltT a a = false
  | [] => rfl
  | x :: r => by
    unfold ltT
    rw [if_neg (Nat.lt_irrefl x), if_neg (Nat.lt_irrefl x)]
    exact ltT_irr r
theorem ltT_trans : ∀ {a b c : T}, ltT a b = true → ltT b c = true → ltT a c = true
  | [], [], _, h, _ => by simp [ltT] at h
  | [], _ :: _, [], _, h => by simp [ltT] at h
  | [], _ :: _, _ :: _, _, _ => rfl
  | _ :: _, [], _, h, _ => by simp [ltT] at h
  | _ :: _, _ :: _, [], _, h => by simp [ltT] at h
  | x :: a, y :: b, z :: c, h1, h2 => by
    unfold ltT at h1 h2 ⊢
    by_cases e1 : x < y
    · by_cases e2 : y < z
      · rw [if_pos (Nat.lt_trans e1 e2)]
      · rw [if_neg e2] at h2
        by_cases e3 : z < y
        · rw [if_pos e3] at h2; cases h2
        · rw [if_pos (by omega)]
    · rw [if_neg e1] at h1
      by_cases e4 : y < x
      · rw [if_pos e4] at h1; cases h1
      · rw [if_neg e4] at h1
        have : x = y := by omega
        subst this
        by_cases e2 : x < z
        · rw [if_pos e2]
        · rw [if_neg e2] at h2 ⊢
          by_cases e3 : z < x
          · rw [if_pos e3] at h2; cases h2
          · rw [if_neg e3] at h2 ⊢
            exact ltT_trans h1 h2
theorem ltT_tri : ∀ {a b : T}, a ≠ b → ltT a b = true ∨ ltT b a = true
  | [], [], h => absurd rfl h
  | [], _ :: _, _ => .inl rfl
  | _ :: _, [], _ => .inr rfl
  | x :: a, y :: b, h => by
    unfold ltT
    by_cases e1 : x < y
    · exact .inl (by rw [if_pos e1])
    · by_cases e2 : y < x
      · exact .inr (by rw [if_pos e2])
      · have : x = y := by omega
        subst this
        rw [if_neg e1, if_neg e1, if_neg e1, if_neg e1]
        exact ltT_tri fun z => h (by rw [z])
theorem ltT_asymm {a b : T} (h : ltT a b = true) : ltT b a = false := by
  cases e : ltT b a with
  | false => rfl
  | true =>
    have := ltT_trans h e
    rw [ltT_irr] at this
    cases this
def Srtd (l : List T) : Prop := l.Pairwise fun a b => ltT a b = true
theorem insB_sorted {x : T} : ∀ {l : List T}, Srtd l → x ∉ l → Srtd (insB ltT x l)
  | [], _, _ => List.pairwise_singleton _ _
  | y :: r, h, hx => by
    have h' := List.pairwise_cons.mp h
    unfold insB
    split
    · rename_i e
      refine List.pairwise_cons.mpr ⟨fun z hz => ?_, insB_sorted h'.2 fun q => hx (List.mem_cons_of_mem _ q)⟩
      rcases insB_mem.mp hz with rfl | hz
      · exact e
      · exact h'.1 z hz
    · rename_i e
      have hxy : ltT x y = true := by
        rcases ltT_tri (show x ≠ y from fun q => hx (by rw [q]; exact List.mem_cons_self)) with h | h
        · exact h
        · exact absurd h e
      refine List.pairwise_cons.mpr ⟨fun z hz => ?_, h⟩
      rcases List.mem_cons.mp hz with rfl | hz
      · exact hxy
      · exact ltT_trans hxy (h'.1 z hz)
theorem sortT_sorted : ∀ {l : List T}, l.Nodup → Srtd (sortT l)
  | [], _ => .nil
  | x :: r, h => by
    rw [List.nodup_cons] at h
    exact insB_sorted (sortT_sorted h.2) fun q => h.1 (sortT_mem.mp q)
theorem srtd_nodup {l : List T} (h : Srtd l) : l.Nodup := List.Pairwise.imp (fun {a b} h z => by rw [z, ltT_irr] at h; cases h) h
theorem srtd_ext : ∀ {a b : List T}, Srtd a → Srtd b → (∀ x, x ∈ a ↔ x ∈ b) → a = b
  | [], [], _, _, _ => rfl
  | [], y :: s, _, _, h => absurd ((h y).mpr List.mem_cons_self) (by simp)
  | x :: r, [], _, _, h => absurd ((h x).mp List.mem_cons_self) (by simp)
  | x :: r, y :: s, h1, h2, h => by
    have a1 := List.pairwise_cons.mp h1
    have a2 := List.pairwise_cons.mp h2
    have e : x = y := by
      rcases List.mem_cons.mp ((h x).mp List.mem_cons_self) with e | e
      · exact e
      · rcases List.mem_cons.mp ((h y).mpr List.mem_cons_self) with e' | e'
        · exact e'.symm
        · have b1 := a2.1 x e
          have b2 := a1.1 y e'
          rw [ltT_asymm b1] at b2
          cases b2
    subst e
    congr 1
    refine srtd_ext a1.2 a2.2 fun z => ⟨fun hz => ?_, fun hz => ?_⟩
    · rcases List.mem_cons.mp ((h z).mp (List.mem_cons_of_mem _ hz)) with rfl | q
      · have := a1.1 z hz
        rw [ltT_irr] at this
        cases this
      · exact q
    · rcases List.mem_cons.mp ((h z).mpr (List.mem_cons_of_mem _ hz)) with rfl | q
      · have := a2.1 z hz
        rw [ltT_irr] at this
        cases this
      · exact q
theorem sortT_ext {a b : List T} (h1 : a.Nodup) (h2 : b.Nodup) (h : ∀ x, x ∈ a ↔ x ∈ b) : sortT a = sortT b :=
  srtd_ext (sortT_sorted h1) (sortT_sorted h2) fun x => by rw [sortT_mem, sortT_mem]; exact h x
theorem sortT_filter {l : List T} (h : l.Nodup) (q : T → Bool) : (sortT l).filter q = sortT (l.filter q) :=
  srtd_ext ((sortT_sorted h).filter q) (sortT_sorted (h.filter q)) fun x => by rw [List.mem_filter, sortT_mem, sortT_mem, List.mem_filter]
theorem sortT_id {l : List T} (h : Srtd l) : sortT l = l := srtd_ext (sortT_sorted (srtd_nodup h)) h fun x => sortT_mem
theorem sortT_nodup {l : List T} (h : l.Nodup) : (sortT l).Nodup := srtd_nodup (sortT_sorted h)
/-! a list's texts, each once -/
def dedupT : List T → List T
  | [] => []
  | x :: r => if x ∈ r then dedupT r else x :: dedupT r
theorem dedupT_mem {z : T} : ∀ {l : List T}, z ∈ dedupT l ↔ z ∈ l
  | [] => Iff.rfl
  | x :: r => by
    unfold dedupT
    split
    · rename_i h
      rw [dedupT_mem, List.mem_cons]
      constructor
      · exact .inr
      · rintro (rfl | h')
        · exact h
        · exact h'
    · rw [List.mem_cons, dedupT_mem, List.mem_cons]
theorem dedupT_nd : ∀ l : List T, (dedupT l).Nodup
  | [] => .nil
  | x :: r => by
    unfold dedupT
    split
    · exact dedupT_nd r
    · rename_i h
      exact List.nodup_cons.mpr ⟨fun q => h (dedupT_mem.mp q), dedupT_nd r⟩
theorem dedup_str : ∀ l : List T, dedup (l.map .str) = (dedupT l).map .str
  | [] => rfl
  | x :: r => by
    have e : (r.map D.str).any (fun y => deq y (.str x)) = decide (x ∈ r) := by
      rw [List.any_map]
      induction r with
      | nil => rfl
      | cons y s ih =>
        rw [List.any_cons, ih]
        by_cases h : y = x
        · simp [deq, h]
        · have : ¬ x = y := fun z => h z.symm
          simp [deq, h, this]
    rw [List.map_cons, dedup, dedupT, e]
    by_cases h : x ∈ r
    · simp only [h, decide_true, if_true]
      exact dedup_str r
    · simp only [h, decide_false, Bool.false_eq_true, if_false, List.map_cons]
      rw [dedup_str r]
theorem strsOf_map : ∀ l : List T, strsOf (l.map .str) = some l
  | [] => rfl
  | t :: r => by
    show (strsOf (r.map .str)).map (t :: ·) = _
    rw [strsOf_map r]; rfl
theorem set_strs {l : List T} (h : l.length < 4000) : oSet (l.map .str) = some ((dedupT l).map .str) := by
  unfold oSet
  rw [if_pos, dedup_str]
  rw [strsOf_map, List.length_map]
  exact Bool.and_eq_true_iff.mpr ⟨rfl, decide_eq_true h⟩
theorem dedupT_len : ∀ l : List T, (dedupT l).length ≤ l.length
  | [] => Nat.le_refl _
  | x :: r => by
    unfold dedupT
    have := dedupT_len r
    split <;> simp <;> omega
theorem sorted_set {hh : List Cell} {l : List T} (hl : l.length < 4000) : run1 hh .sortedSet (.own (.lst (l.map .str))) = some (.own (.lst ((sortT (dedupT l)).map .str))) := by
  show (some (l.map D.str)).bind (fun xs => (oSet xs).bind fun ys => newLst (sortD ys)) = _
  simp only [Option.bind_some, set_strs hl]
  rw [sortD_str, newLst, if_pos]
  exact ok_of (by rw [List.length_map, sortT_len]; have := dedupT_len l; omega)
/-! sets -/
theorem puts_mem {z : T} : ∀ {ts : List T} {m : SetM}, z ∈ keysT (puts m ts) ↔ z ∈ keysT m ∨ z ∈ ts
  | [], m => by simp [puts]
  | t :: r, m => by
    show z ∈ keysT (puts (tput t () m) r) ↔ _
    rw [puts_mem, List.mem_cons]
    have e : z ∈ keysT (tput t () m) ↔ z ∈ keysT m ∨ z = t := by
      cases h : tfind t m with
      | some u =>
        show z ∈ (tput t () m).map (·.1) ↔ _
        rw [tput_keys h]
        constructor
        · exact .inl
        · rintro (h' | rfl)
          · exact h'
          · exact List.mem_map.mpr ⟨_, tfind_mem h, rfl⟩
      | none =>
        rw [tput_new h]
        simp [keysT]
    rw [e]
    constructor
    · rintro ((h | h) | h)
      · exact .inl h
      · exact .inr (.inl h)
      · exact .inr (.inr h)
    · rintro (h | h | h)
      · exact .inl (.inl h)
      · exact .inl (.inr h)
      · exact .inr h
theorem dels_is {α : Type} : ∀ (ts : List T) (m : List (T × α)), dels m ts = m.filter fun q => !decide (q.1 ∈ ts)
  | [], m => by
    show m = _
    rw [List.filter_eq_self.mpr]
    intro q _
    simp
  | t :: r, m => by
    show dels (tdel t m) r = _
    rw [dels_is r]
    unfold tdel
    rw [List.filter_filter]
    apply List.filter_congr
    intro q _
    by_cases h1 : q.1 = t <;> by_cases h2 : q.1 ∈ r <;> simp [h1, h2]
theorem keys_filter {α : Type} (p : T → Bool) (m : List (T × α)) : keysT (m.filter fun q => p q.1) = (keysT m).filter p := by
  unfold keysT
  rw [List.filter_map]
  rfl
theorem find_iff {α : Type} {t : T} {m : List (T × α)} : (tfind t m).isSome = decide (t ∈ keysT m) := by
  cases h : tfind t m with
  | some u => exact (decide_eq_true (List.mem_map.mpr ⟨_, tfind_mem h, rfl⟩)).symm
  | none =>
    refine (decide_eq_false fun q => ?_).symm
    obtain ⟨u, hu⟩ := mem_tfind q
    rw [h] at hu
    cases hu
theorem in_is {m : SetM} (h : (keysT m).Nodup) (ts : List T) : sortT (dedupT (sortT (keysT m) ++ ts)) = sortT (keysT (puts m ts)) :=
  sortT_ext (dedupT_nd _) (puts_nd ts h) fun x => by rw [dedupT_mem, List.mem_append, sortT_mem, puts_mem]
theorem out_is {m : SetM} (h : (keysT m).Nodup) (ts : List T) : (sortT (keysT m)).filter (fun t => !decide (t ∈ ts)) = sortT (keysT (dels m ts)) := by
  rw [dels_is, keys_filter (fun t => !decide (t ∈ ts)), sortT_filter h]
theorem both_is {m : SetM} (n : SetM) (h : (keysT m).Nodup) : (sortT (keysT m)).filter (fun t => decide (t ∈ sortT (keysT n))) = sortT (bothL m n) := by
  rw [sortT_filter h]
  unfold bothL
  congr 1
  apply List.filter_congr
  intro t _
  rw [find_iff]
  simp only [sortT_mem]
theorem less_is {m : SetM} (n : SetM) (h : (keysT m).Nodup) : (sortT (keysT m)).filter (fun t => !decide (t ∈ sortT (keysT n))) = sortT (lessL m n) := by
  rw [sortT_filter h]
  unfold lessL
  congr 1
  apply List.filter_congr
  intro t _
  rw [find_iff]
  simp only [sortT_mem]
theorem either_is {m n : SetM} (h : (keysT m).Nodup) (h2 : (keysT n).Nodup) : sortT (dedupT (sortT (keysT m) ++ sortT (keysT n))) = sortT (eitherL m n) := by
  refine sortT_ext (dedupT_nd _) ?_ fun x => ?_
  · unfold eitherL lessL
    rw [List.nodup_append]
    refine ⟨h, h2.filter _, fun a ha b hb => ?_⟩
    rw [List.mem_filter, find_iff] at hb
    rintro rfl
    simp [ha] at hb
  · rw [dedupT_mem, List.mem_append, sortT_mem, sortT_mem]
    unfold eitherL lessL
    rw [List.mem_append, List.mem_filter, find_iff]
    constructor
    · rintro (h | h)
      · exact .inl h
      · by_cases q : x ∈ keysT m
        · exact .inl q
        · exact .inr ⟨h, by simp [q]⟩
    · rintro (h | h)
      · exact .inl h
      · exact .inr h.1
theorem inL_strs (t : T) (ts : List T) : inL (ts.map .str) (.str t) = some (decide (t ∈ ts)) := by
  unfold inL
  rw [if_pos]
  · congr 1
    rw [List.any_map]
    induction ts with
    | nil => simp
    | cons x r ih =>
      rw [List.any_cons, ih]
      by_cases e : x = t
      · simp [deq, e]
      · have : ¬ t = x := fun z => e z.symm
        simp [deq, e, this]
  · rw [all_shaped]; rfl
end KW.Pl
/-! KwJ1: draws. -/
namespace KW.Pl
section
variable {d j : Nat} {h : List Cell} {ns : List Int} {town : List D}
theorem l_cell {k : Int} (hk : 0 ≤ k) : ∃ x : Int, callF prog (d + 1) "_law_cell" [.lst (ns.map .int), .int k] h = .ok (.val (.int x)) ⟨[], h⟩ := by
  cases ns with
  | nil =>
    refine ⟨0, ?_⟩
    rw [callF_is (fn := f__law_cell) rfl rfl]
    simp [f__law_cell]
  | cons a r =>
    have hp : (0 : Int) < (((a :: r).length : Nat) : Int) := by
      rw [List.length_cons]
      omega
    have e1 := Int.emod_nonneg k (Int.ne_of_gt hp)
    have e2 := Int.emod_lt_of_pos k hp
    have hlt : (k % (((a :: r).length : Nat) : Int)).toNat < (a :: r).length := by omega
    refine ⟨(a :: r)[(k % (((a :: r).length : Nat) : Int)).toNat]'hlt, ?_⟩
    rw [callF_is (fn := f__law_cell) rfl rfl]
    have e3 : atI ((a :: r).map D.int) (k % (((a :: r).length : Nat) : Int)) = some (.int ((a :: r)[(k % (((a :: r).length : Nat) : Int)).toNat]'hlt)) := by
      unfold atI ixN
      rw [List.length_map, if_pos e1, if_pos e2]
      show ((a :: r).map D.int)[_]? = _
      rw [List.getElem?_map, List.getElem?_eq_getElem hlt]
      rfl
    generalize hz : (a :: r)[(k % (((a :: r).length : Nat) : Int)).toNat]'hlt = z at *
    generalize hl : (a :: r).map D.int = l at *
    have hle : l.isEmpty = false := by rw [← hl]; rfl
    have hll : l.length = (a :: r).length := by rw [← hl, List.length_map]
    rw [← hll] at e3 hp
    have hp2 : 0 < l.length := by omega
    simp [f__law_cell, hle, run1, run2, recv2, oLen, seqOf, lstOf, oMod, hp2, runIdx, oIdxL, e3]
theorem l_mix {k : Int} (hk : 0 ≤ k) : ∃ x : Int, 0 ≤ x ∧ callF prog (d + 2) "_law_mix" [.lst (ns.map .int), .int k] h = .ok (.val (.int x)) ⟨[], h⟩ := by
  obtain ⟨x, e⟩ := l_cell (d := d) (h := h) (ns := ns) hk
  rw [callF_is (fn := f__law_mix) rfl rfl]
  have b1 := Int.emod_nonneg ((x + 104729 * (k + 1))) (show (4294967291 : Int) ≠ 0 by decide)
  have b2 := Int.emod_lt_of_pos ((x + 104729 * (k + 1))) (show (0 : Int) < 4294967291 by decide)
  have g1 : -18446744073709551616 < (x + 104729 * (k + 1)) % 4294967291 := by omega
  have g2 : (x + 104729 * (k + 1)) % 4294967291 < 18446744073709551616 := by omega
  generalize hy : (x + 104729 * (k + 1)) % 4294967291 = y at *
  have b3 := Int.emod_nonneg (y * 48271) (show (4294967279 : Int) ≠ 0 by decide)
  have b4 := Int.emod_lt_of_pos (y * 48271) (show (0 : Int) < 4294967279 by decide)
  generalize hz : y * 48271 % 4294967279 = z at *
  have g3 : -18446744073709551616 < z / 64 := by omega
  have g4 : z / 64 < 18446744073709551616 := by omega
  refine ⟨(z / 64 * 69621 + z) % 4294967231, Int.emod_nonneg _ (by decide), ?_⟩
  simp [f__law_mix, e, run2, recv2, oAdd, oMul, oMod, oDiv, hy, g1, g2, hz, g3, g4]
theorem l_draw {m : Int} (hm : 0 < m) (hj : h[j]? = some (.lst town)) (hz : town.length < 1000000) : ∃ r : Int, 0 ≤ r ∧ r < m ∧ callF prog (d + 3) "_law_draw" [.lst (ns.map .int), .ref j, .int m] h = .ok (.val (.int r)) ⟨[], h.set j (.lst (town ++ [.int 0]))⟩ := by
  obtain ⟨x, hx, e⟩ := l_mix (d := d) (h := h.set j (.lst (town ++ [.int 0]))) (ns := ns) (k := ((town.length : Int) + 1)) (by omega)
  refine ⟨x / 8 % m, Int.emod_nonneg _ (by omega), Int.emod_lt_of_pos _ hm, ?_⟩
  rw [callF_is (fn := f__law_draw) rfl rfl]
  have g : town.length < sizeLine := by simp [sizeLine]; omega
  simp [f__law_draw, hj, recvM, lstOf, runMu, muL, g, run1, run2, recv2, oLen, seqOf, e, oDiv, oMod, hm]
theorem l_pick {ys : List D} (hy : ys ≠ []) (hj : h[j]? = some (.lst town)) (hz : town.length < 1000000) : ∃ y ∈ ys, callF prog (d + 4) "_law_pick" [.lst (ns.map .int), .ref j, .lst ys] h = .ok (.val y) ⟨[], h.set j (.lst (town ++ [.int 0]))⟩ := by
  have hp : 0 < ys.length := List.length_pos_iff.mpr hy
  obtain ⟨r, h1, h2, e⟩ := l_draw (d := d) (h := h) (j := j) (ns := ns) (m := (ys.length : Int)) (by omega) hj hz
  have hlt : r.toNat < ys.length := by omega
  refine ⟨ys[r.toNat], List.getElem_mem hlt, ?_⟩
  rw [callF_is (fn := f__law_pick) rfl rfl]
  have e3 : atI ys r = some ys[r.toNat] := by
    unfold atI ixN
    rw [if_pos h1, if_pos h2]
    show ys[_]? = _
    rw [List.getElem?_eq_getElem hlt]
  simp [f__law_pick, run1, oLen, seqOf, lstOf, e, run2, recv2, runIdx, oIdxL, e3]
/-- what was drawn ahead is some list -/
theorem d_draw {m : Int} (hm : 0 < m) (hj : h[j]? = some (.lst town)) (hz : town.length < 1000000) : ∃ r : Int, 0 ≤ r ∧ r < m ∧ ∃ tw : List D, tw.length = town.length + 1 ∧ (h.set j (.lst tw))[j]? = some (.lst tw) ∧ callF prog (d + 3) "_law_draw" [.lst (ns.map .int), .ref j, .int m] h = .ok (.val (.int r)) ⟨[], h.set j (.lst tw)⟩ := by
  obtain ⟨r, h1, h2, e⟩ := l_draw (d := d) (ns := ns) hm hj hz
  exact ⟨r, h1, h2, _, by simp, by rw [get_set, hj]; rfl, e⟩
theorem d_pick {ys : List D} (hy : ys ≠ []) (hj : h[j]? = some (.lst town)) (hz : town.length < 1000000) : ∃ y ∈ ys, ∃ tw : List D, tw.length = town.length + 1 ∧ (h.set j (.lst tw))[j]? = some (.lst tw) ∧ callF prog (d + 4) "_law_pick" [.lst (ns.map .int), .ref j, .lst ys] h = .ok (.val y) ⟨[], h.set j (.lst tw)⟩ := by
  obtain ⟨y, h1, e⟩ := l_pick (d := d) (ns := ns) hy hj hz
  exact ⟨y, h1, _, by simp, by rw [get_set, hj]; rfl, e⟩
/-- one of some texts -/
theorem d_pickT {ys : List T} (hy : ys ≠ []) (hj : h[j]? = some (.lst town)) (hz : town.length < 1000000) : ∃ t ∈ ys, ∃ tw : List D, tw.length = town.length + 1 ∧ (h.set j (.lst tw))[j]? = some (.lst tw) ∧ callF prog (d + 4) "_law_pick" [.lst (ns.map .int), .ref j, .lst (ys.map .str)] h = .ok (.val (.str t)) ⟨[], h.set j (.lst tw)⟩ := by
  obtain ⟨y, hm, tw, h1, h2, e⟩ := d_pick (d := d) (ns := ns) (ys := ys.map .str) (by simpa using hy) hj hz
  obtain ⟨t, ht, rfl⟩ := List.mem_map.mp hm
  exact ⟨t, ht, tw, h1, h2, e⟩
end
end KW.Pl
/-! KwJ0: pictures are data; a new store. -/
namespace KW.Pl
mutual
theorem deq_refl : ∀ d : D, isData d = true → deq d d = true
  | .non, _ => rfl
  | .bl b, _ => by simp [deq]
  | .int i, _ => by simp [deq]
  | .str t, _ => by simp [deq]
  | .tup xs, h => by
    unfold deq
    exact deqs_refl xs (by simpa [isData] using h)
  | .lst xs, h => by
    unfold deq
    exact deqs_refl xs (by simpa [isData] using h)
  | .dct _, h => by simp [isData] at h
  | .ref _, h => by simp [isData] at h
  | .exc _ _, h => by simp [isData] at h
theorem deqs_refl : ∀ xs : List D, isDatas xs = true → deqs xs xs = true
  | [], _ => rfl
  | x :: r, h => by
    simp only [isDatas, Bool.and_eq_true] at h
    unfold deqs
    rw [deq_refl x h.1, deqs_refl r h.2]; rfl
end
theorem eqD_self {d : D} (h : shaped d = true) : eqD d d = some true := by
  unfold eqD
  rw [if_pos (by rw [h]; rfl)]
  have h1 : isData d = true := by
    unfold shaped at h
    exact (Bool.and_eq_true_iff.mp h).1
  rw [deq_refl d h1]
/-- data of some depth at most -/
def Flat (d : D) (n : Nat) : Prop := isData d = true ∧ dep d ≤ n
theorem flats {l : List D} {n : Nat} (h : ∀ d ∈ l, Flat d n) : isDatas l = true ∧ deps l ≤ n := by
  induction l with
  | nil => exact ⟨rfl, Nat.zero_le _⟩
  | cons x r ih =>
    obtain ⟨h1, h2⟩ := ih fun d hd => h d (by simp [hd])
    obtain ⟨h3, h4⟩ := h x (by simp)
    constructor
    · simp [isDatas, h1, h3]
    · simp only [deps]
      omega
theorem flat_lst {l : List D} {n : Nat} (h : ∀ d ∈ l, Flat d n) : Flat (.lst l) (n + 1) := by
  obtain ⟨h1, h2⟩ := flats h
  exact ⟨by simp [isData, h1], by simp only [dep]; omega⟩
theorem flat_tup {l : List D} {n : Nat} (h : ∀ d ∈ l, Flat d n) : Flat (.tup l) (n + 1) := by
  obtain ⟨h1, h2⟩ := flats h
  exact ⟨by simp [isData, h1], by simp only [dep]; omega⟩
theorem Flat.mono {d : D} {n m : Nat} (h : Flat d n) (hn : n ≤ m) : Flat d m := ⟨h.1, Nat.le_trans h.2 hn⟩
theorem Flat.shaped {d : D} {n : Nat} (h : Flat d n) (hn : n ≤ 60) : shaped d = true := by
  simp [KW.shaped, h.1]
  have := h.2
  omega
theorem flat_strs (ts : List T) : ∀ d ∈ ts.map D.str, Flat d 0 := fun d hd => by
  obtain ⟨t, _, rfl⟩ := List.mem_map.mp hd
  exact ⟨rfl, Nat.le_refl _⟩
theorem strs_shaped (ts : List T) : shaped (.lst (ts.map .str)) = true := (flat_lst (flat_strs ts)).shaped (by omega)
theorem flat_two {a b : D} (ha : Flat a 0) (hb : Flat b 0) : Flat (.tup [a, b]) 1 := flat_tup fun d hd => by
  simp only [List.mem_cons, List.not_mem_nil, or_false] at hd
  rcases hd with rfl | rfl
  · exact ha
  · exact hb
theorem shown_flat (v : Val) : Flat v.shown 2 := by
  cases v with
  | txt t => exact ⟨rfl, Nat.zero_le _⟩
  | row ts => exact (flat_tup (flat_strs ts)).mono (by omega)
  | set m => exact (flat_tup (flat_strs _)).mono (by omega)
  | tab m =>
    refine flat_tup fun d hd => ?_
    obtain ⟨q, _, rfl⟩ := List.mem_map.mp hd
    exact flat_two ⟨rfl, Nat.le_refl _⟩ ⟨rfl, Nat.le_refl _⟩
  | rnk m =>
    refine flat_tup fun d hd => ?_
    obtain ⟨q, _, rfl⟩ := List.mem_map.mp hd
    exact flat_two ⟨rfl, Nat.le_refl _⟩ ⟨rfl, Nat.le_refl _⟩
theorem pic_shaped (s : KV) : shaped (.lst (picP s)) = true := by
  refine (flat_lst (n := 3) fun d hd => ?_).shaped (by omega)
  obtain ⟨k, _, rfl⟩ := List.mem_map.mp hd
  unfold KV.rowP
  split
  · refine flat_tup (n := 2) fun d hd => ?_
    simp only [List.mem_cons, List.not_mem_nil, or_false] at hd
    rcases hd with rfl | rfl | rfl | rfl
    · exact ⟨rfl, Nat.zero_le _⟩
    · exact ⟨rfl, Nat.zero_le _⟩
    · exact shown_flat _
    · unfold KV.endD
      split <;> exact ⟨rfl, Nat.zero_le _⟩
  · exact ⟨rfl, Nat.zero_le _⟩
def kv0 : KV := ⟨[], [], 0⟩
def stp0 : Stp := ⟨[], 0⟩
theorem ok0 : kv0.Ok 0 := ⟨Nat.le_refl _, Nat.le_refl _, fun _ h => (by cases h), .nil⟩
theorem c_init {d : Nat} {h : List Cell} : callF prog (d + 1) "Store.__init__" [.ref h.length] (h ++ [.ins "Store" []]) = .ok (.val .non) ⟨[], h ++ [cell kv0 stp0]⟩ := by
  rw [callF_is (fn := f_Store___init__) rfl rfl]
  have g : ∀ c : Cell, (h ++ [c])[h.length]? = some c := fun c => by simp
  have g2 : ∀ c e : Cell, (h ++ [c]).set h.length e = h ++ [e] := fun c e => by
    rw [List.set_append_right _ _ (Nat.le_refl _)]
    simp
  simp [f_Store___init__, kcls, fput, kv0, stp0, cell, g, g2]
theorem range_len' : ∀ (n : Nat) (a c : Int), (range' a c n).length = n
  | 0, _, _ => rfl
  | n + 1, a, c => by rw [range', List.length_cons, range_len' n]
end KW.Pl
/-! KwJ3: several draws by a comprehension. -/
namespace KW.Pl
/-- a comprehension without tests whose items do something -/
theorem comp_inv {is : List Nat} {fc : S → R Bool} {fe : S → R D} (P : List D → S → Prop) (n : Nat) (hc : ∀ s, fc s = .ok true s) (hs : ∀ (pre : List D) (d : D) (s : S), pre.length < n → P pre s → ∃ s1, bindT is d s = some s1 ∧ ∃ x s2, fe s1 = .ok x s2 ∧ P (pre ++ [x]) s2) :
    ∀ (ds pre : List D) (s : S), pre.length + ds.length ≤ n → P pre s → ∃ xs s', compLoop is fc fe ds s pre.reverse = .ok (pre ++ xs) s' ∧ P (pre ++ xs) s' ∧ xs.length = ds.length
  | [], pre, s, _, hp => ⟨[], s, by simp [compLoop], by simpa using hp, rfl⟩
  | d :: r, pre, s, hn, hp => by
    rw [List.length_cons] at hn
    obtain ⟨s1, e1, x, s2, e2, hp2⟩ := hs pre d s (by omega) hp
    obtain ⟨xs, s', e3, hp3, hl⟩ := comp_inv P n hc hs r (pre ++ [x]) s2 (by simp; omega) hp2
    refine ⟨x :: xs, s', ?_, by simpa using hp3, by simp [hl]⟩
    rw [compLoop, e1]
    simp only []
    rw [hc, bind_ok, if_pos rfl, e2, bind_ok]
    rw [List.reverse_append] at e3
    simpa using e3
theorem back_set {σ : List (Option SV)} {i : Nat} {v : Option SV} {h : List Cell} (h0 : σ[i]? = some none) : backT σ [i] ⟨σ.set i v, h⟩ = ⟨σ, h⟩ := by
  unfold backT oldVal
  simp only [List.foldl, h0, List.set_set]
  congr 1
  exact List.ext_getElem? fun j => by
    by_cases z : i = j
    · subst z
      rw [h0]
      have : i < σ.length := (List.getElem?_eq_some_iff.mp h0).1
      rw [List.getElem?_set_self this]
    · rw [List.getElem?_set_ne z]
/-- picks whose state may change in what fam tells -/
theorem k_picksF {C : CallF} {fam : List (Option SV) → Prop} {σ : List (Option SV)} {h : List Cell} {i j : Nat} {e : E} {ds : List D} {ys : List T} {town : List D} (h0 : ∀ σ, fam σ → σ[i]? = some none) (hf : fam σ) (hj : h[j]? = some (.lst town)) (hz : town.length + ds.length ≤ 900000)
    (hp : ∀ (σ : List (Option SV)) (v : Option SV) (tw : List D), fam σ → (h.set j (.lst tw))[j]? = some (.lst tw) → tw.length < 1000000 → ∃ t ∈ ys, ∃ σ' : List (Option SV), fam σ' ∧ ∃ tw' : List D, tw'.length = tw.length + 1 ∧ exports (evalE C e ⟨σ.set i v, h.set j (.lst tw)⟩) = .ok (.str t) ⟨σ'.set i v, h.set j (.lst tw')⟩) :
    ∃ (ts : List T) (tw : List D) (σ' : List (Option SV)), fam σ' ∧ ts.length = ds.length ∧ (∀ t ∈ ts, t ∈ ys) ∧ tw.length = town.length + ds.length ∧ kComp C [i] [] e (.ok (ds, false) ⟨σ, h⟩) = .ok (.own (.lst (ts.map .str))) ⟨σ', h.set j (.lst tw)⟩ := by
  have hlt : j < h.length := (List.getElem?_eq_some_iff.mp hj).1
  have hid : h.set j (.lst town) = h := by
    obtain ⟨_, e⟩ := List.getElem?_eq_some_iff.mp hj
    rw [← e]
    exact List.set_getElem_self _
  have hset : ∀ σ : List (Option SV), fam σ → σ.set i none = σ := fun σ hf => by
    obtain ⟨_, e⟩ := List.getElem?_eq_some_iff.mp (h0 σ hf)
    rw [← e]
    exact List.set_getElem_self _
  obtain ⟨xs, s', e1, ⟨ts, tw, v, σ', hxs, hf', ht, hl, hs⟩, hlen⟩ := comp_inv (is := [i]) (fc := runC C []) (fe := runX C e) (fun xs st => ∃ ts : List T, ∃ tw : List D, ∃ v σ', xs = ts.map .str ∧ fam σ' ∧ (∀ t ∈ ts, t ∈ ys) ∧ tw.length = town.length + ts.length ∧ st = ⟨σ'.set i v, h.set j (.lst tw)⟩) ds.length
    (fun s => by simp [runC]) (fun pre d st hn hP => by
      obtain ⟨ts, tw, v, σ1, rfl, hf1, ht, hl, rfl⟩ := hP
      simp only [List.length_map] at hn
      obtain ⟨t, h1, σ2, hf2, tw', h2, h3⟩ := hp σ1 (some (.val d)) tw hf1 (by rw [List.getElem?_set_self hlt]) (by omega)
      refine ⟨⟨σ1.set i (some (.val d)), h.set j (.lst tw)⟩, by simp [bindT, List.set_set], _, _, h3, ts ++ [t], tw', _, σ2, by simp, hf2, fun u hu => ?_, by simp; omega, rfl⟩
      rcases List.mem_append.mp hu with hu | hu
      · exact ht u hu
      · rw [List.mem_singleton] at hu
        exact hu ▸ h1) ds [] ⟨σ, h⟩ (by simp) ⟨[], town, none, σ, rfl, hf, by simp, by simp, by rw [hset σ hf, hid]⟩
  rw [List.nil_append] at hxs e1
  subst hxs hs
  rw [List.length_map] at hlen
  refine ⟨ts, tw, σ', hf', hlen, ht, by omega, ?_⟩
  rw [kComp_ok]
  simp only [Bool.false_and, if_neg Bool.false_ne_true]
  rw [List.reverse_nil] at e1
  rw [e1, kCalm_ok, kComp2_ok]
  have hb : backT σ [i] ⟨σ'.set i v, h.set j (.lst tw)⟩ = ⟨σ', h.set j (.lst tw)⟩ := by
    unfold backT oldVal
    simp only [List.foldl, h0 σ hf, List.set_set]
    rw [hset σ' hf']
  rw [hb]
  show opt _ (newLst (ts.map .str)) = _
  rw [newLst, if_pos]
  · rfl
  · simp [okSize, sizeLine]; omega
theorem k_picks {C : CallF} {σ : List (Option SV)} {h : List Cell} {i j : Nat} {e : E} {ds : List D} {ys : List T} {town : List D} (h0 : σ[i]? = some none) (hj : h[j]? = some (.lst town)) (hz : town.length + ds.length ≤ 900000)
    (hp : ∀ (v : Option SV) (tw : List D), (h.set j (.lst tw))[j]? = some (.lst tw) → tw.length < 1000000 → ∃ t ∈ ys, ∃ tw' : List D, tw'.length = tw.length + 1 ∧ exports (evalE C e ⟨σ.set i v, h.set j (.lst tw)⟩) = .ok (.str t) ⟨σ.set i v, h.set j (.lst tw')⟩) :
    ∃ (ts : List T) (tw : List D), ts.length = ds.length ∧ (∀ t ∈ ts, t ∈ ys) ∧ tw.length = town.length + ds.length ∧ kComp C [i] [] e (.ok (ds, false) ⟨σ, h⟩) = .ok (.own (.lst (ts.map .str))) ⟨σ, h.set j (.lst tw)⟩ := by
  have hid : h.set j (.lst town) = h := by
    apply List.ext_getElem?
    intro k
    by_cases z : j = k
    · subst z
      rw [get_set, hj]; rfl
    · rw [List.getElem?_set_ne z]
  have hset : σ.set i none = σ := by
    apply List.ext_getElem?
    intro k
    by_cases z : i = k
    · subst z
      have : i < σ.length := (List.getElem?_eq_some_iff.mp h0).1
      rw [List.getElem?_set_self this, h0]
    · rw [List.getElem?_set_ne z]
  have hlt : j < h.length := (List.getElem?_eq_some_iff.mp hj).1
  obtain ⟨xs, s', e1, ⟨ts, tw, v, hxs, ht, hl, hs⟩, hlen⟩ := comp_inv (is := [i]) (fc := runC C []) (fe := runX C e) (fun xs st => ∃ ts : List T, ∃ tw : List D, ∃ v, xs = ts.map .str ∧ (∀ t ∈ ts, t ∈ ys) ∧ tw.length = town.length + ts.length ∧ st = ⟨σ.set i v, h.set j (.lst tw)⟩) ds.length
    (fun s => by simp [runC]) (fun pre d st hn hP => by
      obtain ⟨ts, tw, v, rfl, ht, hl, rfl⟩ := hP
      simp only [List.length_map] at hn
      obtain ⟨t, h1, tw', h2, h3⟩ := hp (some (.val d)) tw (by rw [List.getElem?_set_self hlt]) (by omega)
      refine ⟨⟨σ.set i (some (.val d)), h.set j (.lst tw)⟩, by simp [bindT, List.set_set], _, _, h3, ts ++ [t], tw', _, by simp, fun u hu => ?_, by simp; omega, rfl⟩
      rcases List.mem_append.mp hu with hu | hu
      · exact ht u hu
      · rw [List.mem_singleton] at hu
        exact hu ▸ h1) ds [] ⟨σ, h⟩ (by simp) ⟨[], town, none, rfl, by simp, by simp, by rw [hset, hid]⟩
  rw [List.nil_append] at hxs e1
  subst hxs hs
  rw [List.length_map] at hlen
  refine ⟨ts, tw, hlen, ht, by omega, ?_⟩
  rw [kComp_ok]
  simp only [Bool.false_and, if_neg Bool.false_ne_true]
  rw [List.reverse_nil] at e1
  rw [e1, kCalm_ok, kComp2_ok, back_set h0]
  show opt _ (newLst (ts.map .str)) = _
  rw [newLst, if_pos]
  · rfl
  · simp [okSize, sizeLine]; omega
end KW.Pl
/-! KwU1: sets together: their texts. -/
namespace KW.Pl
section
variable {m n : SetM}
theorem mem_both {t : T} : t ∈ bothL m n ↔ t ∈ keysT m ∧ t ∈ keysT n := by
  unfold bothL
  rw [List.mem_filter]
  refine and_congr Iff.rfl ⟨fun h => ?_, fun h => ?_⟩
  · obtain ⟨u, e⟩ := Option.isSome_iff_exists.mp h
    exact List.mem_map.mpr ⟨_, tfind_mem e, rfl⟩
  · obtain ⟨u, e⟩ := mem_tfind h
    rw [e]; rfl
theorem mem_less {t : T} : t ∈ lessL m n ↔ t ∈ keysT m ∧ t ∉ keysT n := by
  unfold lessL
  rw [List.mem_filter]
  refine and_congr Iff.rfl ⟨fun h z => ?_, fun h => ?_⟩
  · obtain ⟨u, e⟩ := mem_tfind z
    rw [e] at h; cases h
  · cases e : tfind t n with
    | none => rfl
    | some u => exact absurd (List.mem_map.mpr ⟨_, tfind_mem e, rfl⟩) h
theorem mem_either {t : T} : t ∈ eitherL m n ↔ t ∈ keysT m ∨ t ∈ keysT n := by
  unfold eitherL
  rw [List.mem_append, mem_less]
  refine ⟨fun h => h.imp id And.left, fun h => ?_⟩
  by_cases z : t ∈ keysT m
  · exact .inl z
  · exact .inr ⟨h.elim (fun q => absurd q z) id, z⟩
theorem nd_both (h : (keysT m).Nodup) : (bothL m n).Nodup := h.filter _
theorem nd_less (h : (keysT m).Nodup) : (lessL m n).Nodup := h.filter _
theorem nd_either (h : (keysT m).Nodup) (h2 : (keysT n).Nodup) : (eitherL m n).Nodup := List.nodup_append.mpr ⟨h, nd_less h2, fun a ha b hb e => (mem_less.mp hb).2 (e ▸ ha)⟩
theorem both_less (h : (keysT m).Nodup) : sortT (sortT (bothL m n) ++ sortT (lessL m n)) = sortT (keysT m) :=
  sortT_ext (List.nodup_append.mpr ⟨sortT_nodup (nd_both h), sortT_nodup (nd_less h), fun a ha b hb e => (mem_less.mp (sortT_mem.mp hb)).2 (e ▸ (mem_both.mp (sortT_mem.mp ha)).2)⟩) h fun x => by
    rw [List.mem_append, sortT_mem, sortT_mem, mem_both, mem_less]
    exact ⟨fun q => q.elim And.left And.left, fun q => (Classical.em (x ∈ keysT n)).imp (⟨q, ·⟩) (⟨q, ·⟩)⟩
theorem all_three (h : (keysT m).Nodup) (h2 : (keysT n).Nodup) : sortT (sortT (bothL m n) ++ sortT (lessL m n) ++ sortT (lessL n m)) = sortT (eitherL m n) :=
  sortT_ext (List.nodup_append.mpr ⟨List.nodup_append.mpr ⟨sortT_nodup (nd_both h), sortT_nodup (nd_less h), fun a ha b hb e => (mem_less.mp (sortT_mem.mp hb)).2 (e ▸ (mem_both.mp (sortT_mem.mp ha)).2)⟩, sortT_nodup (nd_less h2), fun a ha b hb e => by
      have q := (mem_less.mp (sortT_mem.mp hb)).2
      rw [← e] at q
      rcases List.mem_append.mp ha with ha | ha
      · exact q (mem_both.mp (sortT_mem.mp ha)).1
      · exact q (mem_less.mp (sortT_mem.mp ha)).1⟩) (nd_either h h2) fun x => by
    rw [List.mem_append, List.mem_append, sortT_mem, sortT_mem, sortT_mem, mem_both, mem_less, mem_less, mem_either]
    constructor
    · rintro ((q | q) | q)
      · exact .inl q.1
      · exact .inl q.1
      · exact .inr q.1
    · intro q
      by_cases z : x ∈ keysT m
      · exact .inl ((Classical.em (x ∈ keysT n)).imp (⟨z, ·⟩) (⟨z, ·⟩))
      · exact .inr ⟨q.elim (fun y => absurd y z) id, z⟩
theorem both_back (h : (keysT m).Nodup) (h2 : (keysT n).Nodup) : sortT (sortT (bothL m n) ++ sortT (lessL n m)) = sortT (keysT n) :=
  sortT_ext (List.nodup_append.mpr ⟨sortT_nodup (nd_both h), sortT_nodup (nd_less h2), fun a ha b hb e => (mem_less.mp (sortT_mem.mp hb)).2 (e ▸ (mem_both.mp (sortT_mem.mp ha)).1)⟩) h2 fun x => by
    rw [List.mem_append, sortT_mem, sortT_mem, mem_both, mem_less]
    exact ⟨fun q => q.elim And.right And.left, fun q => (Classical.em (x ∈ keysT m)).imp (⟨·, q⟩) (⟨q, ·⟩)⟩
theorem both_comm (h : (keysT m).Nodup) (h2 : (keysT n).Nodup) : sortT (bothL n m) = sortT (bothL m n) := sortT_ext (nd_both h2) (nd_both h) fun x => by rw [mem_both, mem_both]; exact And.comm
theorem either_comm (h : (keysT m).Nodup) (h2 : (keysT n).Nodup) : sortT (eitherL n m) = sortT (eitherL m n) := sortT_ext (nd_either h2 h) (nd_either h h2) fun x => by rw [mem_either, mem_either]; exact Or.comm
theorem both_self (h : (keysT m).Nodup) : sortT (bothL m m) = sortT (keysT m) := sortT_ext (nd_both h) h fun x => by rw [mem_both]; exact and_self_iff
theorem either_self (h : (keysT m).Nodup) : sortT (eitherL m m) = sortT (keysT m) := sortT_ext (nd_either h h) h fun x => by rw [mem_either]; exact or_self_iff
theorem less_self : lessL m m = [] := List.eq_nil_iff_forall_not_mem.mpr fun x h => (mem_less.mp h).2 (mem_less.mp h).1
theorem sort_again {l : List T} (h : l.Nodup) : sortT (sortT l) = sortT l := sortT_id (sortT_sorted h)
theorem dedup_nd : ∀ {l : List T}, l.Nodup → dedupT l = l
  | [], _ => rfl
  | x :: r, h => by
    rw [List.nodup_cons] at h
    unfold dedupT
    rw [if_neg (by simpa using h.1), dedup_nd h.2]
end
section
variable {d : Nat} {h : List Cell}
/-- the texts of a row told -/
theorem l_texts_of {ts : List T} (hl : ts.length ≤ 100000) : callF prog (d + 1) "_law_words" [rowT ts] h = .ok (.own (.lst (ts.map .str))) ⟨[], h⟩ := by
  rw [callF_is (fn := f__law_words) rfl rfl]
  have hc := comp_is (C := callF prog d) (cs := []) (e := .p2 .idx (.var 1) (.cst (.int 1))) (σ := [some (.val (rowT ts)), none]) (h := h) (i := 1) (ds := ts.map fun t => D.tup [.str textK, .str t]) (mu := false) (b := fun _ => true) (f := fun x => match x with
    | .tup [_, y] => y
    | _ => .non) (fun z => by cases z) rfl (fun x hx => by simp) (fun x hx _ => by
    obtain ⟨t, _, rfl⟩ := List.mem_map.mp hx
    simp [run2, recv2, runIdx, seqOf, oIdxL, atI, ixN, exports])
  have e1 : (((ts.map fun t => D.tup [.str textK, .str t]).filter fun _ => true).map fun x => match x with
    | .tup [_, y] => y
    | _ => .non) = ts.map .str := by
    rw [List.filter_eq_self.mpr fun _ _ => rfl, List.map_map]; rfl
  rw [e1] at hc
  have g : newLst (ts.map .str) = some (.own (.lst (ts.map .str))) := by
    rw [newLst, if_pos]
    exact ok_of (by rw [List.length_map]; exact hl)
  rw [g] at hc
  have e2 : rowT ts = .tup [.str rowK, .tup (ts.map fun t => D.tup [.str textK, .str t])] := by unfold rowT rowD; rw [List.map_map]; rfl
  rw [e2] at hc ⊢
  simp [f__law_words, run2, recv2, runIdx, seqOf, oIdxL, atI, ixN, muOf, hc]
end
end KW.Pl
/-! KwU2: a store of sets: deeds, asks. -/
namespace KW.Pl
/-- all keys have sets, of few texts -/
def OnlySets (s : KV) (b : Nat) : Prop := ∀ q ∈ s.held, ∃ m : SetM, q.2 = .set m ∧ m.length ≤ b
theorem OnlySets.mono {s : KV} {b c : Nat} (h : OnlySets s b) (hb : b ≤ c) : OnlySets s c := fun q hq => by
  obtain ⟨m, h1, h2⟩ := h q hq
  exact ⟨m, h1, by omega⟩
theorem OnlySets.st {s : KV} {b n : Nat} (h : OnlySets s b) (I : s.Ok n) (k : T) : ∃ m, s.st k = some m ∧ m.length ≤ b ∧ (keysT m).Nodup := by
  unfold KV.st
  cases e : tfind k s.held with
  | none => exact ⟨[], rfl, Nat.zero_le _, by simp [keysT]⟩
  | some v =>
    obtain ⟨m, h1, h2⟩ := h _ (tfind_mem e)
    simp only at h1
    subst h1
    exact ⟨m, rfl, h2, ((I.vs _ (tfind_mem e)).st _ rfl).2⟩
theorem OnlySets.keep {s : KV} {b : Nat} (h : OnlySets s b) (k : T) (m : SetM) (hm : m.length ≤ b) : OnlySets (s.keepV k (.set m)) b := by
  unfold KV.keepV
  split
  · exact fun q hq => h q (tdel_sub hq)
  · intro q hq
    rcases tput_sub (show q ∈ tput k (.set m) s.held from hq) with h1 | rfl
    · exact h q h1
    · exact ⟨m, rfl, hm⟩
theorem only_in {s : KV} {b n : Nat} (h : OnlySets s b) (I : s.Ok n) (k : T) (ts : List T) (ht : ts.length ≤ 4) : OnlySets (inP s k ts).s (b + 4) := by
  obtain ⟨m, e, hl, nd⟩ := h.st I k
  unfold inP onSet
  rw [e]
  simp only [inR]
  have := puts_len ts m
  split
  · exact h.mono (by omega)
  · split
    · exact (h.mono (by omega)).keep k _ (by omega)
    · exact h.mono (by omega)
theorem only_out {s : KV} {b n : Nat} (h : OnlySets s b) (I : s.Ok n) (k : T) (ts : List T) : OnlySets (outP s k ts).s (b + 4) := by
  obtain ⟨m, e, hl, nd⟩ := h.st I k
  unfold outP onSet
  rw [e]
  simp only [outR]
  have := dels_len ts m
  split
  · exact (h.mono (by omega)).keep k _ (by omega)
  · exact h.mono (by omega)
structure Inv (tw : List D) (s : KV) (p : Stp) (j : Nat) : Prop where
  I : s.Ok (2 * j)
  pm : p.m.length ≤ 200 * j
  tl : tw.length ≤ 1 + 7 * j
  os : OnlySets s (4 * j)
abbrev menuT : List T := [[97], [98], [99], [], [100, 32, 101], [102], [103], [90], [126]]
section
variable {d : Nat} {ns : List Int} {s : KV} {p : Stp} {tw : List D} {n : Nat}
theorem meth_pic {C : CallF} {σ : List (Option SV)} {h : List Cell} {i : Nat} {s : KV} {p : Stp} (hi : h[i]? = some (cell s p)) : kMeth C "Store" "picture" [] (.ok (.val (.ref i)) ⟨σ, h⟩) = kMeth2 C "Store.picture" i (.ok [] ⟨σ, h⟩) := by
  rw [hmS hi (by decide)]
  simp
/-- an ask, that changes nothing -/
theorem ask {w : Deed} {a : D} (ok : w.Ok) (I : s.Ok n) (hn : n ≤ 1000) (pm : p.m.length ≤ 100000) (hr : w.res s = ⟨s, [], a⟩) : callF prog (d + 9) "answer" [.ref 1, .lst (w.ws.map .str)] [.lst tw, cell s p] = .ok (.val a) ⟨[], [.lst tw, cell s p]⟩ := by
  have e := c_answer (d := d) (p := p) (h := [.lst tw, cell s p]) (i := 1) ok I (by omega) (by omega) rfl
  unfold Out at e
  rw [hr] at e
  exact e
theorem told_texts {w : Deed} {ts : List T} (ok : w.Ok) (I : s.Ok n) (hn : n ≤ 1000) (pm : p.m.length ≤ 100000) (hr : w.res s = ⟨s, [], rowT ts⟩) (hl : ts.length ≤ 1000) :
    callF prog (d + 9) "answer" [.ref 1, .lst (w.ws.map .str)] [.lst tw, cell s p] = .ok (.val (rowT ts)) ⟨[], [.lst tw, cell s p]⟩ ∧ callF prog (d + 9) "_law_words" [rowT ts] [.lst tw, cell s p] = .ok (.own (.lst (ts.map .str))) ⟨[], [.lst tw, cell s p]⟩ :=
  ⟨ask ok I hn pm hr, l_texts_of (d := d + 8) (by omega)⟩
/-- the menu, its own or one that stands -/
def MenuV (x : Option SV) : Prop := x = some (.own (.lst (menuT.map .str))) ∨ x = some (.val (.lst (menuT.map .str)))
theorem turn1 {j : Nat} {x3 k x5 x6 x7 x8 x9 x10 x11 x12 x13 x14 x15 : Option SV} (V : Inv tw s p j) (hj : j ≤ 30) (h3 : MenuV x3) :
    ∃ s' p' tw' a b y3, MenuV y3 ∧ Inv tw' s' p' (j + 1) ∧
      runB (callF prog (d + 9)) b_law_0 ⟨[some (.val (.lst (ns.map .int))), some (.val (.ref 0)), some (.val (.ref 1)), x3, k, x5, x6, x7, x8, x9, x10, x11, x12, x13, x14, x15, none, none], [.lst tw, cell s p]⟩ =
        .ok .next ⟨[some (.val (.lst (ns.map .int))), some (.val (.ref 0)), some (.val (.ref 1)), y3, k, a, b, x7, x8, x9, x10, x11, x12, x13, x14, x15, none, none], [.lst tw', cell s' p']⟩ := by
  have tl := V.tl
  obtain ⟨key, k1, w1, l1, j1, e1⟩ := d_pickT (d := d + 5) (ns := ns) (h := [.lst tw, cell s p]) (j := 0) (ys := [[120], [121], [122]]) (by simp) rfl (by omega)
  obtain ⟨wd, o1, w2, l2, j2, e2⟩ := d_pickT (d := d + 5) (ns := ns) (ys := [[105, 110], [105, 110], [111, 117, 116]]) (by simp) j1 (by omega)
  obtain ⟨r, r1, r2, w3, l3, j3, e3⟩ := d_draw (d := d + 6) (ns := ns) (m := 4) (by decide) j2 (by omega)
  simp only [List.set_set, List.set_cons_zero] at e1 e2 e3 j1 j2 j3
  obtain ⟨ts, w4, σ', ⟨y3, hy3, rfl⟩, p1, p2, l4, e4⟩ := k_picksF (C := callF prog (d + 9)) (fam := fun σ => ∃ y, MenuV y ∧ σ = [some (.val (.lst (ns.map .int))), some (.val (.ref 0)), some (.val (.ref 1)), y, k, some (.val (.str key)), some (.val (.str wd)), x7, x8, x9, x10, x11, x12, x13, x14, x15, none, none]) (h := [.lst w3, cell s p]) (i := 16) (j := 0)
    (e := .call "_law_pick" [.var 0, .var 1, .frz (.var 3)]) (ds := range' 0 1 (1 + r).toNat) (ys := menuT) (fun σ hσ => by obtain ⟨y, _, rfl⟩ := hσ; rfl) ⟨x3, h3, rfl⟩ j3 (by rw [range_len']; omega) (fun σ x tw hσ hj2 hl => by
      obtain ⟨y, hy, rfl⟩ := hσ
      obtain ⟨t, h1, tw', h2, _, h4⟩ := d_pickT (d := d + 5) (ns := ns) (ys := menuT) (by simp) hj2 hl
      refine ⟨t, h1, _, ⟨some (.val (.lst (menuT.map .str))), .inr rfl, rfl⟩, tw', h2, ?_⟩
      simp only [List.map_cons, List.map_nil, List.set_set] at h4
      generalize ns.map D.int = scr at *
      rcases hy with rfl | rfl
      · simp [exports, frzIt, getPl, putPl] at h4 ⊢
        simp [h4]
      · simp [exports, frzIt, getPl, putPl] at h4 ⊢
        simp [h4])
  rw [range_len'] at p1 l4
  simp only [List.set_cons_zero] at e4
  have hl : 1 ≤ ts.length ∧ ts.length ≤ 4 := by omega
  have fin : ∀ w : Deed, w.Ok → w.ws = wd :: key :: ts → OnlySets (w.res s).s (4 * j + 4) → ∃ s' p' a, Inv w4 s' p' (j + 1) ∧ callF prog (d + 9) "answer" [.ref 1, .lst (.str wd :: .str key :: ts.map .str)] [.lst w4, cell s p] = .ok (.val a) ⟨[], [.lst w4, cell s' p']⟩ := fun w ok ew os => by
    have e := c_answer (d := d) (p := p) (h := [.lst w4, cell s p]) (i := 1) ok V.I (by omega) (by have := V.pm; omega) rfl
    unfold Out at e
    rw [ew] at e
    have g := Deed.good ok V.I
    have ll := ts_len (w.res s).ts p
    have g2 := g.2
    have pm := V.pm
    exact ⟨_, _, _, ⟨g.1.mono (by omega), by omega, by omega, os⟩, e⟩
  have ans : ∃ s' p' a, Inv w4 s' p' (j + 1) ∧ callF prog (d + 9) "answer" [.ref 1, .lst (.str wd :: .str key :: ts.map .str)] [.lst w4, cell s p] = .ok (.val a) ⟨[], [.lst w4, cell s' p']⟩ := by
    simp only [List.mem_cons, List.not_mem_nil, or_false] at o1
    rcases o1 with rfl | rfl | rfl
    · exact fin (.inn key ts) ⟨hl.1, by omega⟩ rfl (only_in V.os V.I key ts hl.2)
    · exact fin (.inn key ts) ⟨hl.1, by omega⟩ rfl (only_in V.os V.I key ts hl.2)
    · exact fin (.out key ts) ⟨hl.1, by omega⟩ rfl (only_out V.os V.I key ts)
  obtain ⟨s', p', a, V', e5⟩ := ans
  refine ⟨s', p', w4, some (.val (.str key)), some (.val (.str wd)), y3, hy3, V', ?_⟩
  have g1 : okSize (2 + ts.length) = true := ok_of (by omega)
  have g2 : okSize (ts.length + 1 + 1) = true := ok_of (by omega)
  have g3 : -4611686018427387904 ≤ 1 + r := by omega
  have g4 : 1 + r < 4611686018427387904 := by omega
  simp only [menuT, List.map_cons, List.map_nil] at e1 e2 e4 ⊢
  generalize ns.map D.int = scr at *
  simp [runB, b_law_0, e1, e2, e3, e4, newLst, show okSize 3 = true from rfl, show okSize 2 = true from rfl, run2, recv2, oAdd, lstOf, g1, g2, g3, g4, Nat.add_comm 2, isK, muOf, frzIt, getPl, putPl, e5]
end
end KW.Pl
/-! KwU3: two sets, asked. -/
namespace KW.Pl
section
variable {d : Nat} {s : KV} {p : Stp} {tw : List D} {n : Nat} {m o : SetM} {k l : T}
theorem res_all (e : s.st k = some m) : (Deed.all k).res s = ⟨s, [], rowT (sortT (keysT m))⟩ := by show allP s k = _; unfold allP onSet; rw [e]
theorem res_two {f : SetM → SetM → List T} (e : s.st k = some m) (e2 : s.st l = some o) (h : (f m o).length ≤ 200) : onTwo s k l f = ⟨s, [], rowT (sortT (f m o))⟩ := by
  unfold onTwo
  rw [e, e2]
  simp only [twoR]
  rw [if_neg (by omega)]
theorem both_len (h : m.length ≤ 200) : (bothL m o).length ≤ 200 := Nat.le_trans (List.length_filter_le _ _) (by simp; exact h)
theorem less_len (h : m.length ≤ 200) : (lessL m o).length ≤ 200 := Nat.le_trans (List.length_filter_le _ _) (by simp; exact h)
theorem either_len (h : m.length ≤ 100) (h2 : o.length ≤ 100) : (eitherL m o).length ≤ 200 := by
  unfold eitherL
  have : (lessL o m).length ≤ o.length := Nat.le_trans (List.length_filter_le _ _) (by simp)
  rw [List.length_append]
  simp
  omega
theorem eq_strs (l : List T) : eqD (.lst (l.map .str)) (.lst (l.map .str)) = some true := eqD_self (strs_shaped l)
variable {C : CallF} {hh : List Cell}
/-- the tests of two sets -/
theorem turn2 {y9 x0 x1 x3 x4 x5 x6 x7 x11 x12 x13 x14 x15 x16 x17 : Option SV} (h9 : y9 = some (.own (.lst ((sortT (keysT m)).map .str))) ∨ y9 = some (.val (.lst ((sortT (keysT m)).map .str)))) (I : s.Ok n) (hn : n ≤ 1000) (pm : p.m.length ≤ 100000) (e1 : s.st k = some m) (e2 : s.st l = some o) (hm : m.length ≤ 100 ∧ (keysT m).Nodup) (ho : o.length ≤ 100 ∧ (keysT o).Nodup) :
    ∃ a b c f g, runB (callF prog (d + 9)) b_law_1 ⟨[x0, x1, some (.val (.ref 1)), x3, x4, x5, x6, x7, some (.val (.str k)), y9, some (.val (.str l)), x11, x12, x13, x14, x15, x16, x17], [.lst tw, cell s p]⟩ =
      .ok .next ⟨[x0, x1, some (.val (.ref 1)), x3, x4, x5, x6, x7, some (.val (.str k)), y9, some (.val (.str l)), a, b, c, f, g, x16, x17], [.lst tw, cell s p]⟩ := by
  have l1 : (sortT (keysT o)).length ≤ 1000 := by rw [sortT_len]; simp; omega
  have l2 : (sortT (bothL m o)).length ≤ 200 := by rw [sortT_len]; exact both_len (by omega)
  have l3 : (sortT (lessL m o)).length ≤ 200 := by rw [sortT_len]; exact less_len (by omega)
  have l4 : (sortT (eitherL m o)).length ≤ 200 := by rw [sortT_len]; exact either_len hm.1 ho.1
  have l5 : (sortT (lessL o m)).length ≤ 200 := by rw [sortT_len]; exact less_len (by omega)
  obtain ⟨a1, b1⟩ := told_texts (d := d) (tw := tw) (p := p) (w := .all l) trivial I hn pm (res_all e2) l1
  obtain ⟨a2, b2⟩ := told_texts (d := d) (tw := tw) (p := p) (w := .both k l) trivial I hn pm (res_two (f := bothL) e1 e2 (both_len (by omega))) (by omega)
  obtain ⟨a3, b3⟩ := told_texts (d := d) (tw := tw) (p := p) (w := .less k l) trivial I hn pm (res_two (f := lessL) e1 e2 (less_len (by omega))) (by omega)
  obtain ⟨a4, b4⟩ := told_texts (d := d) (tw := tw) (p := p) (w := .either k l) trivial I hn pm (res_two (f := eitherL) e1 e2 (either_len hm.1 ho.1)) (by omega)
  obtain ⟨a5, b5⟩ := told_texts (d := d) (tw := tw) (p := p) (w := .less l k) trivial I hn pm (res_two (f := lessL) e2 e1 (less_len (by omega))) (by omega)
  obtain ⟨a6, _⟩ := told_texts (d := d) (tw := tw) (p := p) (w := .both l k) trivial I hn pm (res_two (f := bothL) e2 e1 (both_len (by omega))) (by rw [sortT_len]; exact Nat.le_trans (both_len (by omega)) (by omega))
  obtain ⟨a7, _⟩ := told_texts (d := d) (tw := tw) (p := p) (w := .either l k) trivial I hn pm (res_two (f := eitherL) e2 e1 (either_len ho.1 hm.1)) (by rw [sortT_len]; exact Nat.le_trans (either_len ho.1 hm.1) (by omega))
  rw [both_comm hm.2 ho.2] at a6
  rw [either_comm hm.2 ho.2] at a7
  have f1 := both_less (n := o) hm.2
  have f2 := all_three hm.2 ho.2
  have f3 := both_back hm.2 ho.2
  have f4 := sort_again (nd_both (n := o) hm.2)
  have f5 := sort_again (nd_less (n := o) hm.2)
  have self : k = l → sortT (bothL m o) = sortT (keysT m) ∧ sortT (lessL m o) = [] ∧ sortT (eitherL m o) = sortT (keysT m) ∧ sortT (keysT o) = sortT (keysT m) ∧ sortT (lessL o m) = [] := fun z => by
    subst z
    rw [e1] at e2
    injection e2 with e2
    subst e2
    exact ⟨both_self hm.2, by rw [less_self]; rfl, either_self hm.2, rfl, by rw [less_self]; rfl⟩
  simp only [Deed.ws, Deed.wd, Deed.args, List.map_cons, List.map_nil] at a1 a2 a3 a4 a5 a6 a7
  generalize sortT (bothL m o) = A at *
  generalize sortT (lessL m o) = B at *
  generalize sortT (eitherL m o) = W at *
  generalize sortT (lessL o m) = K at *
  generalize sortT (keysT m) = M at *
  generalize sortT (keysT o) = N at *
  have s1 : oSort (A.map D.str ++ B.map D.str) = some (.own (.lst (M.map .str))) := by rw [← List.map_append, sort_strs (by rw [List.length_append]; omega), f1]
  have s2 : oSort (A.map D.str ++ (B.map D.str ++ K.map D.str)) = some (.own (.lst (W.map .str))) := by rw [← List.append_assoc, ← List.map_append, ← List.map_append, sort_strs (by rw [List.length_append, List.length_append]; omega), f2]
  have s3 : oSort (A.map D.str ++ K.map D.str) = some (.own (.lst (N.map .str))) := by rw [← List.map_append, sort_strs (by rw [List.length_append]; omega), f3]
  have s4 : oSort (A.map D.str) = some (.own (.lst (A.map .str))) := by rw [sort_strs (by omega), f4]
  have s5 : oSort (B.map D.str) = some (.own (.lst (B.map .str))) := by rw [sort_strs (by omega), f5]
  have nAB : eqD (.lst (A.map D.str ++ B.map D.str)) (.lst (A.map D.str ++ B.map D.str)) = some true := by rw [← List.map_append]; exact eq_strs _
  have g1 : okSize (A.length + B.length) = true := ok_of (by omega)
  have g2 : okSize (A.length + (B.length + K.length)) = true := ok_of (by omega)
  have g6 : okSize (A.length + B.length + K.length) = true := ok_of (by omega)
  have g3 : okSize (A.length + K.length) = true := ok_of (by omega)
  have z2 : okSize 2 = true := rfl
  have z3 : okSize 3 = true := rfl
  have z0 : okSize 0 = true := rfl
  refine ⟨some (.own (.lst (N.map .str))), some (.own (.lst (A.map .str))), some (.own (.lst (B.map .str))), some (.own (.lst (W.map .str))), some (.own (.lst (K.map .str))), ?_⟩
  by_cases z : k = l
  · obtain ⟨q1, q2, q3, q4, q5⟩ := self z
    subst z
    subst q1 q2 q3 q4 q5
    have ek : eqD (.str k) (.str k) = some true := eqD_self rfl
    have en := eq_strs ([] : List T)
    rw [List.map_nil] at en
    simp at s1 s2 s5 nAB g1 g2 g6
    rcases h9 with rfl | rfl <;> simp [runB, b_law_1, newLst, z2, z3, z0, a1, b1, a2, b2, a3, b3, a4, b4, a5, b5, a6, a7, run1, run2, recv2, oAdd, lstOf, g1, g2, g3, g6, s1, s2, s3, s4, s5, nAB, runCmp, datOf, eq_strs, en, ek]
  · have ek : eqD (.str k) (.str l) = some false := by
      unfold eqD
      rw [if_pos (show (shaped (.str k) && shaped (.str l)) = true from rfl)]
      simp [deq, z]
    rcases h9 with rfl | rfl <;> simp [runB, b_law_1, newLst, z2, z3, a1, b1, a2, b2, a3, b3, a4, b4, a5, b5, a6, a7, run1, run2, recv2, oAdd, lstOf, g1, g2, g3, g6, s1, s2, s3, s4, s5, nAB, runCmp, datOf, eq_strs, ek]
end
end KW.Pl
/-! KwU4: the law of sets together. -/
namespace KW.Pl
abbrev fourK : List T := [[120], [121], [122], [110, 111, 110, 101]]
section
variable {d : Nat} {s : KV} {p : Stp} {tw : List D} {n : Nat} {ns : List Int}
/-- one key asked, and all others with it -/
theorem turn3 {k : T} {x0 x1 x3 x4 x5 x6 x7 x9 x10 x11 x12 x13 x14 x15 : Option SV} (I : s.Ok n) (hn : n ≤ 1000) (pm : p.m.length ≤ 100000) (os : OnlySets s 100) :
    ∃ a9 a10 a11 a12 a13 a14 a15, runB (callF prog (d + 9)) b_law_2 ⟨[x0, x1, some (.val (.ref 1)), x3, x4, x5, x6, x7, some (.val (.str k)), x9, x10, x11, x12, x13, x14, x15, none, none], [.lst tw, cell s p]⟩ =
      .ok .next ⟨[x0, x1, some (.val (.ref 1)), x3, x4, x5, x6, x7, some (.val (.str k)), a9, a10, a11, a12, a13, a14, a15, none, none], [.lst tw, cell s p]⟩ := by
  obtain ⟨m, e1, hm⟩ := os.st I k
  have l1 : (sortT (keysT m)).length ≤ 1000 := by rw [sortT_len]; simp; omega
  obtain ⟨a1, b1⟩ := told_texts (d := d) (tw := tw) (p := p) (w := .all k) trivial I hn pm (res_all e1) l1
  simp only [Deed.ws, Deed.wd, Deed.args, List.map_cons, List.map_nil] at a1
  have q1 := set_strs (l := sortT (keysT m)) (by rw [sortT_len]; simp; omega)
  rw [dedup_nd (sortT_nodup hm.2)] at q1
  have q2 := sortD_str (sortT (keysT m))
  rw [sort_again hm.2] at q2
  have gm : okSize (sortT (keysT m)).length = true := ok_of (by omega)
  have hc := comp_is (C := callF prog (d + 9)) (cs := []) (e := .p2 (.cmp .eq) (.p2 .idx (.call "answer" [.var 2, .lst [.cst (.str wWithin), .var 8, .var 17]]) (.cst (.int 1))) (.cst (.int 1)))
    (σ := [x0, x1, some (.val (.ref 1)), x3, x4, x5, x6, x7, some (.val (.str k)), some (.val (.lst ((sortT (keysT m)).map .str))), x10, x11, x12, x13, x14, x15, none, none]) (h := [.lst tw, cell s p]) (i := 17) (ds := (sortT (keysT m)).map .str) (mu := false) (b := fun _ => true) (f := fun _ => .bl true)
    (fun z => by cases z) rfl (fun x hx => by simp) (fun x hx _ => by
      obtain ⟨t, ht, rfl⟩ := List.mem_map.mp hx
      obtain ⟨u, eu⟩ := mem_tfind (sortT_mem.mp ht)
      have a2 := ask (d := d) (tw := tw) (p := p) (w := .within k t) (a := numB true) trivial I hn pm (by show withinP s k t = _; unfold withinP onSet; rw [e1]; simp only [eu]; rfl)
      simp only [Deed.ws, Deed.wd, Deed.args, List.map_cons, List.map_nil] at a2
      have e1 : eqD (.int 1) (.int 1) = some true := eqD_self rfl
      simp [newLst, show okSize 3 = true from rfl, a2, run2, recv2, runIdx, seqOf, oIdxL, atI, ixN, runCmp, datOf, exports, e1])
  rw [List.filter_eq_self.mpr fun _ _ => rfl] at hc
  have g : newLst (((sortT (keysT m)).map D.str).map fun _ => D.bl true) = some (.own (.lst (((sortT (keysT m)).map D.str).map fun _ => D.bl true))) := by
    rw [newLst, if_pos]
    exact ok_of (by rw [List.length_map, List.length_map]; omega)
  rw [g] at hc
  have hb : run1 [.lst tw, cell s p] .all (.own (.lst (((sortT (keysT m)).map D.str).map fun _ => D.bl true))) = some (.val (.bl true)) := by
    have : ∀ l : List D, boolsOf (l.map fun _ => D.bl true) = some (l.map fun _ => true) := fun l => by
      induction l with
      | nil => rfl
      | cons x r ih => show (boolsOf (r.map fun _ => D.bl true)).map (true :: ·) = _; rw [ih]; rfl
    show (boolsOf _).map (fun bs => RV.val (.bl (bs.all id))) = _
    rw [this]
    show some (RV.val (.bl _)) = _
    congr 3
    exact List.all_eq_true.mpr fun b hb => by
      obtain ⟨_, _, rfl⟩ := List.mem_map.mp hb
      rfl
  obtain ⟨st, e, ⟨y9, y10, y11, y12, y13, y14, y15, h9, rfl⟩⟩ := for_inv (is := [10]) (fb := runB (callF prog (d + 9)) b_law_1) (fun pre st => ∃ y9 y10 y11 y12 y13 y14 y15, (y9 = some (.own (.lst ((sortT (keysT m)).map .str))) ∨ y9 = some (.val (.lst ((sortT (keysT m)).map .str)))) ∧
      st = ⟨[x0, x1, some (.val (.ref 1)), x3, x4, x5, x6, x7, some (.val (.str k)), y9, y10, y11, y12, y13, y14, y15, none, none], [.lst tw, cell s p]⟩) (fourK.map .str) [] ⟨[x0, x1, some (.val (.ref 1)), x3, x4, x5, x6, x7, some (.val (.str k)), some (.val (.lst ((sortT (keysT m)).map .str))), x10, x11, x12, x13, x14, x15, none, none], [.lst tw, cell s p]⟩
    ⟨_, _, _, _, _, _, _, .inr rfl, rfl⟩ (by
      rintro pr x po st e ⟨y9, y10, y11, y12, y13, y14, y15, h9, rfl⟩
      have hx : x ∈ fourK.map D.str := by rw [List.nil_append] at e; rw [e]; simp
      obtain ⟨l, _, rfl⟩ := List.mem_map.mp hx
      obtain ⟨o, e2, ho⟩ := os.st I l
      obtain ⟨a, b, c, f, g, h⟩ := turn2 (d := d) (p := p) (tw := tw) (x0 := x0) (x1 := x1) (x3 := x3) (x4 := x4) (x5 := x5) (x6 := x6) (x7 := x7) (x11 := y11) (x12 := y12) (x13 := y13) (x14 := y14) (x15 := y15) (x16 := none) (x17 := none) h9 I hn pm e1 e2 hm ho
      exact ⟨_, _, rfl, h, _, _, _, _, _, _, _, h9, rfl⟩)
  refine ⟨y9, y10, y11, y12, y13, y14, y15, ?_⟩
  have es := eq_strs (sortT (keysT m))
  have z2 : okSize 2 = true := rfl
  have z4 : okSize 4 = true := rfl
  simp only [fourK, List.map_cons, List.map_nil] at e
  generalize ((sortT (keysT m)).map D.str).map (fun _ => D.bl true) = bs at *
  generalize sortT (keysT m) = M at *
  simp only [run1, lstOf, Option.bind_some] at hb
  simp [runB, b_law_2, newLst, z2, z4, a1, b1, run1, run2, recv2, seqOf, lstOf, q1, q2, gm, hb, runCmp, datOf, es, frzIt, getPl, putPl, muOf, hc, isK, e]
end
end KW.Pl
/-! KwU5: the law of sets together, whole. -/
namespace KW.Pl
section
variable {d : Nat} {ns : List Int}
theorem plain : ∃ h, callF prog (d + 10) "law" [.lst (ns.map .int)] [] = .ok (.val (.bl true)) ⟨[], h⟩ := by
  obtain ⟨r, r1, r2, t1, tl, tj, e1⟩ := d_draw (d := d + 6) (h := [.lst [], cell kv0 stp0]) (j := 0) (ns := ns) (town := []) (m := 25) (by decide) rfl (by simp)
  simp only [List.set_cons_zero] at e1
  obtain ⟨st, e, ⟨s', p', tw', y3, k, a, b, h3, V, rfl⟩⟩ := for_inv (is := [4]) (fb := runB (callF prog (d + 9)) b_law_0) (fun pre st => ∃ s p tw x3 k a b, MenuV x3 ∧ Inv tw s p pre.length ∧
      st = ⟨[some (.val (.lst (ns.map .int))), some (.val (.ref 0)), some (.val (.ref 1)), x3, k, a, b, none, none, none, none, none, none, none, none, none, none, none], [.lst tw, cell s p]⟩) (range' 0 1 r.toNat) []
    ⟨[some (.val (.lst (ns.map .int))), some (.val (.ref 0)), some (.val (.ref 1)), some (.own (.lst (menuT.map .str))), none, none, none, none, none, none, none, none, none, none, none, none, none, none], [.lst t1, cell kv0 stp0]⟩
    ⟨kv0, stp0, t1, _, none, none, none, .inl rfl, ⟨ok0, Nat.le_refl _, by simp at tl; simp [tl], fun _ h => by cases h⟩, rfl⟩ (by
    rintro pr x po st e ⟨s, p, tw, x3, k, a, b, h3, V, rfl⟩
    have hl : pr.length ≤ 30 := by
      have := congrArg List.length e
      simp [range_len'] at this
      omega
    obtain ⟨s', p', tw', a', b', y3, hy, V', h⟩ := turn1 (d := d) (ns := ns) (k := some (.val x)) (x5 := a) (x6 := b) (x7 := none) (x8 := none) (x9 := none) (x10 := none) (x11 := none) (x12 := none) (x13 := none) (x14 := none) (x15 := none) V hl h3
    refine ⟨_, _, rfl, h, s', p', tw', y3, some (.val x), a', b', hy, ?_, rfl⟩
    rw [List.length_append]
    exact V')
  have hl : (([] : List D) ++ range' 0 1 r.toNat).length ≤ 25 := by
    rw [List.nil_append, range_len']
    omega
  have pm := V.pm
  have os : OnlySets s' 100 := V.os.mono (by omega)
  have p1 := c_picture (d := d + 8) (h := [.lst tw', cell s' p']) (i := 1) (s := s') (p := p') rfl V.I (by omega)
  obtain ⟨st2, e2, ⟨k8, y9, y10, y11, y12, y13, y14, y15, rfl⟩⟩ := for_inv (is := [8]) (fb := runB (callF prog (d + 9)) b_law_2) (fun pre st => ∃ k8 y9 y10 y11 y12 y13 y14 y15,
      st = ⟨[some (.val (.lst (ns.map .int))), some (.val (.ref 0)), some (.val (.ref 1)), y3, k, a, b, some (.own (.lst (picP s'))), k8, y9, y10, y11, y12, y13, y14, y15, none, none], [.lst tw', cell s' p']⟩) (fourK.map .str) []
    ⟨[some (.val (.lst (ns.map .int))), some (.val (.ref 0)), some (.val (.ref 1)), y3, k, a, b, some (.own (.lst (picP s'))), none, none, none, none, none, none, none, none, none, none], [.lst tw', cell s' p']⟩
    ⟨_, _, _, _, _, _, _, _, rfl⟩ (by
    rintro pr x po st e ⟨k8, y9, y10, y11, y12, y13, y14, y15, rfl⟩
    have hx : x ∈ fourK.map D.str := by rw [List.nil_append] at e; rw [e]; simp
    obtain ⟨l, _, rfl⟩ := List.mem_map.mp hx
    obtain ⟨a9, a10, a11, a12, a13, a14, a15, h⟩ := turn3 (d := d) (k := l) (tw := tw') (p := p') (x0 := some (.val (.lst (ns.map .int)))) (x1 := some (.val (.ref 0))) (x3 := y3) (x4 := k) (x5 := a) (x6 := b) (x7 := some (.own (.lst (picP s')))) (x9 := y9) (x10 := y10) (x11 := y11) (x12 := y12) (x13 := y13) (x14 := y14) (x15 := y15) V.I (by omega) (by omega) os
    exact ⟨_, _, rfl, h, _, _, _, _, _, _, _, _, rfl⟩)
  have q3 := eqD_self (pic_shaped s')
  have hi : [Cell.lst tw', cell s' p'][1]? = some (cell s' p') := rfl
  refine ⟨[.lst tw', cell s' p'], ?_⟩
  rw [callF_is (fn := f_law) rfl rfl]
  have i1 : callF prog (d + 9) "Store.__init__" [.ref 1] [.lst [], .ins "Store" []] = .ok (.val .non) ⟨[], [.lst [], cell kv0 stp0]⟩ := c_init (d := d + 8) (h := [.lst []])
  have g1 : -4611686018427387904 ≤ r := by omega
  have g2 : r < 4611686018427387904 := by omega
  simp only [menuT, fourK, List.map_cons, List.map_nil] at e e2
  generalize hs : ns.map D.int = scr at *
  simp [f_law, newLst, show okSize 9 = true from rfl, show okSize 4 = true from rfl, show okSize 0 = true from rfl, boxIt, i1, e1, g1, g2, isK, e, p1, meth_pic hi, seqOf, lstOf, muOf, e2, run2, recv2, runCmp, datOf, q3]
end
end KW.Pl
theorem PySem.Challenge.cw_keywire_k17_whole_sets_together_holds : PySem.Challenge.rw_keywire_k17_whole_sets_together.Holds := by
  exact KW.holds_of fun ns _ => KW.Pl.plain
