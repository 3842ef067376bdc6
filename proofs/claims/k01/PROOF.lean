import PyProof.Rows.All
import Wide.All
import OpenK.AllK
import Wide.FinOn
import HandS.ForMost
import HandS.Exc
import HandS.Wide
import HandS.Style
import HandS.TupAny
import HandS.Deep
import HandS.Codes
import HandS.IsInst
import HandS.Replace
import HandS.Conv
import KE.KDictList
import HandS.Flow
import HandS.Small
import HandS.ExcOwn
import HandS.Walk
import HandS.Defaults
import HandS.Set
import PyProof.Rows.SortShellAny
import PyProof.WalksMore
import PyProof.TupleIter
import KE.GoesZip
import KE.GoesMore
import HandS.Iter
import HandS.Ends
import HandS.More
import HandS.Words
import HandS.WordsExc
import HandS.Head0
import HandS.Head1
import HandS.Head2
import HandS.HeadEnd
import HandS.HeadHook1
import HandS.HeadHook2
import KE.KStateDown
import HandS.HeadWalk
import PySem.Challenge.RW_cancelwalks_k01_rows_that_cancel
set_option Elab.async false
set_option linter.all false
set_option maxRecDepth 100000
namespace TI
open PySem
inductive K where
  | i (n : Int) | s (x : List Char)
  deriving DecidableEq
inductive D where
  | non | bl (b : Bool) | int (i : Int) | str (x : List Char)
  | tup (l : List D) | lst (l : List D)
  | dk (l : List (K × D)) | dt (l : List (List K × D))
  | ins (c : Nat) (fs : List D)
  | scr (l : List Int)
inductive Slot where
  | un | val (d : D) | own (d : D)
abbrev Env := List Slot
structure Xc where
  c : Nat
  p : Option D
inductive R (α : Type) where
  | ok (a : α) (e : Env) | exc (x : Xc) (e : Env) | bad
inductive FR where
  | ok (d : D) (outs : List D) | exc (x : Xc) (outs : List D) | bad
inductive AV where
  | v (d : D) | o (i : Nat)
@[reducible] def R.bind {α β : Type} (r : R α) (f : α → Env → R β) : R β := match r with
  | .ok a e => f a e
  | .exc x e => .exc x e
  | .bad => .bad
@[simp] theorem R.bind_ok {α β : Type} (a : α) (e : Env) (f : α → Env → R β) : (R.ok a e).bind f = f a e := rfl
@[simp] theorem R.bind_exc {α β : Type} (x : Xc) (e : Env) (f : α → Env → R β) : (R.exc x e : R α).bind f = .exc x e := rfl
@[simp] theorem R.bind_bad {α β : Type} (f : α → Env → R β) : (R.bad : R α).bind f = .bad := rfl
def R.noX {α : Type} (r : R α) : R α := match r with
  | .ok a e => .ok a e
  | _ => .bad
@[simp] theorem R.noX_ok {α : Type} (a : α) (e : Env) : (R.ok a e).noX = .ok a e := rfl
@[simp] theorem R.noX_exc {α : Type} (x : Xc) (e : Env) : (R.exc x e : R α).noX = .bad := rfl
@[simp] theorem R.noX_bad {α : Type} : (R.bad : R α).noX = .bad := rfl
def R.of {α : Type} (o : Option α) (e : Env) : R α := match o with
  | some a => .ok a e
  | none => .bad
@[simp] theorem R.of_some {α : Type} (a : α) (e : Env) : R.of (some a) e = .ok a e := rfl
@[simp] theorem R.of_none {α : Type} (e : Env) : R.of (none : Option α) e = .bad := rfl
def isBox : D → Bool
  | .lst _ => true
  | .dk _ => true
  | .dt _ => true
  | .ins _ _ => true
  | _ => false
inductive Lit where
  | non | bl (b : Bool) | int (i : Int) | str (x : List Char)
def Lit.d : Lit → D
  | .non => .non | .bl b => .bl b | .int i => .int i | .str x => .str x
inductive BinO where
  | add | sub | mul | fdiv | mod | pow
  deriving DecidableEq
inductive CmpO where
  | eq | ne | lt | le | gt | ge | is_ | isnot | in_ | notin
  deriving DecidableEq
inductive BF where
  | len | list | tuple | sorted | sum | min1 | max1 | min2 | max2 | abs | int | str | repr | any | all | dict
  | sortedset | lenset
  deriving DecidableEq
inductive BM where
  | join | count | index | upper | lower
  deriving DecidableEq
inductive MM where
  | append | pop | popat | extend
  deriving DecidableEq
inductive Ty where
  | int | bool | str | tuple | list | dict | cls (c : Nat)
  deriving DecidableEq
inductive Tg where
  | n (i : Nat) | nil | cons (a b : Tg)
mutual
inductive E where
  | lit (l : Lit) | var (i : Nat) | frz (i : Nat) | mv (i : Nat) | glob (k : Nat)
  | bin (o : BinO) (a b : A) | cmp (o : CmpO) (a b : A) | neg (a : E)
  | chain (o1 o2 : CmpO) (a b c : A)
  | and_ (a b : E) | or_ (a b : E) | not_ (a : E) | ite (c a b : E)
  | tup (es : As) | lst (es : As) | dk (es : As) | dt (es : As)
  | idx (a b : A) | slc (a : A) (lo hi : As) | rev (a : A)
  | isi (a : A) (ts : List Ty) | dget (a k d : A)
  | bf (f : BF) (as : As) | bm (m : BM) (r : A) (as : As) | mu (m : MM) (i : Nat) (as : As)
  | call (f : Nat) (as : As) | make (c : Nat) (as : As) | fld (c k : Nat) (a : A)
  | comp (elt : E) (g : Gen) (own : List Nat)
  | comp2 (elt : E) (g1 g2 : Gen) (own own2 : List Nat)
  | dcomp (k v : E) (g : Gen) (own : List Nat)
inductive A where
  | e (x : E) | o (i : Nat)
inductive As where
  | nil | cons (a : A) (as : As)
inductive It where
  | seq (a : E) | rng1 (a : A) | rng2 (a b : A) | enum (a : E) | zip (a b : A) | items (a : E)
inductive Gen where
  | mk (tg : Tg) (it : It) (c : E)
end
mutual
inductive S where
  | set (i : Nat) (e : E) | setO (i : Nat) (e : E) | setT (t : Tg) (e : E)
  | par2 (i j : Nat) (oi oj : Bool) (a b : E) | par3 (i j k : Nat) (oi oj ok : Bool) (a b c : E)
  | sub (i : Nat) (k : E) (e : E) | fldS (i k : Nat) (e : E)
  | expr (e : E) | ret (e : E) | retN | pass | dead
  | ite (c : E) (a b : Ss) | while_ (c : E) (b : Ss) | for_ (t : Tg) (it : It) (b : Ss)
inductive Ss where
  | nil | cons (s : S) (ss : Ss)
end
inductive RS where
  | nx (e : Env) | rt (d : D) (e : Env) | exc (x : Xc) (e : Env) | bad
def RS.of {α : Type} (r : R α) (f : α → Env → RS) : RS := match r with
  | .ok a e => f a e
  | .exc x e => .exc x e
  | .bad => .bad
@[simp] theorem RS.of_ok {α : Type} (a : α) (e : Env) (f : α → Env → RS) : RS.of (R.ok a e) f = f a e := rfl
@[simp] theorem RS.of_exc {α : Type} (x : Xc) (e : Env) (f : α → Env → RS) : RS.of (R.exc x e : R α) f = .exc x e := rfl
@[simp] theorem RS.of_bad {α : Type} (f : α → Env → RS) : RS.of (R.bad : R α) f = .bad := rfl
def RS.bind (r : RS) (f : Env → RS) : RS := match r with
  | .nx e => f e
  | .rt d e => .rt d e
  | .exc x e => .exc x e
  | .bad => .bad
@[simp] theorem RS.bind_nx (e : Env) (f : Env → RS) : (RS.nx e).bind f = f e := rfl
@[simp] theorem RS.bind_rt (d : D) (e : Env) (f : Env → RS) : (RS.rt d e).bind f = .rt d e := rfl
@[simp] theorem RS.bind_exc (x : Xc) (e : Env) (f : Env → RS) : (RS.exc x e).bind f = .exc x e := rfl
@[simp] theorem RS.bind_bad (f : Env → RS) : RS.bad.bind f = .bad := rfl
end TI
set_option Elab.async false
set_option linter.all false
set_option maxRecDepth 100000
namespace TI
open PySem
def lim : Nat := 16777216
def mulOk (a b : Int) : Bool := decide (a.natAbs < 2 ^ 64) || decide (b.natAbs < 2 ^ 64)
def divOk (b : Int) : Bool := decide (0 < b) && decide (b.natAbs < 2 ^ 8000)
def powOk (a b : Int) : Bool := decide (0 ≤ b) && decide (b ≤ 1000) && decide (a.natAbs < 2 ^ 1000)
def at? {α : Type} (l : List α) (i : Int) : Option α := if 0 ≤ i then l[i.toNat]? else if -(l.length : Int) ≤ i then l[(i + l.length).toNat]? else none
def cutAt (n d : Nat) : Option Int → Nat
  | none => d
  | some v => if v < 0 then (v + (n : Int)).toNat else min v.toNat n
def cut {α : Type} (l : List α) (lo hi : Option Int) : List α := (l.drop (cutAt l.length 0 lo)).take (cutAt l.length l.length hi - cutAt l.length 0 lo)
def D.intO : D → Option Int
  | .int i => some i
  | _ => none
def D.strO : D → Option (List Char)
  | .str x => some x
  | _ => none
def D.blO : D → Option Bool
  | .bl b => some b
  | _ => none
def D.tupO : D → Option (List D)
  | .tup l => some l
  | _ => none
def intL : List D → Option (List Int)
  | [] => some []
  | d :: r => match d with
    | .int i => (intL r).map (i :: ·)
    | _ => none
def strL : List D → Option (List (List Char))
  | [] => some []
  | d :: r => match d with
    | .str i => (strL r).map (i :: ·)
    | _ => none
def boolL : List D → Option (List Bool)
  | [] => some []
  | d :: r => match d with
    | .bl i => (boolL r).map (i :: ·)
    | _ => none
theorem intL_map (l : List Int) : intL (l.map .int) = some l := by
  induction l with
  | nil => rfl
  | cons a l ih => simp [intL, ih]
theorem strL_map (l : List (List Char)) : strL (l.map .str) = some l := by
  induction l with
  | nil => rfl
  | cons a l ih => simp [strL, ih]
theorem boolL_map (l : List Bool) : boolL (l.map .bl) = some l := by
  induction l with
  | nil => rfl
  | cons a l ih => simp [boolL, ih]
theorem intL_eq : ∀ {l : List D} {r : List Int}, intL l = some r → l = r.map .int
  | [], r, h => by cases h; rfl
  | d :: l, r, h => by
    cases d with
    | int i =>
      simp only [intL, Option.map_eq_some_iff] at h
      obtain ⟨r', h1, rfl⟩ := h
      rw [intL_eq h1]; rfl
    | _ => cases h
theorem strL_eq : ∀ {l : List D} {r : List (List Char)}, strL l = some r → l = r.map .str
  | [], r, h => by cases h; rfl
  | d :: l, r, h => by
    cases d with
    | str i =>
      simp only [strL, Option.map_eq_some_iff] at h
      obtain ⟨r', h1, rfl⟩ := h
      rw [strL_eq h1]; rfl
    | _ => cases h
theorem boolL_eq : ∀ {l : List D} {r : List Bool}, boolL l = some r → l = r.map .bl
  | [], r, h => by cases h; rfl
  | d :: l, r, h => by
    cases d with
    | bl i =>
      simp only [boolL, Option.map_eq_some_iff] at h
      obtain ⟨r', h1, rfl⟩ := h
      rw [boolL_eq h1]; rfl
    | _ => cases h
mutual
def eqD : D → D → Option Bool
  | .non, b => match b with
    | .ins _ _ => none
    | .scr _ => none
    | .dk _ => none
    | .dt _ => none
    | .non => some true
    | _ => some false
  | .bl a, b => match b with
    | .bl c => some (a == c)
    | .int j => some ((if a then 1 else 0) == j)
    | .non => some false
    | .str _ => some false
    | .lst _ => some false
    | .tup _ => some false
    | _ => none
  | .int a, b => match b with
    | .bl c => some (a == (if c then 1 else 0))
    | .int j => some (a == j)
    | .non => some false
    | .str _ => some false
    | .lst _ => some false
    | .tup _ => some false
    | _ => none
  | .str a, b => match b with
    | .str c => some (a == c)
    | .non => some false
    | .bl _ => some false
    | .int _ => some false
    | .lst _ => some false
    | .tup _ => some false
    | _ => none
  | .lst a, b => match b with
    | .lst c => eqDs a c
    | .non => some false
    | .bl _ => some false
    | .int _ => some false
    | .str _ => some false
    | .tup _ => some false
    | _ => none
  | .tup a, b => match b with
    | .tup c => eqDs a c
    | .non => some false
    | .bl _ => some false
    | .int _ => some false
    | .str _ => some false
    | .lst _ => some false
    | _ => none
  | .dk _, _ => none
  | .dt _, _ => none
  | .ins _ _, _ => none
  | .scr _, _ => none
def eqDs : List D → List D → Option Bool
  | [], [] => some true
  | [], _ :: _ => some false
  | _ :: _, [] => some false
  | a :: l, b :: r => match eqD a b, eqDs l r with
    | some x, some y => some (x && y)
    | _, _ => none
end
mutual
def plainD : D → Bool
  | .lst l => plainDs l
  | .tup l => plainDs l
  | .dk _ => false
  | .dt _ => false
  | .ins _ _ => false
  | .scr _ => false
  | _ => true
def plainDs : List D → Bool
  | [] => true
  | d :: r => plainD d && plainDs r
def depD : D → Nat
  | .lst l => depDs l + 1
  | .tup l => depDs l + 1
  | _ => 0
def depDs : List D → Nat
  | [] => 0
  | d :: r => max (depD d) (depDs r)
end
def eqT (a b : D) : Option Bool := if plainD a && plainD b && decide (depD a ≤ 60) && decide (depD b ≤ 60) then eqD a b else none
def ltC : List Char → List Char → Bool
  | [], [] => false
  | [], _ :: _ => true
  | _ :: _, [] => false
  | a :: l, b :: r => if a.toNat < b.toNat then true else if b.toNat < a.toNat then false else ltC l r
def ltK : D → D → Option Bool
  | .int a, .int b => some (decide (a < b))
  | .str a, .str b => some (ltC a b)
  | _, _ => none
def ins1 {α : Type} (lt : α → α → Bool) (a : α) : List α → List α
  | [] => [a]
  | b :: l => if lt b a then b :: ins1 lt a l else a :: b :: l
def isort {α : Type} (lt : α → α → Bool) : List α → List α
  | [] => []
  | a :: l => ins1 lt a (isort lt l)
def upC (c : Char) : Char := if 'a' ≤ c ∧ c ≤ 'z' then Char.ofNat (c.toNat - 32) else c
def loC (c : Char) : Char := if 'A' ≤ c ∧ c ≤ 'Z' then Char.ofNat (c.toNat + 32) else c
def asciiC (c : Char) : Bool := decide (c.toNat < 128)
def countC (x : List Char) (y : Char) : Nat := (x.filter (· == y)).length
def kOf : D → Option K
  | .int i => some (.i i)
  | .str x => some (.s x)
  | _ => none
def K.d : K → D
  | .i n => .int n
  | .s x => .str x
def ksOf : List D → Option (List K)
  | [] => some []
  | d :: r => match kOf d, ksOf r with
    | some k, some ks => some (k :: ks)
    | _, _ => none
def tOf : D → Option (List K)
  | .tup (d :: l) => ksOf (d :: l)
  | _ => none
section
variable {κ : Type} [DecidableEq κ]
def dget (l : List (κ × D)) (k : κ) : Option D := (l.find? fun p => decide (p.1 = k)).map (·.2)
def dput (l : List (κ × D)) (k : κ) (v : D) : List (κ × D) := if l.any fun p => decide (p.1 = k) then l.map fun p => if p.1 = k then (p.1, v) else p else l ++ [(k, v)]
end
def addD : D → D → Option D
  | .int a, .int b => some (.int (a + b))
  | .str a, .str b => if a.length + b.length ≤ lim then some (.str (a ++ b)) else none
  | .lst a, .lst b => if a.length + b.length ≤ lim then some (.lst (a ++ b)) else none
  | .tup a, .tup b => if a.length + b.length ≤ lim then some (.tup (a ++ b)) else none
  | _, _ => none
def binD (o : BinO) (x y : D) : Option D := match o with
  | .add => addD x y
  | .sub => match x, y with
    | .int a, .int b => some (.int (a - b))
    | _, _ => none
  | .mul => match x, y with
    | .int a, .int b => if mulOk a b then some (.int (a * b)) else none
    | .lst a, .int b => if a.length * b.toNat ≤ lim ∧ -(2 ^ 62) < b ∧ b < 2 ^ 62 then some (.lst (List.replicate b.toNat a).flatten) else none
    | _, _ => none
  | .fdiv => match x, y with
    | .int a, .int b => if divOk b then some (.int (a / b)) else none
    | _, _ => none
  | .mod => match x, y with
    | .int a, .int b => if 0 < b then some (.int (a % b)) else none
    | _, _ => none
  | .pow => match x, y with
    | .int a, .int b => if powOk a b then some (.int (a ^ b.toNat)) else none
    | _, _ => none
def eqAny (x : D) : List D → Option Bool
  | [] => some false
  | z :: l => match eqD z x, eqAny x l with
    | some p, some q => some (p || q)
    | _, _ => none
def inD (x y : D) : Option Bool := match y with
  | .str b => match x with
    | .str [a] => some (decide (a ∈ b))
    | _ => none
  | .lst l => if plainD x && plainDs l && decide (depD x ≤ 50) && decide (depDs l ≤ 50) then eqAny x l else none
  | .tup l => if plainD x && plainDs l && decide (depD x ≤ 50) && decide (depDs l ≤ 50) then eqAny x l else none
  | .dk l => (kOf x).map fun k => (dget l k).isSome
  | .dt l => (tOf x).map fun k => (dget l k).isSome
  | _ => none
def ltD : D → D → Option Bool
  | .int a, .int b => some (decide (a < b))
  | .str a, .str b => some (ltC a b)
  | _, _ => none
def cmpD (o : CmpO) (x y : D) : Option Bool := match o with
  | .eq => eqT x y
  | .ne => (eqT x y).map (!·)
  | .lt => ltD x y
  | .le => (ltD y x).map (!·)
  | .gt => ltD y x
  | .ge => (ltD x y).map (!·)
  | .is_ => match y with
    | .non => match x with
      | .non => some true
      | _ => some false
    | .bl b => match x with
      | .bl a => some (a == b)
      | _ => none
    | _ => none
  | .isnot => match y with
    | .non => match x with
      | .non => some false
      | _ => some true
    | .bl b => match x with
      | .bl a => some (!(a == b))
      | _ => none
    | _ => none
  | .in_ => inD x y
  | .notin => (inD x y).map (!·)
def idxD (x y : D) : Option D := match x, y with
  | .lst l, .int i => at? l i
  | .tup l, .int i => at? l i
  | .scr l, .int i => (at? l i).map .int
  | .str l, .int i => if l.length ≤ lim then (at? l i).map fun c => .str [c] else none
  | .dk l, k => (kOf k).bind (dget l)
  | .dt l, k => (tOf k).bind (dget l)
  | _, _ => none
def cutD (x : D) (lo hi : Option Int) : Option D := match x with
  | .lst l => some (.lst (cut l lo hi))
  | .tup l => some (.tup (cut l lo hi))
  | .str l => if l.length ≤ lim then some (.str (cut l lo hi)) else none
  | _ => none
def revD (x : D) : Option D := match x with
  | .lst l => some (.lst l.reverse)
  | .str l => if l.length ≤ lim then some (.str l.reverse) else none
  | _ => none
def negD (x : D) : Option D := match x with
  | .int a => some (.int (-a))
  | _ => none
def tru (x : D) : Option Bool := match x with
  | .non => some false
  | .bl b => some b
  | .int i => some (i != 0)
  | .str l => if l.length ≤ lim then some (!l.isEmpty) else none
  | .lst l => some (!l.isEmpty)
  | .tup l => some (!l.isEmpty)
  | .dk l => some (!l.isEmpty)
  | _ => none
def tyD (t : Ty) (x : D) : Bool := match t, x with
  | .int, .int _ => true
  | .int, .bl _ => true
  | .bool, .bl _ => true
  | .str, .str _ => true
  | .tuple, .tup _ => true
  | .list, .lst _ => true
  | .dict, .dk _ => true
  | .dict, .dt _ => true
  | .cls c, .ins k _ => c == k
  | _, _ => false
def maxI : List Int → Int
  | [] => 0
  | [a] => a
  | a :: l => max a (maxI l)
def minI : List Int → Int
  | [] => 0
  | [a] => a
  | a :: l => min a (minI l)
def sortL (l : List D) : Option D := if l.length < 64 then match intL l with
    | some ns => some (.lst ((isort (fun a b => decide (a < b)) ns).map .int))
    | none => match strL l with
      | some xs => some (.lst ((isort ltC xs).map .str))
      | none => none
  else none
def itemsD (x : D) : Option (List D) := match x with
  | .lst l => some l
  | .tup l => some l
  | .str l => some (l.map fun c => .str [c])
  | _ => none
def encS (x : List Char) : Str := ⟨(x.map Char.toNat).toArray⟩
mutual
def toPy : D → PyData
  | .non => .none
  | .bl b => .bool b
  | .int i => .int i
  | .str x => .str (encS x)
  | .tup l => .tuple (toPys l)
  | .lst l => .list (toPys l)
  | .dk _ => .none
  | .dt _ => .none
  | .ins _ _ => .none
  | .scr _ => .none
def toPys : List D → List PyData
  | [] => []
  | d :: l => toPy d :: toPys l
end
def decS (s : Str) : List Char := s.cps.toList.map Char.ofNat
def reprD (d : D) : Option (List Char) :=
  if plainD d && decide (depD d ≤ 60) && (toPy d).showable && decide ((toPy d).shown.length ≤ 1000000) && decide (encS (decS (toPy d).shown) = (toPy d).shown) then some (decS (toPy d).shown) else none
def addK {α : Type} [DecidableEq α] (ks : List α) (k : α) : List α := if k ∈ ks then ks else ks ++ [k]
def uniqK {α : Type} [DecidableEq α] (l : List α) : List α := l.foldl addK []
def sortU (l : List D) : Option D := if l.length ≤ 4000 then match intL l with
    | some ns => some (.lst ((isort (fun a b => decide (a < b)) (uniqK ns)).map .int))
    | none => match strL l with
      | some xs => some (.lst ((isort ltC (uniqK xs)).map .str))
      | none => none
  else none
def lenU (l : List D) : Option D := if l.length ≤ 4000 then match intL l with
    | some ns => some (.int (uniqK ns).length)
    | none => match strL l with
      | some xs => some (.int (uniqK xs).length)
      | none => none
  else none
def bfD (f : BF) (as : List D) : Option D := match f, as with
  | .len, [.lst l] => some (.int l.length)
  | .len, [.tup l] => some (.int l.length)
  | .len, [.str l] => if l.length ≤ lim then some (.int l.length) else none
  | .len, [.dk l] => some (.int l.length)
  | .len, [.scr l] => some (.int l.length)
  | .list, [.lst l] => some (.lst l)
  | .list, [.tup l] => some (.lst l)
  | .list, [.str l] => if l.length ≤ lim then some (.lst (l.map fun c => .str [c])) else none
  | .tuple, [.lst l] => some (.tup l)
  | .tuple, [.tup l] => some (.tup l)
  | .sorted, [.lst l] => sortL l
  | .sum, [.lst l] => (intL l).map fun ns => .int ns.sum
  | .max1, [.lst l] => (intL l).bind fun ns => if ns = [] then none else some (.int (maxI ns))
  | .min1, [.lst l] => (intL l).bind fun ns => if ns = [] then none else some (.int (minI ns))
  | .max2, [.int a, .int b] => some (.int (if b > a then b else a))
  | .min2, [.int a, .int b] => some (.int (if b < a then b else a))
  | .abs, [.int a] => some (.int (if a < 0 then -a else a))
  | .int, [.int a] => some (.int a)
  | .int, [.bl b] => some (.int (if b then 1 else 0))
  | .any, [.lst l] => (boolL l).map fun bs => .bl (bs.any id)
  | .all, [.lst l] => (boolL l).map fun bs => .bl (bs.all id)
  | .repr, [d] => (reprD d).map .str
  | .sortedset, [x] => (itemsD x).bind sortU
  | .lenset, [x] => (itemsD x).bind lenU
  | _, _ => none
def joinD (r : D) (as : List D) : Option D := match as with
  | [a] => match r with
    | .str [] => match a with
      | .lst l => (strL l).bind fun xs => if xs.flatten.length ≤ lim then some (.str xs.flatten) else none
      | _ => none
    | _ => none
  | _ => none
def upperD (r : D) (as : List D) : Option D := match as with
  | [] => match r with
    | .str x => if x.length ≤ 1000000 ∧ x.all asciiC then some (.str (x.map upC)) else none
    | _ => none
  | _ => none
def lowerD (r : D) (as : List D) : Option D := match as with
  | [] => match r with
    | .str x => if x.length ≤ 1000000 ∧ x.all asciiC then some (.str (x.map loC)) else none
    | _ => none
  | _ => none
def signD (f : List Char → Char → Option D) (r : D) (as : List D) : Option D := match as with
  | [a] => match r with
    | .str x => match a with
      | .str [y] => f x y
      | _ => none
    | _ => none
  | _ => none
def getD (r k d : D) : Option D := match r with
  | .dk l => (kOf k).map fun k => (dget l k).getD d
  | .dt l => (tOf k).map fun k => (dget l k).getD d
  | _ => none
def bmD (m : BM) (r : D) (as : List D) : Option D := match m with
  | .join => joinD r as
  | .upper => upperD r as
  | .lower => lowerD r as
  | .count => signD (fun x y => some (.int (countC x y))) r as
  | .index => signD (fun x y => if y ∈ x then some (.int (x.idxOf y)) else none) r as
def muD (m : MM) (x : D) (as : List D) : Option (D × D) := match m with
  | .append => match as with
    | [y] => match x with
      | .lst l => if l.length < lim then some (.non, .lst (l ++ [y])) else none
      | _ => none
    | _ => none
  | .pop => match as with
    | [] => match x with
      | .lst l => l.getLast?.map fun y => (y, .lst l.dropLast)
      | _ => none
    | _ => none
  | .popat => match as with
    | [k] => match x with
      | .lst l => match k with
        | .int i => if 0 ≤ i ∧ i < 2 ^ 62 then l[i.toNat]?.map fun y => (y, .lst (l.eraseIdx i.toNat)) else none
        | _ => none
      | _ => none
    | _ => none
  | .extend => match as with
    | [r] => match x with
      | .lst l => match r with
        | .lst r => if l.length + r.length ≤ lim then some (.non, .lst (l ++ r)) else none
        | _ => none
      | _ => none
    | _ => none
def subD (x k v : D) : Option D := match x, k with
  | .lst l, .int i => if 0 ≤ i ∧ i < l.length then some (.lst (l.set i.toNat v)) else none
  | .dk l, k => (kOf k).bind fun k => if l.length < lim then some (.dk (dput l k v)) else none
  | .dt l, k => (tOf k).bind fun k => if l.length < lim then some (.dt (dput l k v)) else none
  | _, _ => none
def zipD : List D → List D → List D
  | a :: l, b :: r => .tup [a, b] :: zipD l r
  | _, _ => []
def enumD (k : Nat) : List D → List D
  | [] => []
  | a :: l => .tup [.int k, a] :: enumD (k + 1) l
def rangeD (lo hi : Int) : List D := (List.range (hi - lo).toNat).map fun i => .int (lo + (i : Nat))
def rngD (as : List D) : Option (List D) := match as with
  | [.int j] => if -(2 ^ 62) ≤ j ∧ j < 2 ^ 62 then some (rangeD 0 j) else none
  | [.int i, .int j] => if -(2 ^ 62) ≤ i ∧ i < 2 ^ 62 ∧ -(2 ^ 62) ≤ j ∧ j < 2 ^ 62 then some (rangeD i j) else none
  | _ => none
def asg : Tg → D → Env → Option Env
  | .n i, d, e => some (e.set i (.val d))
  | .nil, d, e => match d with
    | .tup [] => some e
    | _ => none
  | .cons a b, d, e => match d with
    | .tup (x :: r) => (asg a x e).bind (asg b (.tup r))
    | _ => none
end TI
set_option Elab.async false
set_option linter.all false
set_option maxRecDepth 100000
namespace TI
open PySem
structure Fns where
  fn : Nat → List Slot → FR
  fresh : Nat → Bool
  glob : Nat → Option D
  init : Nat → Nat
  ncls : Nat
def isiOk (Φ : Fns) : D → Bool
  | .ins c _ => decide (c < Φ.ncls)
  | .scr _ => false
  | _ => true
def isBoxL : D → Bool
  | .lst _ => true
  | _ => false
def res (e : Env) : AV → Option D
  | .v d => some d
  | .o i => match e[i]? with
    | some (.own d) => some d
    | some (.val d) => some d
    | _ => none
def resL (e : Env) : List AV → Option (List D)
  | [] => some []
  | a :: l => match res e a, resL e l with
    | some d, some r => some (d :: r)
    | _, _ => none
def valsL : List AV → Option (List D)
  | [] => some []
  | a :: l => match a with
    | .v d => (valsL l).map (d :: ·)
    | .o _ => none
def slotsL (e : Env) : List AV → Option (List Slot)
  | [] => some []
  | .v d :: l => (slotsL e l).map (.val d :: ·)
  | .o i :: l => match e[i]? with
    | some (.own d) => (slotsL e l).map (.own d :: ·)
    | _ => none
def ownIx : List AV → List Nat
  | [] => []
  | .v _ :: l => ownIx l
  | .o i :: l => i :: ownIx l
def putOuts (e : Env) : List Nat → List D → Env
  | i :: is, d :: ds => putOuts (e.set i (.own d)) is ds
  | _, _ => e
def putS : List Slot → List D → List Slot
  | .own x :: r, ds => match ds with
    | d :: ds => .own d :: putS r ds
    | [] => .own x :: putS r []
  | s :: r, ds => s :: putS r ds
  | [], _ => []
def nodupB : List Nat → Bool
  | [] => true
  | a :: l => !l.contains a && nodupB l
def wipe (e : Env) : List Nat → Env
  | [] => e
  | v :: vs => (wipe e vs).set v .un
def rest (e₀ e : Env) : List Nat → Env
  | [] => e
  | v :: vs => (rest e₀ e vs).set v (e₀.getD v .un)
def compL (f : D → Env → R (Option D)) : List D → Env → R (List D)
  | [], e => .ok [] e
  | d :: l, e => (f d e).bind fun o e => (compL f l e).bind fun r e => .ok (match o with
    | some y => y :: r
    | none => r) e
def compL2 (f : D → Env → R (List D)) : List D → Env → R (List D)
  | [], e => .ok [] e
  | d :: l, e => (f d e).bind fun o e => (compL2 f l e).bind fun r e => .ok (o ++ r) e
def dkOf : List D → Option (List (K × D))
  | [] => some []
  | k :: v :: r => match kOf k, dkOf r with
    | some k, some r => some ((k, v) :: r)
    | _, _ => none
  | _ => none
def dtOf : List D → Option (List (List K × D))
  | [] => some []
  | k :: v :: r => match tOf k, dtOf r with
    | some k, some r => some ((k, v) :: r)
    | _, _ => none
  | _ => none
def putAll {κ : Type} [DecidableEq κ] (l : List (κ × D)) : List (κ × D) → List (κ × D)
  | [] => l
  | p :: r => putAll (dput l p.1 p.2) r
def callR (Φ : Fns) (f : Nat) (l : List AV) (e : Env) : R D := match slotsL e l with
  | some as => if nodupB (ownIx l) then match Φ.fn f as with
    | .ok d outs => if outs.length = (ownIx l).length then .ok d (putOuts e (ownIx l) outs) else .bad
    | .exc x outs => if outs.length = (ownIx l).length then .exc x (putOuts e (ownIx l) outs) else .bad
    | .bad => .bad
    else .bad
  | none => .bad
def makeR (Φ : Fns) (c : Nat) (l : List AV) (e : Env) : R D := match valsL l with
  | some ds => match Φ.fn (Φ.init c) (.own (.ins c []) :: ds.map .val) with
    | .ok d outs => match d, outs with
      | .non, [o] => .ok o e
      | _, _ => .bad
    | .exc x _ => .exc x e
    | .bad => .bad
  | none => .bad
def strOf (a : AV) : Option (List Char) := match a with
  | .v (.str x) => some x
  | _ => none
def lstAt (e : Env) (i : Nat) : Bool := match e[i]? with
  | some (.own (.lst _)) => true
  | _ => false
def ownAt (e : Env) (i : Nat) : Bool := match e[i]? with
  | some (.own _) => true
  | _ => false
def muOwn (m : MM) : Bool := match m with
  | .extend => true
  | _ => false
def muR (m : MM) (i : Nat) (l : List AV) (e : Env) : R D := match e[i]? with
  | some (.own d) => match (if muOwn m then resL e l else valsL l) with
    | some ds => if ownIx l = [i] then .bad else match muD m d ds with
      | some (y, d') => .ok y (e.set i (.own d'))
      | none => .bad
    | none => .bad
  | _ => .bad
mutual
def evE (Φ : Fns) : E → Env → R D
  | .lit l, e => .ok l.d e
  | .var i, e => match e[i]? with
    | some (.val d) => .ok d e
    | _ => .bad
  | .frz i, e => match e[i]? with
    | some (.own d) => .ok d (e.set i (.val d))
    | some (.val d) => .ok d e
    | _ => .bad
  | .mv i, e => match e[i]? with
    | some (.own d) => .ok d (e.set i .un)
    | _ => .bad
  | .glob k, e => R.of (Φ.glob k) e
  | .bin o a b, e => (evA Φ a e).bind fun x e => (evA Φ b e).bind fun y e => R.of ((resL e [x, y]).bind fun ds => match ds with
    | [p, q] => binD o p q
    | _ => none) e
  | .cmp o a b, e => (evA Φ a e).bind fun x e => (evA Φ b e).bind fun y e => R.of ((resL e [x, y]).bind fun ds => match ds with
    | [p, q] => (cmpD o p q).map .bl
    | _ => none) e
  | .neg a, e => (evE Φ a e).bind fun x e => R.of (negD x) e
  | .chain o1 o2 a b c, e => (evA Φ a e).bind fun x e => (evA Φ b e).bind fun y e => (R.of ((resL e [x, y]).bind fun ds => match ds with
    | [p, q] => cmpD o1 p q
    | _ => none) e).bind fun t e => if t then (evA Φ c e).bind fun z e => R.of ((resL e [y, z]).bind fun ds => match ds with
      | [p, q] => (cmpD o2 p q).map .bl
      | _ => none) e else .ok (.bl false) e
  | .and_ a b, e => (evE Φ a e).bind fun x e => (R.of (tru x) e).bind fun t e => if t then (evE Φ b e).bind fun d e => .ok d e else .ok x e
  | .or_ a b, e => (evE Φ a e).bind fun x e => (R.of (tru x) e).bind fun t e => if t then .ok x e else (evE Φ b e).bind fun d e => .ok d e
  | .not_ a, e => (evE Φ a e).bind fun x e => R.of ((tru x).map fun t => .bl (!t)) e
  | .ite c a b, e => (evE Φ c e).bind fun x e => (R.of (tru x) e).bind fun t e => if t then (evE Φ a e).bind fun d e => .ok d e else (evE Φ b e).bind fun d e => .ok d e
  | .tup es, e => (evAs Φ es e).bind fun l e => R.of ((valsL l).bind fun ds => if ds.length ≤ lim then some (.tup ds) else none) e
  | .lst es, e => (evAs Φ es e).bind fun l e => R.of ((valsL l).bind fun ds => if ds.length ≤ lim then some (.lst ds) else none) e
  | .dk es, e => (evAs Φ es e).bind fun l e => R.of ((valsL l).bind fun ds => (dkOf ds).bind fun ps => if ps.length ≤ 15 then some (.dk (putAll [] ps)) else none) e
  | .dt es, e => (evAs Φ es e).bind fun l e => R.of ((valsL l).bind fun ds => (dtOf ds).bind fun ps => if ps.length ≤ 15 then some (.dt (putAll [] ps)) else none) e
  | .idx a b, e => (evA Φ a e).bind fun x e => (evA Φ b e).bind fun y e => R.of ((resL e [x, y]).bind fun ds => match ds with
    | [p, q] => idxD p q
    | _ => none) e
  | .slc a lo hi, e => (evA Φ a e).bind fun x e => (evB Φ lo e).bind fun i e => (evB Φ hi e).bind fun j e => R.of ((res e x).bind fun p => cutD p i j) e
  | .rev a, e => (evA Φ a e).bind fun x e => R.of ((res e x).bind revD) e
  | .isi a ts, e => (evA Φ a e).bind fun x e => R.of ((res e x).bind fun d => if isiOk Φ d then some (.bl (ts.any fun t => tyD t d)) else none) e
  | .dget a k d, e => (evA Φ a e).bind fun x e => (R.of ((res e x).bind fun p => match p with
    | .dk _ => some ()
    | .dt _ => some ()
    | _ => none) e).bind fun _ e => (evA Φ k e).bind fun y e => (evA Φ d e).bind fun z e => R.of ((res e x).bind fun p => (resL e [y, z]).bind fun ds => match ds with
      | [q, r] => getD p q r
      | _ => none) e
  | .bf f as, e => (evAs Φ as e).bind fun l e => R.of ((resL e l).bind (bfD f)) e
  | .bm m r as, e => (evA Φ r e).bind fun x e => (R.of (strOf x) e).bind fun p e => (evAs Φ as e).bind fun l e => R.of ((resL e l).bind (bmD m (.str p))) e
  | .mu m i as, e => if lstAt e i then (evAs Φ as e).bind fun l e => muR m i l e else .bad
  | .call f as, e => (evAs Φ as e).bind fun l e => callR Φ f l e
  | .make c as, e => (evAs Φ as e).bind fun l e => makeR Φ c l e
  | .fld c k a, e => (evA Φ a e).bind fun x e => R.of ((res e x).bind fun d => match d with
    | .ins c' fs => if c' = c then fs[k]? else none
    | _ => none) e
  | .comp elt (.mk tg it c) own, e => (evIt Φ it e).bind fun items e => (compL (fun d e' => R.noX ((R.of (asg tg d (wipe e' own)) e').bind fun e₁ _ =>
      ((evE Φ c e₁).bind fun x e => R.of (tru x) e).bind fun t e₂ => if t then (evE Φ elt e₂).bind fun y e₃ => .ok (some y) e₃ else .ok none e₂)) items e).bind fun r e' => if r.length ≤ lim then .ok (.lst r) (rest e e' own) else .bad
  | .comp2 elt (.mk tg it c) (.mk tg2 it2 c2) own own2, e => (evIt Φ it e).bind fun items e => (compL2 (fun d e' => R.noX ((R.of (asg tg d (wipe e' own)) e').bind fun e₁ _ =>
      ((evE Φ c e₁).bind fun x e => R.of (tru x) e).bind fun t e₂ => if t then (evIt Φ it2 e₂).bind fun items2 e₃ => (compL (fun d2 e'' => R.noX ((R.of (asg tg2 d2 (wipe e'' own2)) e'').bind fun e₄ _ =>
          ((evE Φ c2 e₄).bind fun x e => R.of (tru x) e).bind fun t2 e₅ => if t2 then (evE Φ elt e₅).bind fun y e₆ => .ok (some y) e₆ else .ok none e₅)) items2 e₃)
        else .ok [] e₂)) items e).bind fun r e' => if r.length ≤ lim then .ok (.lst r) (rest e e' own) else .bad
  | .dcomp k v (.mk tg it c) own, e => (evIt Φ it e).bind fun items e => (compL (fun d e' => R.noX ((R.of (asg tg d (wipe e' own)) e').bind fun e₁ _ =>
      ((evE Φ c e₁).bind fun x e => R.of (tru x) e).bind fun t e₂ => if t then (evE Φ k e₂).bind fun x e₃ => (evE Φ v e₃).bind fun y e₄ => .ok (some (.tup [x, y])) e₄ else .ok none e₂)) items e).bind fun r e' => match r.foldr (fun d acc => match d, acc with
          | .tup [x, y], some a => (kOf x).map fun k => (k, y) :: a
          | _, _ => none) (some ([] : List (K × D))) with
        | some l => if l.length ≤ 100000 then .ok (.dk (putAll [] l)) (rest e e' own) else .bad
        | none => .bad
def evA (Φ : Fns) : A → Env → R AV
  | .e x, e => (evE Φ x e).bind fun d e => .ok (.v d) e
  | .o i, e => match e[i]? with
    | some (.own _) => .ok (.o i) e
    | some (.val d) => .ok (.v d) e
    | _ => .bad
def evAs (Φ : Fns) : As → Env → R (List AV)
  | .nil, e => .ok [] e
  | .cons a as, e => (evA Φ a e).bind fun x e => (evAs Φ as e).bind fun l e => .ok (x :: l) e
def evB (Φ : Fns) : As → Env → R (Option Int)
  | .nil, e => .ok none e
  | .cons a .nil, e => (evA Φ a e).bind fun x e => match x with
    | .v (.int i) => .ok (some i) e
    | _ => .bad
  | _, _ => .bad
def evIt (Φ : Fns) : It → Env → R (List D)
  | .seq a, e => (evE Φ a e).bind fun x e => R.of (itemsD x) e
  | .rng1 a, e => ((evA Φ a e).bind fun x e => (R.ok [] e).bind fun l e => .ok (x :: l) e).bind fun l e => R.of ((valsL l).bind fun ds => match ds with
    | [d] => rngD [d]
    | _ => none) e
  | .rng2 a b, e => ((evA Φ a e).bind fun x e => ((evA Φ b e).bind fun x e => (R.ok [] e).bind fun l e => .ok (x :: l) e).bind fun l e => .ok (x :: l) e).bind fun l e => R.of ((valsL l).bind fun ds => match ds with
    | [c, d] => rngD [c, d]
    | _ => none) e
  | .enum a, e => (evE Φ a e).bind fun x e => R.of ((itemsD x).map (enumD 0)) e
  | .zip a b, e => (evA Φ a e).bind fun x e => (evA Φ b e).bind fun y e => R.of (match x, y with
    | .v x, .v y => (itemsD x).bind fun l => (itemsD y).map (zipD l)
    | _, _ => none) e
  | .items _, _ => .bad
end
def loopW : Nat → (Env → R Bool) → (Env → RS) → Env → RS
  | 0, _, _, _ => .bad
  | n + 1, c, b, e => RS.of (c e) fun t e => if t then (b e).bind (loopW n c b) else .nx e
def loopF (f : D → Env → RS) : List D → Env → RS
  | [], e => .nx e
  | d :: l, e => (f d e).bind (loopF f l)
def fuel : Nat := 100000000
def mk (o : Bool) (d : D) : Slot := if o then .own d else .val d
mutual
def evS (Φ : Fns) : S → Env → RS
  | .set i x, e => RS.of (evE Φ x e) fun d e => .nx (e.set i (.val d))
  | .setO i x, e => RS.of (evE Φ x e) fun d e => if isBox d then .nx (e.set i (.own d)) else .bad
  | .setT t x, e => RS.of (evE Φ x e) fun d e => match asg t d e with
    | some e => .nx e
    | none => .bad
  | .par2 i j oi oj a b, e => RS.of (evE Φ a e) fun x e => RS.of (evE Φ b e) fun y e => if (!oi || isBox x) && (!oj || isBox y) then .nx ((e.set i (mk oi x)).set j (mk oj y)) else .bad
  | .par3 i j k oi oj ok a b c, e => RS.of (evE Φ a e) fun x e => RS.of (evE Φ b e) fun y e => RS.of (evE Φ c e) fun z e => if (!oi || isBox x) && (!oj || isBox y) && (!ok || isBox z) then .nx (((e.set i (mk oi x)).set j (mk oj y)).set k (mk ok z)) else .bad
  | .sub i k x, e => RS.of (evA Φ (.e x) e) fun d e => if ownAt e i then RS.of (evA Φ (.e k) e) fun y e => match e[i]?, res e y, res e d with
    | some (.own t), some y, some d => match subD t y d with
      | some t => .nx (e.set i (.own t))
      | none => .bad
    | _, _, _ => .bad
    else .bad
  | .fldS i k x, e => RS.of (evE Φ x e) fun d e => match e[i]? with
    | some (.own (.ins c fs)) => if k < fs.length then .nx (e.set i (.own (.ins c (fs.set k d)))) else if k = fs.length then .nx (e.set i (.own (.ins c (fs ++ [d])))) else .bad
    | _ => .bad
  | .expr x, e => RS.of (evE Φ x e) fun _ e => .nx e
  | .ret x, e => RS.of (evE Φ x e) fun d e => .rt d e
  | .retN, e => .rt .non e
  | .pass, e => .nx e
  | .dead, _ => .bad
  | .ite c a b, e => RS.of (evE Φ c e) fun x e => RS.of (R.of (tru x) e) fun t e => if t then evSs Φ a e else evSs Φ b e
  | .while_ c b, e => loopW fuel (fun e => (evE Φ c e).bind fun x e => R.of (tru x) e) (evSs Φ b) e
  | .for_ t it b, e => RS.of (evIt Φ it e) fun l e => loopF (fun d e => match asg t d e with
    | some e => evSs Φ b e
    | none => .bad) l e
def evSs (Φ : Fns) : Ss → Env → RS
  | .nil, e => .nx e
  | .cons s ss, e => (evS Φ s e).bind (evSs Φ ss)
end
def outsOf : List Slot → Env → Option (List D)
  | [], _ => some []
  | .own _ :: r, s :: e => match s with
    | .own d => (outsOf r e).map (d :: ·)
    | _ => none
  | _ :: r, _ :: e => outsOf r e
  | _ :: _, [] => none
def finish (as : List Slot) (r : RS) : FR := match r with
  | .nx e => match outsOf as e with
    | some o => .ok .non o
    | none => .bad
  | .rt d e => match outsOf as e with
    | some o => .ok d o
    | none => .bad
  | .exc x e => match outsOf as e with
    | some o => .exc x o
    | none => .bad
  | .bad => .bad
def runF (Φ : Fns) (n : Nat) (body : Ss) (as : List Slot) : FR := finish as (evSs Φ body (as ++ List.replicate (n - as.length) .un))
end TI
set_option Elab.async false
set_option linter.all false
set_option maxRecDepth 100000
namespace TI
open PySem PySem.Spec L2
theorem encS_inj {x y : List Char} (h : encS x = encS y) : x = y := by
  have h1 : (x.map Char.toNat) = y.map Char.toNat := by
    have := congrArg (fun z : Str => z.cps.toList) h
    simpa [encS] using this
  exact (List.map_inj_right (fun a b hab => Char.toNat_inj.mp hab)).mp h1
theorem encS_len (x : List Char) : (encS x).length = x.length := by simp [encS, Str.length]
theorem encS_list (x : List Char) : (encS x).cps.toList = x.map Char.toNat := by simp [encS]
def K.key : K → Key
  | .i n => .inl n
  | .s x => .inr (encS x)
theorem K.key_inj {a b : K} (h : a.key = b.key) : a = b := by
  cases a with
  | i n => cases b with
    | i m => cases h; rfl
    | s y => cases h
  | s x => cases b with
    | i m => cases h
    | s y => injection h with h1; rw [encS_inj h1]
def K.v (k : K) : V := kV k.key
structure Wd where
  K : PySem.W.Frag
  cls : Nat → Addr
  flds : Nat → List Str
  xcl : Nat → Addr
  xfl : Nat → Str
section
variable (W : Wd)
mutual
def Den (G : Hp) : D → V → Prop
  | .non, v => v = .non
  | .bl b, v => v = .bl b
  | .int i, v => v = .int i
  | .str x, v => v = .str (encS x)
  | .tup l, v => ∃ a vs, v = .ref a ∧ SqT W.K G a vs ∧ (l ≠ [] → G a = some (.tup vs)) ∧ DenL G l vs
  | .lst l, v => ∃ a vs, v = .ref a ∧ G a = some (.lst vs) ∧ DenL G l vs
  | .scr l, v => ∃ a, v = .ref a ∧ SqL W.K G a (l.map V.int)
  | .dk l, v => ∃ a kvs, v = .ref a ∧ G a = some (.dK kvs) ∧ DenK G l kvs
  | .dt l, v => ∃ a kvs, v = .ref a ∧ G a = some (.dT kvs) ∧ DenT G l kvs
  | .ins c fs, v => ∃ a dx fv, v = .ref a ∧ G a = some (.ins (W.cls c) dx fv) ∧ fv.map (·.1) = (W.flds c).take fs.length ∧ DenL G fs (fv.map (·.2))
def DenL (G : Hp) : List D → List V → Prop
  | [], vs => vs = []
  | d :: l, vs => ∃ v r, vs = v :: r ∧ Den G d v ∧ DenL G l r
def DenK (G : Hp) : List (K × D) → List (Key × V) → Prop
  | [], vs => vs = []
  | (k, d) :: l, vs => ∃ v r, vs = (k.key, v) :: r ∧ Den G d v ∧ DenK G l r
def DenT (G : Hp) : List (List K × D) → List (List Key × V) → Prop
  | [], vs => vs = []
  | (k, d) :: l, vs => ∃ v r, vs = (k.map K.key, v) :: r ∧ Den G d v ∧ DenT G l r
end
def Top (H G : Hp) : D → V → Prop
  | .lst l, v => ∃ a vs, v = .ref a ∧ H a = some (.lst vs) ∧ DenL W G l vs
  | .scr l, v => ∃ a, v = .ref a ∧ SqL W.K H a (l.map V.int)
  | .dk l, v => ∃ a kvs, v = .ref a ∧ H a = some (.dK kvs) ∧ DenK W G l kvs
  | .dt l, v => ∃ a kvs, v = .ref a ∧ H a = some (.dT kvs) ∧ DenT W G l kvs
  | .ins c fs, v => ∃ a dx fv, v = .ref a ∧ H a = some (.ins (W.cls c) dx fv) ∧ fv.map (·.1) = (W.flds c).take fs.length ∧ DenL W G fs (fv.map (·.2))
  | d, v => Den W G d v
def OwnT (H G : Hp) : D → Addr → Prop
  | .lst l, a => ∃ vs, H a = some (.lst vs) ∧ DenL W G l vs
  | .dk l, a => ∃ kvs, H a = some (.dK kvs) ∧ DenK W G l kvs
  | .dt l, a => ∃ kvs, H a = some (.dT kvs) ∧ DenT W G l kvs
  | .ins c fs, a => ∃ dx fv, H a = some (.ins (W.cls c) dx fv) ∧ fv.map (·.1) = (W.flds c).take fs.length ∧ DenL W G fs (fv.map (·.2))
  | _, _ => False
end
def Sub (G H : Hp) : Prop := ∀ a o, G a = some o → H a = some o
theorem Sub.refl (G : Hp) : Sub G G := fun _ _ h => h
theorem Sub.trans {G H J : Hp} (a : Sub G H) (b : Sub H J) : Sub G J := fun c o h => b c o (a c o h)
theorem Sub.sqT {K : PySem.W.Frag} {G H : Hp} {a : Addr} {vs : List V} (s : Sub G H) (h : SqT K G a vs) : SqT K H a vs := by
  rcases h with (h | ⟨o, h⟩) | h
  · exact .inl (.inl (s _ _ h))
  · exact .inl (.inr ⟨o, s _ _ h⟩)
  · exact .inr h
theorem Sub.sqL {K : PySem.W.Frag} {G H : Hp} {a : Addr} {vs : List V} (s : Sub G H) (h : SqL K G a vs) : SqL K H a vs := by
  rcases h with (h | ⟨o, h⟩) | h
  · exact .inl (.inl (s _ _ h))
  · exact .inl (.inr ⟨o, s _ _ h⟩)
  · exact .inr h
section
variable {W : Wd} {G G' H H' : Hp}
mutual
theorem Den.mono (s : Sub G G') : ∀ (d : D) (v : V), Den W G d v → Den W G' d v
  | .non, v, h => by simpa only [Den] using h
  | .bl b, v, h => by simpa only [Den] using h
  | .int i, v, h => by simpa only [Den] using h
  | .str x, v, h => by simpa only [Den] using h
  | .tup l, v, h => by
    simp only [Den] at h ⊢
    obtain ⟨a, vs, e, q, n, r⟩ := h
    exact ⟨a, vs, e, s.sqT q, fun z => s _ _ (n z), DenL.mono s l vs r⟩
  | .lst l, v, h => by
    simp only [Den] at h ⊢
    obtain ⟨a, vs, e, q, r⟩ := h
    exact ⟨a, vs, e, s _ _ q, DenL.mono s l vs r⟩
  | .scr l, v, h => by
    simp only [Den] at h ⊢
    obtain ⟨a, e, q⟩ := h
    exact ⟨a, e, s.sqL q⟩
  | .dk l, v, h => by
    simp only [Den] at h ⊢
    obtain ⟨a, vs, e, q, r⟩ := h
    exact ⟨a, vs, e, s _ _ q, DenK.mono s l vs r⟩
  | .dt l, v, h => by
    simp only [Den] at h ⊢
    obtain ⟨a, vs, e, q, r⟩ := h
    exact ⟨a, vs, e, s _ _ q, DenT.mono s l vs r⟩
  | .ins c fs, v, h => by
    simp only [Den] at h ⊢
    obtain ⟨a, dx, fv, e, q, n, r⟩ := h
    exact ⟨a, dx, fv, e, s _ _ q, n, DenL.mono s fs _ r⟩
theorem DenL.mono (s : Sub G G') : ∀ (l : List D) (vs : List V), DenL W G l vs → DenL W G' l vs
  | [], vs, h => by simpa only [DenL] using h
  | d :: l, vs, h => by
    simp only [DenL] at h ⊢
    obtain ⟨v, r, e, a, b⟩ := h
    exact ⟨v, r, e, Den.mono s d v a, DenL.mono s l r b⟩
theorem DenK.mono (s : Sub G G') : ∀ (l : List (K × D)) (vs : List (Key × V)), DenK W G l vs → DenK W G' l vs
  | [], vs, h => by simpa only [DenK] using h
  | (k, d) :: l, vs, h => by
    simp only [DenK] at h ⊢
    obtain ⟨v, r, e, a, b⟩ := h
    exact ⟨v, r, e, Den.mono s d v a, DenK.mono s l r b⟩
theorem DenT.mono (s : Sub G G') : ∀ (l : List (List K × D)) (vs : List (List Key × V)), DenT W G l vs → DenT W G' l vs
  | [], vs, h => by simpa only [DenT] using h
  | (k, d) :: l, vs, h => by
    simp only [DenT] at h ⊢
    obtain ⟨v, r, e, a, b⟩ := h
    exact ⟨v, r, e, Den.mono s d v a, DenT.mono s l r b⟩
end
theorem Den.top (s : Sub G H) {d : D} {v : V} (h : Den W G d v) : Top W H G d v := by
  cases d with
  | lst l => simp only [Den, Top] at h ⊢; obtain ⟨a, vs, e, q, r⟩ := h; exact ⟨a, vs, e, s _ _ q, r⟩
  | scr l => simp only [Den, Top] at h ⊢; obtain ⟨a, e, q⟩ := h; exact ⟨a, e, s.sqL q⟩
  | dk l => simp only [Den, Top] at h ⊢; obtain ⟨a, vs, e, q, r⟩ := h; exact ⟨a, vs, e, s _ _ q, r⟩
  | dt l => simp only [Den, Top] at h ⊢; obtain ⟨a, vs, e, q, r⟩ := h; exact ⟨a, vs, e, s _ _ q, r⟩
  | ins c fs => simp only [Den, Top] at h ⊢; obtain ⟨a, dx, fv, e, q, n, r⟩ := h; exact ⟨a, dx, fv, e, s _ _ q, n, r⟩
  | _ => exact h
theorem OwnT.top {d : D} {a : Addr} (h : OwnT W H G d a) : Top W H G d (.ref a) := by
  cases d with
  | lst l => obtain ⟨vs, q, r⟩ := h; exact ⟨a, vs, rfl, q, r⟩
  | dk l => obtain ⟨vs, q, r⟩ := h; exact ⟨a, vs, rfl, q, r⟩
  | dt l => obtain ⟨vs, q, r⟩ := h; exact ⟨a, vs, rfl, q, r⟩
  | ins c fs => obtain ⟨dx, fv, q, n, r⟩ := h; exact ⟨a, dx, fv, rfl, q, n, r⟩
  | _ => exact h.elim
theorem OwnT.there {d : D} {a : Addr} (h : OwnT W H G d a) : H a ≠ none := by
  cases d with
  | lst l => obtain ⟨vs, q, r⟩ := h; rw [q]; exact fun z => nomatch z
  | dk l => obtain ⟨vs, q, r⟩ := h; rw [q]; exact fun z => nomatch z
  | dt l => obtain ⟨vs, q, r⟩ := h; rw [q]; exact fun z => nomatch z
  | ins c fs => obtain ⟨dx, fv, q, n, r⟩ := h; rw [q]; exact fun z => nomatch z
  | _ => exact h.elim
theorem OwnT.keep {d : D} {a : Addr} (h : OwnT W H G d a) (e : H' a = H a) (s : Sub G G') : OwnT W H' G' d a := by
  cases d with
  | lst l => obtain ⟨vs, q, r⟩ := h; exact ⟨vs, e.trans q, DenL.mono s _ _ r⟩
  | dk l => obtain ⟨vs, q, r⟩ := h; exact ⟨vs, e.trans q, DenK.mono s _ _ r⟩
  | dt l => obtain ⟨vs, q, r⟩ := h; exact ⟨vs, e.trans q, DenT.mono s _ _ r⟩
  | ins c fs => obtain ⟨dx, fv, q, n, r⟩ := h; exact ⟨dx, fv, e.trans q, n, DenL.mono s _ _ r⟩
  | _ => exact h.elim
theorem OwnT.den {d : D} {a : Addr} {o : HO} (h : OwnT W H G d a) (e : H a = some o) (s : Sub G G') (e' : G' a = some o) : Den W G' d (.ref a) := by
  cases d with
  | lst l => simp only [Den]; obtain ⟨vs, q, r⟩ := h; rw [e] at q; cases q; exact ⟨a, vs, rfl, e', DenL.mono s _ _ r⟩
  | dk l => simp only [Den]; obtain ⟨vs, q, r⟩ := h; rw [e] at q; cases q; exact ⟨a, vs, rfl, e', DenK.mono s _ _ r⟩
  | dt l => simp only [Den]; obtain ⟨vs, q, r⟩ := h; rw [e] at q; cases q; exact ⟨a, vs, rfl, e', DenT.mono s _ _ r⟩
  | ins c fs => simp only [Den]; obtain ⟨dx, fv, q, n, r⟩ := h; rw [e] at q; cases q; exact ⟨a, dx, fv, rfl, e', n, DenL.mono s _ _ r⟩
  | _ => exact h.elim
theorem DenL.length : ∀ {l : List D} {vs : List V}, DenL W G l vs → vs.length = l.length
  | [], vs, h => by simp only [DenL] at h; subst h; rfl
  | d :: l, vs, h => by
    simp only [DenL] at h
    obtain ⟨v, r, rfl, a, b⟩ := h
    simp [DenL.length b]
theorem DenL.get : ∀ {l : List D} {vs : List V} {i : Nat} {d : D}, DenL W G l vs → l[i]? = some d → ∃ v, vs[i]? = some v ∧ Den W G d v
  | [], vs, i, d, h, e => by simp at e
  | d :: l, vs, 0, x, h, e => by
    simp only [DenL] at h
    obtain ⟨v, r, rfl, a, b⟩ := h
    simp at e; subst e
    exact ⟨v, rfl, a⟩
  | d :: l, vs, i + 1, x, h, e => by
    simp only [DenL] at h
    obtain ⟨v, r, rfl, a, b⟩ := h
    simpa using DenL.get b (by simpa using e)
theorem DenL.append : ∀ {l l' : List D} {vs vs' : List V}, DenL W G l vs → DenL W G l' vs' → DenL W G (l ++ l') (vs ++ vs')
  | [], l', vs, vs', h, h' => by simp only [DenL] at h; subst h; exact h'
  | d :: l, l', vs, vs', h, h' => by
    simp only [DenL] at h
    obtain ⟨v, r, rfl, a, b⟩ := h
    simp only [List.cons_append, DenL]
    exact ⟨v, _, rfl, a, DenL.append b h'⟩
theorem DenL.nil_ : DenL W G [] [] := by simp only [DenL]
theorem DenL.cons_ {d : D} {l : List D} {v : V} {vs : List V} (a : Den W G d v) (b : DenL W G l vs) : DenL W G (d :: l) (v :: vs) := by
  simp only [DenL]; exact ⟨v, vs, rfl, a, b⟩
theorem DenL.one {d : D} {v : V} (a : Den W G d v) : DenL W G [d] [v] := .cons_ a .nil_
theorem DenL.take : ∀ {l : List D} {vs : List V} (n : Nat), DenL W G l vs → DenL W G (l.take n) (vs.take n)
  | [], vs, n, h => by simp only [DenL] at h; subst h; simp [DenL]
  | d :: l, vs, 0, h => by simp [DenL]
  | d :: l, vs, n + 1, h => by
    simp only [DenL] at h
    obtain ⟨v, r, rfl, a, b⟩ := h
    exact .cons_ a (DenL.take n b)
theorem DenL.drop : ∀ {l : List D} {vs : List V} (n : Nat), DenL W G l vs → DenL W G (l.drop n) (vs.drop n)
  | [], vs, n, h => by simp only [DenL] at h; subst h; simp [DenL]
  | d :: l, vs, 0, h => h
  | d :: l, vs, n + 1, h => by
    simp only [DenL] at h
    obtain ⟨v, r, rfl, a, b⟩ := h
    exact DenL.drop n b
theorem DenL.set : ∀ {l : List D} {vs : List V} {d : D} {v : V} (n : Nat), DenL W G l vs → Den W G d v → DenL W G (l.set n d) (vs.set n v)
  | [], vs, d, v, n, h, q => by simp only [DenL] at h; subst h; simp [DenL]
  | x :: l, vs, d, v, 0, h, q => by
    simp only [DenL] at h
    obtain ⟨y, r, rfl, a, b⟩ := h
    exact .cons_ q b
  | x :: l, vs, d, v, n + 1, h, q => by
    simp only [DenL] at h
    obtain ⟨y, r, rfl, a, b⟩ := h
    exact .cons_ a (DenL.set n b q)
theorem DenL.eraseIdx : ∀ {l : List D} {vs : List V} (n : Nat), DenL W G l vs → DenL W G (l.eraseIdx n) (vs.eraseIdx n)
  | [], vs, n, h => by simp only [DenL] at h; subst h; simp [DenL]
  | x :: l, vs, 0, h => by
    simp only [DenL] at h
    obtain ⟨y, r, rfl, a, b⟩ := h
    exact b
  | x :: l, vs, n + 1, h => by
    simp only [DenL] at h
    obtain ⟨y, r, rfl, a, b⟩ := h
    exact .cons_ a (DenL.eraseIdx n b)
theorem DenL.dropLast : ∀ {l : List D} {vs : List V}, DenL W G l vs → DenL W G l.dropLast vs.dropLast := fun {l vs} h => by
  rw [List.dropLast_eq_take, List.dropLast_eq_take, h.length]
  exact h.take _
theorem DenL.rep {l : List D} {vs : List V} (h : DenL W G l vs) : ∀ n : Nat, DenL W G (List.replicate n l).flatten (List.replicate n vs).flatten
  | 0 => .nil_
  | n + 1 => by
    rw [List.replicate_succ, List.replicate_succ, List.flatten_cons, List.flatten_cons]
    exact h.append (DenL.rep h n)
theorem DenL.rev : ∀ {l : List D} {vs : List V}, DenL W G l vs → DenL W G l.reverse vs.reverse
  | [], vs, h => by simp only [DenL] at h; subst h; simp [DenL]
  | d :: l, vs, h => by
    simp only [DenL] at h
    obtain ⟨v, r, rfl, a, b⟩ := h
    rw [List.reverse_cons, List.reverse_cons]
    exact (DenL.rev b).append (.one a)
theorem DenL.ofMap {α : Type} {f : α → D} {g : α → V} (h : ∀ a, Den W G (f a) (g a)) : ∀ l : List α, DenL W G (l.map f) (l.map g)
  | [] => .nil_
  | a :: l => .cons_ (h a) (DenL.ofMap h l)
theorem DenL.intL : ∀ {l : List Int} {vs : List V}, DenL W G (l.map .int) vs → vs = l.map V.int
  | [], vs, h => by simpa only [List.map_nil, DenL] using h
  | i :: l, vs, h => by
    simp only [List.map_cons, DenL, Den] at h
    obtain ⟨v, r, rfl, rfl, b⟩ := h
    rw [DenL.intL b]; rfl
theorem DenL.boolL : ∀ {l : List Bool} {vs : List V}, DenL W G (l.map .bl) vs → vs = l.map V.bl
  | [], vs, h => by simpa only [List.map_nil, DenL] using h
  | i :: l, vs, h => by
    simp only [List.map_cons, DenL, Den] at h
    obtain ⟨v, r, rfl, rfl, b⟩ := h
    rw [DenL.boolL b]; rfl
theorem DenL.strL : ∀ {l : List (List Char)} {vs : List V}, DenL W G (l.map .str) vs → vs = (l.map encS).map V.str
  | [], vs, h => by simpa only [List.map_nil, DenL] using h
  | i :: l, vs, h => by
    simp only [List.map_cons, DenL, Den] at h
    obtain ⟨v, r, rfl, rfl, b⟩ := h
    rw [DenL.strL b]; rfl
end
structure Gd (W : Wd) (π : Nat → Option Addr) (σ : St) (H G : Hp) (e : Env) : Prop where
  len : σ.length = e.length
  sub : Sub G H
  val : ∀ (i : Nat) (d : D), e[i]? = some (.val d) → ∃ v, σ[i]? = some (some v) ∧ Den W G d v
  own : ∀ (i : Nat) (d : D), e[i]? = some (.own d) → ∃ a, σ[i]? = some (some (.ref a)) ∧ G a = none ∧ OwnT W H G d a
  dis : ∀ (i j : Nat) (d d' : D) (a : Addr), e[i]? = some (.own d) → e[j]? = some (.own d') → σ[i]? = some (some (.ref a)) → σ[j]? = some (some (.ref a)) → i = j
  pin : ∀ (i : Nat) (d : D) (a : Addr), π i = some a → e[i]? = some (.own d) → σ[i]? = some (some (.ref a))
def ownA (σ : St) (e : Env) (b : Addr) : Prop := ∃ (i : Nat) (d : D), e[i]? = some (.own d) ∧ σ[i]? = some (some (.ref b))
structure Stp (σ : St) (H G : Hp) (e : Env) (σ' : St) (H' G' : Hp) (e' : Env) : Prop where
  g : Sub G G'
  n : ∀ b, G' b ≠ none → G b ≠ none ∨ H b = none ∨ ownA σ e b
  k : ∀ b o, H b = some o → ¬ ownA σ e b → H' b = some o
  p : ∀ b, H b ≠ none → H' b ≠ none
  o : ∀ b, ownA σ' e' b → ownA σ e b ∨ H b = none
section
variable {W : Wd} {π : Nat → Option Addr} {σ σ' σ2 : St} {H H' H2 G G' G2 : Hp} {e e' e2 : Env}
theorem Stp.refl : Stp σ H G e σ H G e := ⟨Sub.refl G, fun _ h => .inl h, fun _ _ h _ => h, fun _ h => h, fun _ h => .inl h⟩
theorem Stp.trans (a : Stp σ H G e σ' H' G' e') (b : Stp σ' H' G' e' σ2 H2 G2 e2) : Stp σ H G e σ2 H2 G2 e2 where
  g := a.g.trans b.g
  n := fun c h => by
    rcases b.n c h with h1 | h1 | h1
    · exact a.n c h1
    · exact .inr (.inl (Classical.byContradiction fun z => a.p c z h1))
    · rcases a.o c h1 with h2 | h2
      · exact .inr (.inr h2)
      · exact .inr (.inl h2)
  k := fun c o h n => by
    refine b.k c o (a.k c o h n) fun z => ?_
    rcases a.o c z with h2 | h2
    · exact n h2
    · rw [h] at h2; cases h2
  p := fun c h => b.p c (a.p c h)
  o := fun c h => by
    rcases b.o c h with h1 | h1
    · exact a.o c h1
    · exact .inr (Classical.byContradiction fun z => a.p c z h1)
theorem Gd.owned (g : Gd W π σ H G e) {b : Addr} (h : ownA σ e b) : G b = none ∧ H b ≠ none := by
  obtain ⟨i, d, h1, h2⟩ := h
  obtain ⟨a, h3, h4, h5⟩ := g.own i d h1
  rw [h2] at h3; cases h3
  exact ⟨h4, h5.there⟩
def FrV (W : Wd) (σ₀ : St) (H₀ : Hp) (e₀ : Env) (σ : St) (H G : Hp) (e : Env) (d : D) (v : V) : Prop := ∃ a, v = .ref a ∧ (H₀ a = none ∨ ownA σ₀ e₀ a) ∧ G a = none ∧ OwnT W H G d a ∧ ¬ ownA σ e a
def RV (W : Wd) (fr : Bool) (σ₀ : St) (H₀ : Hp) (e₀ : Env) (σ : St) (H G : Hp) (e : Env) (d : D) (v : V) : Prop := if (fr && isBox d) = true then FrV W σ₀ H₀ e₀ σ H G e d v else Den W G d v
theorem RV.den {fr : Bool} {σ₀ : St} {H₀ : Hp} {e₀ : Env} {d : D} {v : V} (h : (fr && isBox d) = false) (x : Den W G d v) : RV W fr σ₀ H₀ e₀ σ H G e d v := by
  unfold RV; rw [h]; exact x
theorem RV.toDen {fr : Bool} {σ₀ : St} {H₀ : Hp} {e₀ : Env} {d : D} {v : V} (h : (fr && isBox d) = false) (x : RV W fr σ₀ H₀ e₀ σ H G e d v) : Den W G d v := by
  unfold RV at x; rw [h] at x; exact x
theorem RV.new {fr : Bool} {σ₀ : St} {H₀ : Hp} {e₀ : Env} {d : D} {v : V} (h : (fr && isBox d) = true) (x : FrV W σ₀ H₀ e₀ σ H G e d v) : RV W fr σ₀ H₀ e₀ σ H G e d v := by
  unfold RV; rw [h]; exact x
theorem RV.toNew {fr : Bool} {σ₀ : St} {H₀ : Hp} {e₀ : Env} {d : D} {v : V} (h : (fr && isBox d) = true) (x : RV W fr σ₀ H₀ e₀ σ H G e d v) : FrV W σ₀ H₀ e₀ σ H G e d v := by
  unfold RV at x; rw [h] at x; exact x
theorem FrV.back {σ₀ σ₁ : St} {H₀ H₁ G₀ G₁ : Hp} {e₀ e₁ : Env} {d : D} {v : V} (s : Stp σ₀ H₀ G₀ e₀ σ₁ H₁ G₁ e₁) (f : FrV W σ₁ H₁ e₁ σ H G e d v) : FrV W σ₀ H₀ e₀ σ H G e d v := by
  obtain ⟨a, rfl, h0, r⟩ := f
  refine ⟨a, rfl, ?_, r⟩
  rcases h0 with h | h
  · exact .inl (Classical.byContradiction fun z => s.p a z h)
  · rcases s.o a h with h | h
    · exact .inr h
    · exact .inl h
theorem RV.back {fr : Bool} {σ₀ σ₁ : St} {H₀ H₁ G₀ G₁ : Hp} {e₀ e₁ : Env} {d : D} {v : V} (s : Stp σ₀ H₀ G₀ e₀ σ₁ H₁ G₁ e₁) (f : RV W fr σ₁ H₁ e₁ σ H G e d v) : RV W fr σ₀ H₀ e₀ σ H G e d v := by
  unfold RV at f ⊢
  split
  · rename_i h; rw [if_pos h] at f; exact f.back s
  · rename_i h; rw [if_neg h] at f; exact f
theorem OwnT.some {d : D} {a : Addr} (h : OwnT W H G d a) : ∃ o, H a = Option.some o := by
  cases q : H a with
  | none => exact absurd q h.there
  | some o => exact ⟨o, rfl⟩
theorem FrV.step {σ₀ : St} {H₀ : Hp} {e₀ : Env} {d : D} {v : V} (f : FrV W σ₀ H₀ e₀ σ H G e d v) (s : Stp σ H G e σ' H' G' e') : FrV W σ₀ H₀ e₀ σ' H' G' e' d v := by
  obtain ⟨a, rfl, h0, h1, h2, h3⟩ := f
  have ht := h2.there
  obtain ⟨o, ho⟩ := h2.some
  refine ⟨a, rfl, h0, ?_, h2.keep (by rw [ho]; exact s.k a o ho h3) s.g, fun z => ?_⟩
  · refine Classical.byContradiction fun z => ?_
    rcases s.n a z with h | h | h
    · exact h h1
    · exact ht h
    · exact h3 h
  · rcases s.o a z with h | h
    · exact h3 h
    · exact ht h
def add (G H : Hp) (a : Addr) : Hp := fun b => if b = a then H a else G b
theorem add_same {G H : Hp} {a : Addr} : add G H a a = H a := by unfold add; rw [if_pos rfl]
theorem add_ne {G H : Hp} {a b : Addr} (h : b ≠ a) : add G H a b = G b := by unfold add; rw [if_neg h]
theorem add_sub {a : Addr} (h : G a = none) : Sub G (add G H a) := fun b o q => by
  by_cases hb : b = a
  · subst hb; rw [h] at q; cases q
  · rw [add_ne hb]; exact q
theorem Gd.grow (g : Gd W π σ H G e) {a : Addr} (h1 : G a = none) (h2 : ¬ ownA σ e a) : Gd W π σ H (add G H a) e where
  len := g.len
  sub := fun b o q => by
    by_cases hb : b = a
    · subst hb; rw [add_same] at q; exact q
    · rw [add_ne hb] at q; exact g.sub b o q
  val := fun i d h => by
    obtain ⟨v, h3, h4⟩ := g.val i d h
    exact ⟨v, h3, Den.mono (add_sub h1) d v h4⟩
  own := fun i d h => by
    obtain ⟨b, h3, h4, h5⟩ := g.own i d h
    have hb : b ≠ a := fun z => h2 (z ▸ ⟨i, d, h, h3⟩)
    exact ⟨b, h3, by rw [add_ne hb]; exact h4, h5.keep rfl (add_sub h1)⟩
  dis := g.dis
  pin := g.pin
theorem Stp.grow {a : Addr} (s : Stp σ H G e σ' H' G' e') (h3 : G' a = none) (h4 : H a = none ∨ ownA σ e a) : Stp σ H G e σ' H' (add G' H' a) e' where
  g := s.g.trans (add_sub h3)
  n := fun b h => by
    by_cases hb : b = a
    · subst hb
      rcases h4 with z | z
      · exact .inr (.inl z)
      · exact .inr (.inr z)
    · rw [add_ne hb] at h; exact s.n b h
  k := s.k
  p := s.p
  o := s.o
theorem FrV.give {d : D} {v : V} (g : Gd W π σ' H' G' e') (f : FrV W σ H e σ' H' G' e' d v) (s : Stp σ H G e σ' H' G' e') :
    ∃ G2, Gd W π σ' H' G2 e' ∧ Stp σ H G e σ' H' G2 e' ∧ Den W G2 d v ∧ Sub G' G2 := by
  obtain ⟨a, rfl, h0, h1, h2, h3⟩ := f
  obtain ⟨o, ho⟩ := h2.some
  exact ⟨add G' H' a, g.grow h1 h3, s.grow h1 h0, h2.den ho (add_sub h1) (by rw [add_same]; exact ho), add_sub h1⟩
theorem RV.give {fr : Bool} {d : D} {v : V} (g : Gd W π σ' H' G' e') (f : RV W fr σ H e σ' H' G' e' d v) (s : Stp σ H G e σ' H' G' e') :
    ∃ G2, Gd W π σ' H' G2 e' ∧ Stp σ H G e σ' H' G2 e' ∧ Den W G2 d v ∧ Sub G' G2 := by
  unfold RV at f
  split at f
  · exact FrV.give g f s
  · exact ⟨G', g, s, f, Sub.refl _⟩
end
end TI
set_option Elab.async false
set_option linter.all false
set_option maxRecDepth 100000
set_option maxHeartbeats 1000000
namespace TI
open PySem PySem.Spec L2
theorem lim_eq : lim = sizeLine := by rw [sizeLine_eq]; rfl
def NewT (W : Wd) (H G : Hp) : D → Addr → Prop
  | .tup l, a => ∃ vs, H a = some (.tup vs) ∧ DenL W G l vs
  | d, a => OwnT W H G d a
def OpQ (W : Wd) (fr : Bool) (H G : Hp) (d : D) (Q : VK) : Prop :=
  (fr = false → ∀ v, Den W G d v → Q v H) ∧ ∀ a o, H a = none → NewT W (upd H a o) G d a → Q (.ref a) (upd H a o)
def rBin (W : Wd) (fl : D → Bool) (f : D → D → Option D) : R2 := fun x y H Q => ∃ G p q d, Sub G H ∧ Top W H G p x ∧ Top W H G q y ∧ f p q = some d ∧ OpQ W (fl d) H G d Q
def rCmp (W : Wd) (f : D → D → Option Bool) : R2 := fun x y H Q => ∃ G p q b, Sub G H ∧ Top W H G p x ∧ Top W H G q y ∧ f p q = some b ∧ Q (.bl b) H
section
variable {W : Wd} {X : Cx} {G H : Hp}
theorem Top.int {i : Int} {v : V} (h : Top W H G (.int i) v) : v = .int i := by simpa only [Top, Den] using h
theorem Top.str {i : List Char} {v : V} (h : Top W H G (.str i) v) : v = .str (encS i) := by simpa only [Top, Den] using h
theorem Top.bl {i : Bool} {v : V} (h : Top W H G (.bl i) v) : v = .bl i := by simpa only [Top, Den] using h
theorem Top.non {v : V} (h : Top W H G .non v) : v = .non := by simpa only [Top, Den] using h
theorem Top.lst {l : List D} {v : V} (h : Top W H G (.lst l) v) : ∃ a vs, v = .ref a ∧ H a = some (.lst vs) ∧ DenL W G l vs := by simpa only [Top] using h
theorem Top.tup {l : List D} {v : V} (h : Top W H G (.tup l) v) : ∃ a vs, v = .ref a ∧ SqT W.K G a vs ∧ (l ≠ [] → G a = some (.tup vs)) ∧ DenL W G l vs := by simpa only [Top, Den] using h
theorem Top.dk {l : List (K × D)} {v : V} (h : Top W H G (.dk l) v) : ∃ a vs, v = .ref a ∧ H a = some (.dK vs) ∧ DenK W G l vs := by simpa only [Top] using h
theorem Top.dt {l : List (List K × D)} {v : V} (h : Top W H G (.dt l) v) : ∃ a vs, v = .ref a ∧ H a = some (.dT vs) ∧ DenT W G l vs := by simpa only [Top] using h
theorem Top.scr {l : List Int} {v : V} (h : Top W H G (.scr l) v) : ∃ a, v = .ref a ∧ SqL W.K H a (l.map V.int) := by simpa only [Top] using h
theorem den_int (i : Int) : Den W G (.int i) (.int i) := by simp only [Den]
theorem den_bl (i : Bool) : Den W G (.bl i) (.bl i) := by simp only [Den]
theorem den_str (i : List Char) : Den W G (.str i) (.str (encS i)) := by simp only [Den]
theorem den_non : Den W G .non .non := by simp only [Den]
theorem encS_append (a b : List Char) : encS (a ++ b) = encS a ++ encS b := by
  show (⟨_⟩ : Str) = Str.append _ _
  simp [encS, Str.append]
theorem OpQ.of {fr : Bool} {d : D} {v : V} {Q : VK} (h : OpQ W fr H G d Q) (e : fr = false) (hd : Den W G d v) : Q v H := h.1 e v hd
theorem OpQ.new_lst {fr : Bool} {l : List D} {vs : List V} {Q : VK} (h : OpQ W fr H G (.lst l) Q) (hl : DenL W G l vs) : ∀ p, H p = none → Q (.ref p) (upd H p (.lst vs)) := fun p hp =>
  h.2 p _ hp ⟨vs, upd_same, hl⟩
theorem OpQ.new_tup {fr : Bool} {l : List D} {vs : List V} {Q : VK} (h : OpQ W fr H G (.tup l) Q) (hl : DenL W G l vs) : ∀ p, H p = none → Q (.ref p) (upd H p (.tup vs)) := fun p hp =>
  h.2 p _ hp ⟨vs, upd_same, hl⟩
theorem OpQ.new_dk {fr : Bool} {l : List (K × D)} {vs : List (Key × V)} {Q : VK} (h : OpQ W fr H G (.dk l) Q) (hl : DenK W G l vs) : ∀ p, H p = none → Q (.ref p) (upd H p (.dK vs)) := fun p hp =>
  h.2 p _ hp ⟨vs, upd_same, hl⟩
theorem OpQ.new_dt {fr : Bool} {l : List (List K × D)} {vs : List (List Key × V)} {Q : VK} (h : OpQ W fr H G (.dt l) Q) (hl : DenT W G l vs) : ∀ p, H p = none → Q (.ref p) (upd H p (.dT vs)) := fun p hp =>
  h.2 p _ hp ⟨vs, upd_same, hl⟩
theorem den_tupT {l : List D} {a : Addr} {vs : List V} (h : SqT W.K G a vs) (n : l ≠ [] → G a = some (.tup vs)) (hl : DenL W G l vs) : Den W G (.tup l) (.ref a) := by
  simp only [Den]; exact ⟨a, vs, rfl, h, n, hl⟩
theorem len_enc (a b : List Char) : (encS a).length + (encS b).length = a.length + b.length := by rw [encS_len, encS_len]
theorem bin_add (hW : W.K = X.K) : OpR X (binaryOp .Add) (rBin W isBox (binD .add)) := by
  intro pins s σ H x y v u Q I rx ry h
  obtain ⟨G, p, q, d, sub, tp, tq, e, k⟩ := h
  have e : addD p q = some d := e
  cases p with
  | int a =>
    cases q with
    | int b =>
      cases tp.int; cases tq.int
      cases e
      exact op_add pins s σ H _ _ v u Q I rx ry ⟨a, b, rfl, rfl, k.of rfl (den_int _)⟩
    | _ => cases e
  | str a =>
    cases q with
    | str b =>
      cases tp.str; cases tq.str
      simp only [addD] at e
      split at e
      · rename_i hl
        cases e
        refine op_add_str pins s σ H _ _ v u Q I rx ry ⟨_, _, rfl, rfl, by rw [len_enc, ← lim_eq]; exact hl, ?_⟩
        rw [← encS_append]
        exact k.of rfl (den_str _)
      · cases e
    | _ => cases e
  | lst a =>
    cases q with
    | lst b =>
      obtain ⟨l, xs, rfl, h1, d1⟩ := tp.lst
      obtain ⟨r, ys, rfl, h2, d2⟩ := tq.lst
      simp only [addD] at e
      split at e
      · rename_i hl
        cases e
        exact op_cat pins s σ H _ _ v u Q I rx ry ⟨l, r, xs, ys, rfl, rfl, h1, h2, by rw [d1.length, d2.length, ← lim_eq]; exact hl, k.new_lst (d1.append d2)⟩
      · cases e
    | _ => cases e
  | tup a =>
    cases q with
    | tup b =>
      obtain ⟨l, xs, rfl, h1, n1, d1⟩ := tp.tup
      obtain ⟨r, ys, rfl, h2, n2, d2⟩ := tq.tup
      simp only [addD] at e
      split at e
      · rename_i hl
        cases e
        have g1 := sub.sqT h1
        have g2 := sub.sqT h2
        rw [hW] at g1 g2
        refine op_catA pins s σ H _ _ v u Q I rx ry ⟨l, r, xs, ys, rfl, rfl, g1, g2, by rw [d1.length, d2.length, ← lim_eq]; exact hl, fun e => ?_, fun _ e => ?_, fun _ _ => k.new_tup (d1.append d2)⟩
        · subst e
          have : a = [] := List.length_eq_zero_iff.mp (by rw [← d1.length]; rfl)
          subst this
          exact k.of rfl (den_tupT h2 n2 d2)
        · subst e
          have : b = [] := List.length_eq_zero_iff.mp (by rw [← d2.length]; rfl)
          subst this
          refine k.of rfl ?_
          rw [List.append_nil]
          exact den_tupT h1 n1 d1
      · cases e
    | _ => cases e
  | _ => cases e
theorem bin_sub : OpR X (binaryOp .Sub) (rBin W isBox (binD .sub)) := by
  intro pins s σ H x y v u Q I rx ry h
  obtain ⟨G, p, q, d, sub, tp, tq, e, k⟩ := h
  cases p with
  | int a =>
    cases q with
    | int b =>
      cases tp.int; cases tq.int
      cases (show some (D.int (a - b)) = some d from e)
      exact op_sub pins s σ H _ _ v u Q I rx ry ⟨a, b, rfl, rfl, k.of rfl (den_int _)⟩
    | _ => cases (show (none : Option D) = some d from e)
  | _ => cases (show (none : Option D) = some d from e)
theorem bin_mul : OpR X (binaryOp .Mult) (rBin W isBox (binD .mul)) := by
  intro pins s σ H x y v u Q I rx ry h
  obtain ⟨G, p, q, d, sub, tp, tq, e, k⟩ := h
  cases p with
  | int a =>
    cases q with
    | int b =>
      cases tp.int; cases tq.int
      simp only [binD] at e
      split at e
      · rename_i hm
        cases e
        refine op_mul pins s σ H _ _ v u Q I rx ry ⟨a, b, rfl, rfl, ?_, k.of rfl (den_int _)⟩
        simp only [mulOk, Bool.or_eq_true, decide_eq_true_eq] at hm
        rcases hm with hm | hm
        · exact .inl ⟨by omega, by omega⟩
        · exact .inr ⟨by omega, by omega⟩
      · cases e
    | _ => cases (show (none : Option D) = some d from e)
  | lst a =>
    cases q with
    | int b =>
      obtain ⟨l, xs, rfl, h1, d1⟩ := tp.lst
      cases tq.int
      simp only [binD] at e
      split at e
      · rename_i hm
        cases e
        obtain ⟨h2, h3, h4⟩ := hm
        refine op_rep pins s σ H _ _ v u Q I rx ry ⟨l, b, xs, rfl, rfl, h1, by omega, by omega, by rw [d1.length, ← lim_eq]; exact h2, k.new_lst ?_⟩
        exact DenL.rep d1 b.toNat
      · cases e
    | _ => cases (show (none : Option D) = some d from e)
  | _ => cases q <;> cases (show (none : Option D) = some d from e)
theorem pow_log {n : Nat} {k : Nat} (h : n < 2 ^ k) (hk : 0 < k) : n.log2 < k := PySem.Flt.log2_lt_of hk h
theorem bin_fdiv : OpR X (binaryOp .FloorDiv) (rBin W isBox (binD .fdiv)) := by
  intro pins s σ H x y v u Q I rx ry h
  obtain ⟨G, p, q, d, sub, tp, tq, e, k⟩ := h
  cases p with
  | int a =>
    cases q with
    | int b =>
      cases tp.int; cases tq.int
      simp only [binD] at e
      split at e
      · rename_i hm
        cases e
        simp only [divOk, Bool.and_eq_true, decide_eq_true_eq] at hm
        exact op_fdivW pins s σ H _ _ v u Q I rx ry ⟨a, b, rfl, rfl, ⟨hm.1, Nat.lt_trans (pow_log hm.2 (by decide)) (by decide)⟩, k.of rfl (den_int _)⟩
      · cases e
    | _ => cases (show (none : Option D) = some d from e)
  | _ => cases (show (none : Option D) = some d from e)
theorem bin_mod : OpR X (binaryOp .Mod) (rBin W isBox (binD .mod)) := by
  intro pins s σ H x y v u Q I rx ry h
  obtain ⟨G, p, q, d, sub, tp, tq, e, k⟩ := h
  cases p with
  | int a =>
    cases q with
    | int b =>
      cases tp.int; cases tq.int
      simp only [binD] at e
      split at e
      · rename_i hm
        cases e
        exact op_mod pins s σ H _ _ v u Q I rx ry ⟨a, b, rfl, rfl, hm, k.of rfl (den_int _)⟩
      · cases e
    | _ => cases (show (none : Option D) = some d from e)
  | _ => cases (show (none : Option D) = some d from e)
theorem bin_pow : OpR X (binaryOp .Pow) (rBin W isBox (binD .pow)) := by
  intro pins s σ H x y v u Q I rx ry h
  obtain ⟨G, p, q, d, sub, tp, tq, e, k⟩ := h
  cases p with
  | int a =>
    cases q with
    | int b =>
      cases tp.int; cases tq.int
      simp only [binD] at e
      split at e
      · rename_i hm
        cases e
        simp only [powOk, Bool.and_eq_true, decide_eq_true_eq] at hm
        obtain ⟨t, rfl⟩ := rx
        obtain ⟨t', rfl⟩ := ry
        refine PyProof.Rows.pow_int hm.1.1 ?_ ⟨.int _, H, I.tok _, ⟨_, rfl⟩, k.of rfl (den_int _)⟩
        have hb : Builtin.Int.intBits a ≤ 1000 := by
          unfold Builtin.Int.intBits
          split
          · omega
          · have := pow_log hm.2 (by decide)
            omega
        have h1 : (Builtin.Int.intBits a : Int) * b ≤ 1000 * 1000 := Int.mul_le_mul (by omega) hm.1.2 hm.1.1 (by decide)
        omega
      · cases e
    | _ => cases (show (none : Option D) = some d from e)
  | _ => cases (show (none : Option D) = some d from e)
def opOf : BinO → Operator
  | .add => .Add | .sub => .Sub | .mul => .Mult | .fdiv => .FloorDiv | .mod => .Mod | .pow => .Pow
theorem bin_ok (hW : W.K = X.K) (o : BinO) : OpR X (binaryOp (opOf o)) (rBin W isBox (binD o)) := by
  cases o with
  | add => exact bin_add hW
  | sub => exact bin_sub
  | mul => exact bin_mul
  | fdiv => exact bin_fdiv
  | mod => exact bin_mod
  | pow => exact bin_pow
theorem strOk_enc (x : List Char) : PyData.strOk (encS x) = true := by
  simp only [PyData.strOk, encS, List.all_toArray, List.all_map, List.all_eq_true, Function.comp, decide_eq_true_eq]
  intro c _
  have h := c.valid
  have h2 : c.toNat = c.val.toNat := rfl
  have : c.val.toNat < 1114112 := by
    simp only [UInt32.isValidChar, Nat.isValidChar] at h
    omega
  rw [h2]; exact this
mutual
theorem canLay_toPy : ∀ d : D, plainD d = true → (toPy d).canLay0 = true
  | .non, _ => by simp only [toPy, PyData.canLay0]
  | .bl _, _ => by simp only [toPy, PyData.canLay0]
  | .int _, _ => by simp only [toPy, PyData.canLay0]
  | .str x, _ => by simp only [toPy, PyData.canLay0]; exact strOk_enc x
  | .tup l, h => by
    simp only [plainD] at h
    simp only [toPy, PyData.canLay0]
    exact canLay_toPys l h
  | .lst l, h => by
    simp only [plainD] at h
    simp only [toPy, PyData.canLay0]
    exact canLay_toPys l h
  | .dk _, h => by simp [plainD] at h
  | .dt _, h => by simp [plainD] at h
  | .ins _ _, h => by simp [plainD] at h
  | .scr _, h => by simp [plainD] at h
theorem canLay_toPys : ∀ l : List D, plainDs l = true → PyData.canLayAll0 (toPys l) = true
  | [], _ => by simp only [toPys, PyData.canLayAll0]
  | d :: l, h => by
    simp only [plainDs, Bool.and_eq_true] at h
    simp only [toPys, PyData.canLayAll0, canLay_toPy d h.1, canLay_toPys l h.2, Bool.and_self]
end
mutual
theorem depth_toPy : ∀ d : D, (toPy d).depth ≤ depD d
  | .non => by simp [toPy, PyData.depth]
  | .bl _ => by simp [toPy, PyData.depth]
  | .int _ => by simp [toPy, PyData.depth]
  | .str _ => by simp [toPy, PyData.depth]
  | .tup l => by
    have := depth_toPys l
    simp only [toPy, PyData.depth, depD]; omega
  | .lst l => by
    have := depth_toPys l
    simp only [toPy, PyData.depth, depD]; omega
  | .dk _ => by simp [toPy, PyData.depth]
  | .dt _ => by simp [toPy, PyData.depth]
  | .ins _ _ => by simp [toPy, PyData.depth]
  | .scr _ => by simp [toPy, PyData.depth]
theorem depth_toPys : ∀ l : List D, PyData.depthAll (toPys l) ≤ depDs l
  | [] => by simp [toPys, PyData.depthAll]
  | d :: l => by
    have h1 := depth_toPy d
    have h2 := depth_toPys l
    simp only [toPys, PyData.depthAll, depDs]; omega
end
theorem shaped_toPy {d : D} (h : plainD d = true) (hd : depD d ≤ 64) : SeqAt.shaped (toPy d) = true := by
  unfold SeqAt.shaped
  rw [canLay_toPy d h, Bool.true_and, decide_eq_true_eq]
  exact Nat.le_trans (depth_toPy d) hd
theorem enc_beq (a b : List Char) : (encS a == encS b) = (a == b) := by
  by_cases h : a = b
  · subst h; rw [beq_self_eq_true, beq_self_eq_true]
  · rw [beq_eq_false_iff_ne.mpr h, beq_eq_false_iff_ne.mpr fun z => h (encS_inj z)]
mutual
theorem eqv_toPy : ∀ (a b : D) (c : Bool), eqD a b = some c → PyData.eqv (toPy a) (toPy b) = c
  | .non, b, c, h => by cases b <;> simp_all [eqD, toPy, PyData.eqv]
  | .bl x, b, c, h => by cases b <;> simp_all [eqD, toPy, PyData.eqv]
  | .int x, b, c, h => by cases b <;> simp_all [eqD, toPy, PyData.eqv]
  | .str x, b, c, h => by
    cases b with
    | str y => simp only [eqD, Option.some.injEq] at h; simp only [toPy, PyData.eqv]; rw [enc_beq, h]
    | _ => simp_all [eqD, toPy, PyData.eqv]
  | .lst l, b, c, h => by
    cases b with
    | lst r => simp only [eqD] at h; simp only [toPy, PyData.eqv]; exact eqv_toPys l r c h
    | _ => simp_all [eqD, toPy, PyData.eqv]
  | .tup l, b, c, h => by
    cases b with
    | tup r => simp only [eqD] at h; simp only [toPy, PyData.eqv]; exact eqv_toPys l r c h
    | _ => simp_all [eqD, toPy, PyData.eqv]
  | .dk _, b, c, h => by simp [eqD] at h
  | .dt _, b, c, h => by simp [eqD] at h
  | .ins _ _, b, c, h => by simp [eqD] at h
  | .scr _, b, c, h => by simp [eqD] at h
theorem eqv_toPys : ∀ (l r : List D) (c : Bool), eqDs l r = some c → PyData.eqvAll (toPys l) (toPys r) = c
  | [], [], c, h => by simp_all [eqDs, toPys, PyData.eqvAll]
  | [], _ :: _, c, h => by simp_all [eqDs, toPys, PyData.eqvAll]
  | _ :: _, [], c, h => by simp_all [eqDs, toPys, PyData.eqvAll]
  | a :: l, b :: r, c, h => by
    simp only [eqDs] at h
    cases h1 : eqD a b with
    | none => rw [h1] at h; cases h
    | some x =>
      cases h2 : eqDs l r with
      | none => rw [h1, h2] at h; cases h
      | some y =>
        rw [h1, h2] at h
        cases h
        simp only [toPys, PyData.eqvAll, eqv_toPy a b x h1, eqv_toPys l r y h2]
end
mutual
theorem Den.dp (hK : W.K = X.K) (s : Sub G H) : ∀ (d : D) (v : V), plainD d = true → Den W G d v → Dp X.K H v (toPy d)
  | .non, v, _, h => by simp only [Den] at h; subst h; simp only [toPy]; exact .non
  | .bl b, v, _, h => by simp only [Den] at h; subst h; simp only [toPy]; exact .bl b
  | .int b, v, _, h => by simp only [Den] at h; subst h; simp only [toPy]; exact .int b
  | .str b, v, _, h => by simp only [Den] at h; subst h; simp only [toPy]; exact .str _
  | .tup l, v, p, h => by
    simp only [plainD] at p
    simp only [Den] at h
    obtain ⟨a, vs, rfl, q, _, r⟩ := h
    simp only [toPy]
    exact .tup (by rw [← hK]; exact s.sqT q) (DenL.dp hK s l vs p r)
  | .lst l, v, p, h => by
    simp only [plainD] at p
    simp only [Den] at h
    obtain ⟨a, vs, rfl, q, r⟩ := h
    simp only [toPy]
    exact .lst (SqL.of (s _ _ q)) (DenL.dp hK s l vs p r)
  | .dk _, v, p, _ => by simp [plainD] at p
  | .dt _, v, p, _ => by simp [plainD] at p
  | .ins _ _, v, p, _ => by simp [plainD] at p
  | .scr _, v, p, _ => by simp [plainD] at p
theorem DenL.dp (hK : W.K = X.K) (s : Sub G H) : ∀ (l : List D) (vs : List V), plainDs l = true → DenL W G l vs → DpAll X.K H vs (toPys l)
  | [], vs, _, h => by simp only [DenL] at h; subst h; simp only [toPys]; exact .nil
  | d :: l, vs, p, h => by
    simp only [plainDs, Bool.and_eq_true] at p
    simp only [DenL] at h
    obtain ⟨v, r, rfl, a, b⟩ := h
    simp only [toPys]
    exact .cons (Den.dp hK s d v p.1 a) (DenL.dp hK s l r p.2 b)
end
theorem Top.dp (hK : W.K = X.K) (s : Sub G H) {d : D} {v : V} (p : plainD d = true) (h : Top W H G d v) : Dp X.K H v (toPy d) := by
  cases d with
  | lst l =>
    obtain ⟨a, vs, rfl, q, r⟩ := h.lst
    simp only [plainD] at p
    simp only [toPy]
    exact .lst (SqL.of q) (DenL.dp hK s l vs p r)
  | dk _ => simp [plainD] at p
  | dt _ => simp [plainD] at p
  | ins _ _ => simp [plainD] at p
  | scr _ => simp [plainD] at p
  | _ => exact Den.dp hK s _ v p h
theorem eqT_some {a b : D} {c : Bool} (h : eqT a b = some c) : plainD a = true ∧ plainD b = true ∧ depD a ≤ 60 ∧ depD b ≤ 60 ∧ eqD a b = some c := by
  unfold eqT at h
  split at h
  · rename_i hp
    simp only [Bool.and_eq_true, decide_eq_true_eq] at hp
    exact ⟨hp.1.1.1, hp.1.1.2, hp.1.2, hp.2, h⟩
  · cases h
theorem cmp_eq (hK : W.K = X.K) (hu : X.A.units + 64 < cLine) : OpR X (compareOp .Eq) (rCmp W (cmpD .eq)) := by
  intro pins s σ H x y v u Q I rx ry h
  obtain ⟨G, p, q, b, sub, tp, tq, e, k⟩ := h
  obtain ⟨p1, p2, p3, p4, e⟩ := eqT_some (show eqT p q = some b from e)
  refine op_eqD hu pins s σ H x y v u Q I rx ry ⟨toPy p, toPy q, tp.dp hK sub p1, tq.dp hK sub p2, shaped_toPy p1 (by omega), shaped_toPy p2 (by omega), ?_⟩
  rw [eqv_toPy p q b e]
  exact k
theorem cmp_ne (hK : W.K = X.K) (hu : X.A.units + 64 < cLine) : OpR X (compareOp .NotEq) (rCmp W (cmpD .ne)) := by
  intro pins s σ H x y v u Q I rx ry h
  obtain ⟨G, p, q, b, sub, tp, tq, e, k⟩ := h
  simp only [cmpD, Option.map_eq_some_iff] at e
  obtain ⟨c, e, rfl⟩ := e
  obtain ⟨p1, p2, p3, p4, e⟩ := eqT_some e
  refine op_neD hu pins s σ H x y v u Q I rx ry ⟨toPy p, toPy q, tp.dp hK sub p1, tq.dp hK sub p2, shaped_toPy p1 (by omega), shaped_toPy p2 (by omega), ?_⟩
  rw [eqv_toPy p q c e]
  exact k
theorem toNat_lt_iff (a b : Char) : a < b ↔ a.toNat < b.toNat := Iff.rfl
theorem ltC_iff : ∀ a b : List Char, ltC a b = decide (a.map Char.toNat < b.map Char.toNat)
  | [], [] => by simp [ltC]
  | [], _ :: _ => by simp [ltC]
  | _ :: _, [] => by simp [ltC]
  | a :: l, b :: r => by
    simp only [ltC, List.map_cons, List.cons_lt_cons_iff]
    by_cases h1 : a.toNat < b.toNat
    · simp [h1]
    · by_cases h2 : b.toNat < a.toNat
      · have h3 : a.toNat ≠ b.toNat := by omega
        simp [h1, h2, h3]
      · have h3 : a.toNat = b.toNat := by omega
        simp [h3, ltC_iff l r]
theorem ltD_cases {p q : D} {b : Bool} (h : ltD p q = some b) : (∃ i j, p = .int i ∧ q = .int j ∧ b = decide (i < j)) ∨ ∃ i j, p = .str i ∧ q = .str j ∧ b = ltC i j := by
  cases p with
  | int i => cases q with
    | int j => cases h; exact .inl ⟨i, j, rfl, rfl, rfl⟩
    | _ => cases h
  | str i => cases q with
    | str j => cases h; exact .inr ⟨i, j, rfl, rfl, rfl⟩
    | _ => cases h
  | _ => cases h
theorem cmp_lt : OpR X (compareOp .Lt) (rCmp W (cmpD .lt)) := by
  intro pins s σ H x y v u Q I rx ry h
  obtain ⟨G, p, q, b, sub, tp, tq, e, k⟩ := h
  rcases ltD_cases (show ltD p q = some b from e) with ⟨i, j, rfl, rfl, rfl⟩ | ⟨i, j, rfl, rfl, rfl⟩
  · cases tp.int; cases tq.int
    exact op_lt pins s σ H _ _ v u Q I rx ry ⟨i, j, rfl, rfl, k⟩
  · cases tp.str; cases tq.str
    refine op_lt_str pins s σ H _ _ v u Q I rx ry ⟨_, _, rfl, rfl, ?_⟩
    rw [encS_list, encS_list, ← ltC_iff]
    exact k
theorem cmp_gt : OpR X (compareOp .Gt) (rCmp W (cmpD .gt)) := by
  intro pins s σ H x y v u Q I rx ry h
  obtain ⟨G, p, q, b, sub, tp, tq, e, k⟩ := h
  rcases ltD_cases (show ltD q p = some b from e) with ⟨i, j, rfl, rfl, rfl⟩ | ⟨i, j, rfl, rfl, rfl⟩
  · cases tp.int; cases tq.int
    exact op_gt pins s σ H _ _ v u Q I rx ry ⟨j, i, rfl, rfl, k⟩
  · cases tp.str; cases tq.str
    refine op_gt_str pins s σ H _ _ v u Q I rx ry ⟨_, _, rfl, rfl, ?_⟩
    rw [encS_list, encS_list, ← ltC_iff]
    exact k
theorem not_lt_dec (i j : Int) : (!decide (j < i)) = decide (i ≤ j) := by
  by_cases h : i ≤ j
  · rw [decide_eq_true h, decide_eq_false (by omega)]; rfl
  · rw [decide_eq_false h, decide_eq_true (by omega)]; rfl
theorem cmp_le : OpR X (compareOp .LtE) (rCmp W (cmpD .le)) := by
  intro pins s σ H x y v u Q I rx ry h
  obtain ⟨G, p, q, b, sub, tp, tq, e, k⟩ := h
  simp only [cmpD, Option.map_eq_some_iff] at e
  obtain ⟨c, e, rfl⟩ := e
  rcases ltD_cases e with ⟨i, j, rfl, rfl, rfl⟩ | ⟨i, j, rfl, rfl, rfl⟩
  · cases tp.int; cases tq.int
    refine op_le pins s σ H _ _ v u Q I rx ry ⟨j, i, rfl, rfl, ?_⟩
    show Q (.bl (decide (_ ≤ _))) H
    rw [← not_lt_dec]; exact k
  · cases tp.str; cases tq.str
    refine op_le_str pins s σ H _ _ v u Q I rx ry ⟨_, _, rfl, rfl, ?_⟩
    rw [encS_list, encS_list, ← ltC_iff]
    exact k
theorem cmp_ge : OpR X (compareOp .GtE) (rCmp W (cmpD .ge)) := by
  intro pins s σ H x y v u Q I rx ry h
  obtain ⟨G, p, q, b, sub, tp, tq, e, k⟩ := h
  simp only [cmpD, Option.map_eq_some_iff] at e
  obtain ⟨c, e, rfl⟩ := e
  rcases ltD_cases e with ⟨i, j, rfl, rfl, rfl⟩ | ⟨i, j, rfl, rfl, rfl⟩
  · cases tp.int; cases tq.int
    refine op_ge pins s σ H _ _ v u Q I rx ry ⟨i, j, rfl, rfl, ?_⟩
    show Q (.bl (decide (_ ≤ _))) H
    rw [← not_lt_dec]; exact k
  · cases tp.str; cases tq.str
    refine op_ge_str pins s σ H _ _ v u Q I rx ry ⟨_, _, rfl, rfl, ?_⟩
    rw [encS_list, encS_list, ← ltC_iff]
    exact k
theorem dec_bl2 (a b : Bool) : (a == b) = decide (a = b) := by cases a <;> cases b <;> rfl
def isNon : D → Bool
  | .non => true
  | _ => false
theorem Top.isnon {d : D} {v : V} (h : Top W H G d v) : decide (v = V.non) = isNon d := by
  cases d with
  | non => cases h.non; rfl
  | int i => cases h.int; rfl
  | bl i => cases h.bl; rfl
  | str i => cases h.str; rfl
  | lst l => obtain ⟨a, vs, rfl, _⟩ := h.lst; rfl
  | tup l => obtain ⟨a, vs, rfl, _⟩ := h.tup; rfl
  | dk l => obtain ⟨a, vs, rfl, _⟩ := h.dk; rfl
  | dt l => obtain ⟨a, vs, rfl, _⟩ := h.dt; rfl
  | scr l => obtain ⟨a, rfl, _⟩ := h.scr; rfl
  | ins c fs => simp only [Top] at h; obtain ⟨a, dx, fv, rfl, _⟩ := h; rfl
theorem cmp_is : OpR X (compareOp .Is) (rCmp W (cmpD .is_)) := by
  intro pins s σ H x y v u Q I rx ry h
  obtain ⟨G, p, q, b, sub, tp, tq, e, k⟩ := h
  cases q with
  | non =>
    cases tq.non
    refine op_isN pins s σ H _ _ v u Q I rx ry ⟨rfl, ?_⟩
    rw [tp.isnon]
    have : isNon p = b := by
      simp only [cmpD] at e
      cases p <;> simpa [isNon] using e
    rw [this]; exact k
  | bl c =>
    cases tq.bl
    cases p with
    | bl a =>
      cases tp.bl
      cases (show some (a == c) = some b from e)
      refine op_isBl pins s σ H _ _ v u Q I rx ry ⟨a, c, rfl, rfl, ?_⟩
      rw [← dec_bl2]; exact k
    | _ => cases (show (none : Option Bool) = some b from e)
  | _ => cases (show (none : Option Bool) = some b from e)
theorem cmp_isnot : OpR X (compareOp .IsNot) (rCmp W (cmpD .isnot)) := by
  intro pins s σ H x y v u Q I rx ry h
  obtain ⟨G, p, q, b, sub, tp, tq, e, k⟩ := h
  cases q with
  | non =>
    cases tq.non
    refine op_notN pins s σ H _ _ v u Q I rx ry ⟨rfl, ?_⟩
    rw [tp.isnon]
    have : (!isNon p) = b := by
      simp only [cmpD] at e
      cases p <;> simpa [isNon] using e
    rw [this]; exact k
  | bl c =>
    cases tq.bl
    cases p with
    | bl a =>
      cases tp.bl
      cases (show some (!(a == c)) = some b from e)
      refine op_notBl pins s σ H _ _ v u Q I rx ry ⟨a, c, rfl, rfl, ?_⟩
      rw [← dec_bl2]; exact k
    | _ => cases (show (none : Option Bool) = some b from e)
  | _ => cases (show (none : Option Bool) = some b from e)
end
end TI
set_option Elab.async false
set_option linter.all false
set_option maxRecDepth 100000
set_option maxHeartbeats 1000000
namespace TI
open PySem PySem.Spec L2
section
variable {W : Wd} {X : Cx} {G H : Hp}
theorem kOf_v {d : D} {k : K} {v : V} (h : kOf d = some k) (t : Den W G d v) : v = kV k.key := by
  cases d with
  | int i => cases h; simp only [Den] at t; rw [t]; rfl
  | str x => cases h; simp only [Den] at t; rw [t]; rfl
  | _ => cases h
theorem kOf_top {d : D} {k : K} {v : V} (h : kOf d = some k) (t : Top W H G d v) : v = kV k.key := by
  cases d with
  | int i => exact kOf_v (W := W) (G := G) h t
  | str x => exact kOf_v (W := W) (G := G) h t
  | _ => cases h
theorem ksOf_v : ∀ {l : List D} {ks : List K} {vs : List V}, ksOf l = some ks → DenL W G l vs → vs = (ks.map K.key).map kV
  | [], ks, vs, h, t => by cases h; simp only [DenL] at t; rw [t]; rfl
  | d :: l, ks, vs, h, t => by
    simp only [ksOf] at h
    cases h1 : kOf d with
    | none => rw [h1] at h; cases h
    | some k =>
      cases h2 : ksOf l with
      | none => rw [h1, h2] at h; cases h
      | some r =>
        rw [h1, h2] at h
        cases h
        simp only [DenL] at t
        obtain ⟨v, vs', rfl, a, b⟩ := t
        rw [kOf_v h1 a, ksOf_v h2 b]
        rfl
theorem dget_valK : ∀ {l : List (K × D)} {kvs : List (Key × V)} {k : K}, DenK W G l kvs → (∀ d, dget l k = some d → ∃ v, valV kvs k.key = some v ∧ Den W G d v) ∧ (dget l k = none → valV kvs k.key = none)
  | [], kvs, k, h => by simp only [DenK] at h; subst h; exact ⟨fun d e => by simp [dget] at e, fun _ => rfl⟩
  | (k', d') :: l, kvs, k, h => by
    simp only [DenK] at h
    obtain ⟨v, r, rfl, a, b⟩ := h
    by_cases e : k' = k
    · subst e
      refine ⟨fun d e => ?_, fun e => ?_⟩
      · simp [dget] at e; subst e
        exact ⟨v, valV_pos rfl, a⟩
      · simp [dget] at e
    · have hk : ¬ k'.key = k.key := fun z => e (K.key_inj z)
      have e1 : dget ((k', d') :: l) k = dget l k := by simp [dget, List.find?_cons, e]
      rw [e1, valV_neg hk]
      exact dget_valK b
theorem key_list_inj {a b : List K} (h : a.map K.key = b.map K.key) : a = b := (List.map_inj_right (fun _ _ z => K.key_inj z)).mp h
theorem dget_valT : ∀ {l : List (List K × D)} {kvs : List (List Key × V)} {k : List K}, DenT W G l kvs → (∀ d, dget l k = some d → ∃ v, valV kvs (k.map K.key) = some v ∧ Den W G d v) ∧ (dget l k = none → valV kvs (k.map K.key) = none)
  | [], kvs, k, h => by simp only [DenT] at h; subst h; exact ⟨fun d e => by simp [dget] at e, fun _ => rfl⟩
  | (k', d') :: l, kvs, k, h => by
    simp only [DenT] at h
    obtain ⟨v, r, rfl, a, b⟩ := h
    by_cases e : k' = k
    · subst e
      refine ⟨fun d e => ?_, fun e => ?_⟩
      · simp [dget] at e; subst e
        exact ⟨v, valV_pos rfl, a⟩
      · simp [dget] at e
    · have hk : ¬ k'.map K.key = k.map K.key := fun z => e (key_list_inj z)
      have e1 : dget ((k', d') :: l) k = dget l k := by simp [dget, List.find?_cons, e]
      rw [e1, valV_neg hk]
      exact dget_valT b
theorem DenK.length : ∀ {l : List (K × D)} {vs : List (Key × V)}, DenK W G l vs → vs.length = l.length
  | [], vs, h => by simp only [DenK] at h; subst h; rfl
  | (k, d) :: l, vs, h => by
    simp only [DenK] at h
    obtain ⟨v, r, rfl, a, b⟩ := h
    simp [DenK.length b]
theorem DenT.length : ∀ {l : List (List K × D)} {vs : List (List Key × V)}, DenT W G l vs → vs.length = l.length
  | [], vs, h => by simp only [DenT] at h; subst h; rfl
  | (k, d) :: l, vs, h => by
    simp only [DenT] at h
    obtain ⟨v, r, rfl, a, b⟩ := h
    simp [DenT.length b]
theorem any_keyK : ∀ {l : List (K × D)} {kvs : List (Key × V)} {k : K}, DenK W G l kvs → (kvs.any fun p => decide (p.1 = k.key)) = l.any fun p => decide (p.1 = k)
  | [], kvs, k, h => by simp only [DenK] at h; subst h; rfl
  | (k', d') :: l, kvs, k, h => by
    simp only [DenK] at h
    obtain ⟨v, r, rfl, a, b⟩ := h
    rw [List.any_cons, List.any_cons, any_keyK b]
    congr 1
    by_cases e : k' = k
    · subst e; simp
    · rw [decide_eq_false e, decide_eq_false fun z => e (K.key_inj z)]
theorem mapK : ∀ {l : List (K × D)} {kvs : List (Key × V)} {k : K} {d : D} {v : V}, DenK W G l kvs → Den W G d v → DenK W G (l.map fun p => if p.1 = k then (p.1, d) else p) (kvs.map fun p => if p.1 = k.key then (p.1, v) else p)
  | [], kvs, k, d, v, h, q => by simp only [DenK] at h; subst h; simp [DenK]
  | (k', d') :: l, kvs, k, d, v, h, q => by
    simp only [DenK] at h
    obtain ⟨y, r, rfl, a, b⟩ := h
    rw [List.map_cons, List.map_cons]
    by_cases e : k' = k
    · subst e
      rw [if_pos rfl, if_pos rfl]
      simp only [DenK]
      exact ⟨v, _, rfl, q, mapK b q⟩
    · have hk : ¬ k'.key = k.key := fun z => e (K.key_inj z)
      rw [if_neg e]
      simp only [DenK]
      exact ⟨y, _, by rw [if_neg hk], a, mapK b q⟩
theorem DenK.append : ∀ {l l' : List (K × D)} {vs vs' : List (Key × V)}, DenK W G l vs → DenK W G l' vs' → DenK W G (l ++ l') (vs ++ vs')
  | [], l', vs, vs', h, h' => by simp only [DenK] at h; subst h; exact h'
  | (k, d) :: l, l', vs, vs', h, h' => by
    simp only [DenK] at h
    obtain ⟨v, r, rfl, a, b⟩ := h
    simp only [List.cons_append, DenK]
    exact ⟨v, _, rfl, a, DenK.append b h'⟩
theorem putDK {l : List (K × D)} {kvs : List (Key × V)} {k : K} {d : D} {v : V} (h : DenK W G l kvs) (q : Den W G d v) : DenK W G (dput l k d) (putK kvs k.key v) := by
  unfold dput putK
  rw [any_keyK h]
  split
  · exact mapK h q
  · exact h.append (by simp only [DenK]; exact ⟨v, [], rfl, q, rfl⟩)
theorem any_keyT : ∀ {l : List (List K × D)} {kvs : List (List Key × V)} {k : List K}, DenT W G l kvs → (kvs.any fun p => decide (p.1 = k.map K.key)) = l.any fun p => decide (p.1 = k)
  | [], kvs, k, h => by simp only [DenT] at h; subst h; rfl
  | (k', d') :: l, kvs, k, h => by
    simp only [DenT] at h
    obtain ⟨v, r, rfl, a, b⟩ := h
    rw [List.any_cons, List.any_cons, any_keyT b]
    congr 1
    by_cases e : k' = k
    · subst e; simp
    · rw [decide_eq_false e, decide_eq_false fun z => e (key_list_inj z)]
theorem mapT : ∀ {l : List (List K × D)} {kvs : List (List Key × V)} {k : List K} {d : D} {v : V}, DenT W G l kvs → Den W G d v → DenT W G (l.map fun p => if p.1 = k then (p.1, d) else p) (kvs.map fun p => if p.1 = k.map K.key then (p.1, v) else p)
  | [], kvs, k, d, v, h, q => by simp only [DenT] at h; subst h; simp [DenT]
  | (k', d') :: l, kvs, k, d, v, h, q => by
    simp only [DenT] at h
    obtain ⟨y, r, rfl, a, b⟩ := h
    rw [List.map_cons, List.map_cons]
    by_cases e : k' = k
    · subst e
      rw [if_pos rfl, if_pos rfl]
      simp only [DenT]
      exact ⟨v, _, rfl, q, mapT b q⟩
    · have hk : ¬ k'.map K.key = k.map K.key := fun z => e (key_list_inj z)
      rw [if_neg e]
      simp only [DenT]
      exact ⟨y, _, by rw [if_neg hk], a, mapT b q⟩
theorem DenT.append : ∀ {l l' : List (List K × D)} {vs vs' : List (List Key × V)}, DenT W G l vs → DenT W G l' vs' → DenT W G (l ++ l') (vs ++ vs')
  | [], l', vs, vs', h, h' => by simp only [DenT] at h; subst h; exact h'
  | (k, d) :: l, l', vs, vs', h, h' => by
    simp only [DenT] at h
    obtain ⟨v, r, rfl, a, b⟩ := h
    simp only [List.cons_append, DenT]
    exact ⟨v, _, rfl, a, DenT.append b h'⟩
theorem putDT {l : List (List K × D)} {kvs : List (List Key × V)} {k : List K} {d : D} {v : V} (h : DenT W G l kvs) (q : Den W G d v) : DenT W G (dput l k d) (putK kvs (k.map K.key) v) := by
  unfold dput putK
  rw [any_keyT h]
  split
  · exact mapT h q
  · exact h.append (by simp only [DenT]; exact ⟨v, [], rfl, q, rfl⟩)
theorem eqAny_ok : ∀ {x : D} {l : List D} {b : Bool}, eqAny x l = some b → ((toPys l).any fun z => PyData.eqv z (toPy x)) = b
  | x, [], b, h => by cases h; simp [toPys]
  | x, z :: l, b, h => by
    simp only [eqAny] at h
    cases h1 : eqD z x with
    | none => rw [h1] at h; cases h
    | some p =>
      cases h2 : eqAny x l with
      | none => rw [h1, h2] at h; cases h
      | some q =>
        rw [h1, h2] at h
        cases h
        simp only [toPys, List.any_cons, eqv_toPy z x p h1, eqAny_ok h2]
theorem tOf_top {d : D} {k : List K} {v : V} (sub : Sub G H) (h : tOf d = some k) (t : Top W H G d v) : ∃ b, v = .ref b ∧ H b = some (.tup ((k.map K.key).map kV)) := by
  cases d with
  | tup l =>
    cases l with
    | nil => cases h
    | cons x l =>
      obtain ⟨a, vs, rfl, _, n, r⟩ := t.tup
      have e := ksOf_v (show ksOf (x :: l) = some k from h) r
      exact ⟨a, rfl, by rw [← e]; exact sub _ _ (n (by simp))⟩
  | _ => cases h
theorem dget_top {x y : D} {u v : V} (sub : Sub G H) (tx : Top W H G x u) (ty : Top W H G y v) {o : Option D} (h : (match x with
    | .dk l => (kOf y).map fun k => dget l k
    | .dt l => (tOf y).map fun k => dget l k
    | _ => none) = some o) : ∃ a ov, u = .ref a ∧ DGet H a v ov ∧ ov.isSome = o.isSome ∧ ∀ d, o = some d → ∃ w, ov = some w ∧ Den W G d w := by
  cases x with
  | dk l =>
    simp only [Option.map_eq_some_iff] at h
    obtain ⟨k, hk, rfl⟩ := h
    obtain ⟨a, kvs, rfl, hH, hd⟩ := tx.dk
    obtain rfl := kOf_top hk ty
    obtain ⟨g1, g2⟩ := dget_valK (k := k) hd
    refine ⟨a, valV kvs k.key, rfl, DGet.k hH, ?_, g1⟩
    cases e : dget l k with
    | none => rw [g2 e]; rfl
    | some d => obtain ⟨w, e2, _⟩ := g1 d e; rw [e2]; rfl
  | dt l =>
    simp only [Option.map_eq_some_iff] at h
    obtain ⟨k, hk, rfl⟩ := h
    obtain ⟨a, kvs, rfl, hH, hd⟩ := tx.dt
    obtain ⟨b, rfl, hb⟩ := tOf_top sub hk ty
    obtain ⟨g1, g2⟩ := dget_valT (k := k) hd
    refine ⟨a, valV kvs (k.map K.key), rfl, DGet.t hH hb, ?_, g1⟩
    cases e : dget l k with
    | none => rw [g2 e]; rfl
    | some d => obtain ⟨w, e2, _⟩ := g1 d e; rw [e2]; rfl
  | _ => cases h
theorem in_dict {X : Cx} (hu : X.A.units + 100 < cLine) {pins : List (Addr × Obj)} {s : Shared} {σ : L2.St} {a : Addr} {y : V} {o : Option V} {u : Value} {Q : VK} (I : Inv X pins σ H s) (g : DGet H a y o) (ry : RelV y u) (k : Q (.bl o.isSome) H) :
    wpAny (model X.prog X.w) X.A (compareOp .In u (.ref a)) (EP X pins σ Q) X.xe s := d_in (by omega) I g ry fun s' I' => ⟨.bl _, H, I', rfl, k⟩
theorem notin_dict {X : Cx} (hu : X.A.units + 100 < cLine) {pins : List (Addr × Obj)} {s : Shared} {σ : L2.St} {a : Addr} {y : V} {o : Option V} {u : Value} {Q : VK} (I : Inv X pins σ H s) (g : DGet H a y o) (ry : RelV y u) (k : Q (.bl (!o.isSome)) H) :
    wpAny (model X.prog X.w) X.A (compareOp .NotIn u (.ref a)) (EP X pins σ Q) X.xe s := d_notIn (by omega) I g ry fun s' I' => ⟨.bl _, H, I', rfl, k⟩
theorem encS_one (c : Char) : encS [c] = (⟨#[c.toNat]⟩ : Str) := rfl
theorem mem_enc {c : Char} {l : List Char} : decide (c.toNat ∈ (encS l).cps.toList) = decide (c ∈ l) := by
  rw [encS_list]
  by_cases h : c ∈ l
  · rw [decide_eq_true h, decide_eq_true (List.mem_map_of_mem h)]
  · rw [decide_eq_false h, decide_eq_false]
    intro z
    obtain ⟨b, h1, h2⟩ := List.mem_map.mp z
    exact h (Char.toNat_inj.mp h2 ▸ h1)
theorem inSeq_some {x : D} {l : List D} {b : Bool} (h : (if (plainD x && plainDs l && decide (depD x ≤ 50) && decide (depDs l ≤ 50)) = true then eqAny x l else none) = some b) :
    plainD x = true ∧ plainDs l = true ∧ depD x ≤ 50 ∧ depDs l ≤ 50 ∧ eqAny x l = some b := by
  split at h
  · rename_i hp
    simp only [Bool.and_eq_true, decide_eq_true_eq] at hp
    exact ⟨hp.1.1.1, hp.1.1.2, hp.1.2, hp.2, h⟩
  · cases h
theorem cmp_in (hK : W.K = X.K) (hu : X.A.units + 100 < cLine) : OpR X (compareOp .In) (rCmp W (cmpD .in_)) := by
  intro pins s σ H x y v u Q I rx ry h
  obtain ⟨G, p, q, b, sub, tp, tq, e, k⟩ := h
  have e : inD p q = some b := e
  cases q with
  | str z =>
    simp only [inD] at e
    split at e
    · cases e
      cases tp.str; cases tq.str
      refine op_in_sign pins s σ H _ _ v u Q I rx ry ⟨_, _, rfl, rfl, ?_⟩
      rw [mem_enc]; exact k
    · cases e
  | lst l =>
    obtain ⟨p1, p2, p3, p4, e⟩ := inSeq_some (show _ = some b from e)
    have dq : Dp X.K H y (toPy (.lst l)) := tq.dp hK sub (by simpa only [plainD] using p2)
    simp only [toPy] at dq
    refine op_inD (by omega) pins s σ H x y v u Q I rx ry ⟨toPy p, toPys l, tp.dp hK sub p1, dq, shaped_toPy p1 (by omega), ?_, ?_⟩
    · have := shaped_toPy (d := .lst l) (by simpa only [plainD] using p2) (by simp only [depD]; omega)
      simpa only [toPy] using this
    · rw [eqAny_ok e]; exact k
  | tup l =>
    obtain ⟨p1, p2, p3, p4, e⟩ := inSeq_some (show _ = some b from e)
    have dq : Dp X.K H y (toPy (.tup l)) := tq.dp hK sub (by simpa only [plainD] using p2)
    simp only [toPy] at dq
    obtain ⟨as, r1⟩ := Dp.reads I _ x v (tp.dp hK sub p1) rx
    obtain ⟨bs, r2⟩ := Dp.reads I _ y u dq ry
    refine SeqAt.in_tuple_reads r2 r1 (canLay_toPys l p2) (canLay_toPy p p1) ?_ ⟨.bl _, H, I, rfl, ?_⟩
    · have := depth_toPy p
      have : min (PyData.depthAll (toPys l)) (toPy p).depth ≤ (toPy p).depth := Nat.min_le_right _ _
      omega
    · rw [eqAny_ok e]; exact k
  | dk l =>
    simp only [inD, Option.map_eq_some_iff] at e
    obtain ⟨kk, hk, rfl⟩ := e
    obtain ⟨a, ov, rfl, g, i1, _⟩ := dget_top (x := .dk l) (y := p) (o := dget l kk) sub tq tp (by simp [hk])
    cases ry
    exact in_dict hu I g rx (by rw [i1]; exact k)
  | dt l =>
    simp only [inD, Option.map_eq_some_iff] at e
    obtain ⟨kk, hk, rfl⟩ := e
    obtain ⟨a, ov, rfl, g, i1, _⟩ := dget_top (x := .dt l) (y := p) (o := dget l kk) sub tq tp (by simp [hk])
    cases ry
    exact in_dict hu I g rx (by rw [i1]; exact k)
  | _ => cases e
theorem cmp_notin (hK : W.K = X.K) (hu : X.A.units + 100 < cLine) : OpR X (compareOp .NotIn) (rCmp W (cmpD .notin)) := by
  intro pins s σ H x y v u Q I rx ry h
  obtain ⟨G, p, q, b, sub, tp, tq, e, k⟩ := h
  simp only [cmpD, Option.map_eq_some_iff] at e
  obtain ⟨b, e, rfl⟩ := e
  cases q with
  | str z =>
    simp only [inD] at e
    split at e
    · cases e
      cases tp.str; cases tq.str
      refine op_notIn_sign pins s σ H _ _ v u Q I rx ry ⟨_, _, rfl, rfl, ?_⟩
      rw [mem_enc]; exact k
    · cases e
  | lst l =>
    obtain ⟨p1, p2, p3, p4, e⟩ := inSeq_some (show _ = some b from e)
    have dq : Dp X.K H y (toPy (.lst l)) := tq.dp hK sub (by simpa only [plainD] using p2)
    simp only [toPy] at dq
    refine op_notInD (by omega) pins s σ H x y v u Q I rx ry ⟨toPy p, toPys l, tp.dp hK sub p1, dq, shaped_toPy p1 (by omega), ?_, ?_⟩
    · have := shaped_toPy (d := .lst l) (by simpa only [plainD] using p2) (by simp only [depD]; omega)
      simpa only [toPy] using this
    · rw [eqAny_ok e]; exact k
  | tup l =>
    obtain ⟨p1, p2, p3, p4, e⟩ := inSeq_some (show _ = some b from e)
    have dq : Dp X.K H y (toPy (.tup l)) := tq.dp hK sub (by simpa only [plainD] using p2)
    simp only [toPy] at dq
    obtain ⟨as, r1⟩ := Dp.reads I _ x v (tp.dp hK sub p1) rx
    obtain ⟨bs, r2⟩ := Dp.reads I _ y u dq ry
    refine SeqAt.notIn_tuple_reads r2 r1 (canLay_toPys l p2) (canLay_toPy p p1) ?_ ⟨.bl _, H, I, rfl, ?_⟩
    · have := depth_toPy p
      have : min (PyData.depthAll (toPys l)) (toPy p).depth ≤ (toPy p).depth := Nat.min_le_right _ _
      omega
    · rw [eqAny_ok e]; exact k
  | dk l =>
    simp only [inD, Option.map_eq_some_iff] at e
    obtain ⟨kk, hk, rfl⟩ := e
    obtain ⟨a, ov, rfl, g, i1, _⟩ := dget_top (x := .dk l) (y := p) (o := dget l kk) sub tq tp (by simp [hk])
    cases ry
    exact notin_dict hu I g rx (by rw [i1]; exact k)
  | dt l =>
    simp only [inD, Option.map_eq_some_iff] at e
    obtain ⟨kk, hk, rfl⟩ := e
    obtain ⟨a, ov, rfl, g, i1, _⟩ := dget_top (x := .dt l) (y := p) (o := dget l kk) sub tq tp (by simp [hk])
    cases ry
    exact notin_dict hu I g rx (by rw [i1]; exact k)
  | _ => cases e
def cmpOf : CmpO → CmpOp
  | .eq => .Eq | .ne => .NotEq | .lt => .Lt | .le => .LtE | .gt => .Gt | .ge => .GtE | .is_ => .Is | .isnot => .IsNot | .in_ => .In | .notin => .NotIn
theorem cmp_ok (hK : W.K = X.K) (hu : X.A.units + 100 < cLine) (o : CmpO) : OpR X (compareOp (cmpOf o)) (rCmp W (cmpD o)) := by
  cases o with
  | eq => exact cmp_eq hK (by omega)
  | ne => exact cmp_ne hK (by omega)
  | lt => exact cmp_lt
  | le => exact cmp_le
  | gt => exact cmp_gt
  | ge => exact cmp_ge
  | is_ => exact cmp_is
  | isnot => exact cmp_isnot
  | in_ => exact cmp_in hK hu
  | notin => exact cmp_notin hK hu
theorem at_eq {α : Type} (l : List α) (i : Int) : atI l i = at? l i := by
  unfold atI ixN at?
  by_cases h0 : 0 ≤ i
  · rw [if_pos h0, if_pos h0]
    by_cases h1 : i < l.length
    · rw [if_pos h1]; rfl
    · rw [if_neg h1]
      symm
      exact List.getElem?_eq_none_iff.mpr (by omega)
  · rw [if_neg h0, if_neg h0]
    by_cases h1 : -(l.length : Int) ≤ i
    · rw [if_pos h1, if_pos h1]; rfl
    · rw [if_neg h1, if_neg h1]; rfl
theorem at_get {α : Type} {l : List α} {i : Int} {x : α} (h : at? l i = some x) : ∃ j : Nat, l[j]? = some x ∧ ∀ {β : Type} (r : List β), r.length = l.length → at? r i = r[j]? := by
  unfold at? at h
  by_cases h0 : 0 ≤ i
  · rw [if_pos h0] at h
    exact ⟨_, h, fun r _ => by unfold at?; rw [if_pos h0]⟩
  · rw [if_neg h0] at h
    by_cases h1 : -(l.length : Int) ≤ i
    · rw [if_pos h1] at h
      exact ⟨_, h, fun r e => by unfold at?; rw [if_neg h0, e, if_pos h1]⟩
    · rw [if_neg h1] at h; cases h
theorem DenL.at {l : List D} {vs : List V} {i : Int} {d : D} (h : DenL W G l vs) (e : at? l i = some d) : ∃ v, at? vs i = some v ∧ Den W G d v := by
  obtain ⟨j, h1, h2⟩ := at_get e
  obtain ⟨v, h3, h4⟩ := h.get h1
  exact ⟨v, by rw [h2 vs h.length]; exact h3, h4⟩
theorem ix_dict (hu : X.A.units + 100 < cLine) : IxR X (fun x y H Q => ∃ a v, x = .ref a ∧ DGet H a y (some v) ∧ Q v H) := by
  intro value slice pins s σ H x y v u Q I rx ry h hs
  obtain ⟨a, w, rfl, g, q⟩ := h
  cases rx
  exact PyProof.Rows.tail_any (dict_typeIs I g) PySem.F.slot_dict_getitem.lookup (d_getItem (by omega) I g ry fun w' s' I' r' => ⟨w, H, I', r', q⟩) hs
theorem idx_ok (hK : W.K = X.K) (hu : X.A.units + 100 < cLine) : IxR X (rBin W (fun _ => false) idxD) := by
  intro value slice pins s σ H x y v u Q I rx ry h hs
  obtain ⟨G, p, q, d, sub, tp, tq, e, k⟩ := h
  cases p with
  | lst l =>
    cases q with
    | int i =>
      obtain ⟨a, vs, rfl, hH, hl⟩ := tp.lst
      cases tq.int
      obtain ⟨w, h1, h2⟩ := hl.at (show at? l i = some d from e)
      exact ix_list value slice pins s σ H _ _ v u Q I rx ry ⟨a, vs, i, w, rfl, rfl, SqL.of hH, by rw [at_eq]; exact h1, k.of rfl h2⟩ hs
    | _ => cases (show (none : Option D) = some d from e)
  | tup l =>
    cases q with
    | int i =>
      obtain ⟨a, vs, rfl, hH, _, hl⟩ := tp.tup
      cases tq.int
      obtain ⟨w, h1, h2⟩ := hl.at (show at? l i = some d from e)
      exact ix_tup value slice pins s σ H _ _ v u Q I rx ry ⟨a, vs, i, w, rfl, rfl, by rw [← hK]; exact sub.sqT hH, by rw [at_eq]; exact h1, k.of rfl h2⟩ hs
    | _ => cases (show (none : Option D) = some d from e)
  | scr l =>
    cases q with
    | int i =>
      obtain ⟨a, rfl, hH⟩ := tp.scr
      cases tq.int
      obtain ⟨z, h1, rfl⟩ := Option.map_eq_some_iff.mp (show (at? l i).map D.int = some d from e)
      refine ix_list value slice pins s σ H _ _ v u Q I rx ry ⟨a, l.map V.int, i, .int z, rfl, rfl, by rw [← hK]; exact hH, ?_, k.of rfl (den_int _)⟩ hs
      obtain ⟨j, h2, h3⟩ := at_get h1
      rw [at_eq, h3 _ (by simp), List.getElem?_map, h2]; rfl
    | _ => cases (show (none : Option D) = some d from e)
  | str l =>
    cases q with
    | int i =>
      cases tp.str
      cases tq.int
      simp only [idxD] at e
      split at e
      · rename_i hl
        obtain ⟨c, h1, rfl⟩ := Option.map_eq_some_iff.mp e
        refine ix_str value slice pins s σ H _ _ v u Q I rx ry ⟨encS l, i, c.toNat, rfl, rfl, by rw [encS_len, ← lim_eq]; exact hl, ?_, k.of rfl (den_str [c])⟩ hs
        obtain ⟨j, h2, h3⟩ := at_get h1
        rw [at_eq, encS_list, h3 _ (by simp), List.getElem?_map, h2]; rfl
      · cases e
    | _ => cases (show (none : Option D) = some d from e)
  | dk l =>
    obtain ⟨kk, hk, e2⟩ := Option.bind_eq_some_iff.mp (show (kOf q).bind (dget l) = some d from by cases q <;> exact e)
    obtain ⟨a, ov, rfl, g, _, i2⟩ := dget_top (x := .dk l) (y := q) (o := dget l kk) sub tp tq (by simp [hk])
    obtain ⟨w, rfl, i3⟩ := i2 d e2
    exact ix_dict hu value slice pins s σ H _ _ v u Q I rx ry ⟨a, w, rfl, g, k.of rfl i3⟩ hs
  | dt l =>
    obtain ⟨kk, hk, e2⟩ := Option.bind_eq_some_iff.mp (show (tOf q).bind (dget l) = some d from by cases q <;> exact e)
    obtain ⟨a, ov, rfl, g, _, i2⟩ := dget_top (x := .dt l) (y := q) (o := dget l kk) sub tp tq (by simp [hk])
    obtain ⟨w, rfl, i3⟩ := i2 d e2
    exact ix_dict hu value slice pins s σ H _ _ v u Q I rx ry ⟨a, w, rfl, g, k.of rfl i3⟩ hs
  | _ => cases q <;> cases (show (none : Option D) = some d from e)
theorem cutAt_eq (n d : Nat) (o : Option Int) : HT.sIx n d o = cutAt n d o := by cases o <;> rfl
theorem cutV_eq (vs : List V) (lo hi : Option Int) : cutV vs lo hi = cut vs lo hi := by
  unfold cutV cut
  rw [cutAt_eq, cutAt_eq]
theorem DenL.cut {l : List D} {vs : List V} (h : DenL W G l vs) (lo hi : Option Int) : DenL W G (TI.cut l lo hi) (TI.cut vs lo hi) := by
  unfold TI.cut
  rw [h.length]
  exact (h.drop _).take _
def rCut (W : Wd) : V → Option Int → Option Int → Hp → VK → Prop := fun x lo hi H Q => ∃ G p d, Sub G H ∧ Top W H G p x ∧ cutD p lo hi = some d ∧ OpQ W (isBox d) H G d Q
theorem cut_enc (l : List Char) (lo hi : Option Int) : cutS (encS l) lo hi = encS (cut l lo hi) := by
  unfold cutS cut
  rw [encS_list, encS_len, cutAt_eq, cutAt_eq]
  simp [encS, List.map_drop, List.map_take]
theorem cut_ok (hK : W.K = X.K) : SlR X (rCut W) := by
  intro pins s σ H x v vl vu lo hi sl Q I rx hs pl pu h
  obtain ⟨G, p, d, sub, tp, e, k⟩ := h
  cases p with
  | lst l =>
    obtain ⟨a, vs, rfl, hH, hl⟩ := tp.lst
    cases (show some (D.lst (cut l lo hi)) = some d from e)
    exact sl_list pins s σ H _ v vl vu lo hi sl Q I rx hs pl pu ⟨a, vs, rfl, SqL.of hH, by rw [cutV_eq]; exact k.new_lst (hl.cut lo hi)⟩
  | tup l =>
    obtain ⟨a, vs, rfl, hH, hn, hl⟩ := tp.tup
    cases (show some (D.tup (cut l lo hi)) = some d from e)
    refine sl_tupA pins s σ H _ v vl vu lo hi sl Q I rx hs pl pu ⟨a, vs, rfl, by rw [← hK]; exact sub.sqT hH, fun z => ?_, fun _ => by rw [cutV_eq]; exact k.new_tup (hl.cut lo hi)⟩
    refine k.of rfl ?_
    have e1 : cut l lo hi = l := by
      unfold cut
      rw [← cutAt_eq, ← cutAt_eq, ← hl.length, z.1, z.2]
      simp [hl.length]
    rw [e1]
    exact den_tupT hH hn hl
  | str l =>
    cases tp.str
    simp only [cutD] at e
    split at e
    · rename_i hz
      cases e
      refine sl_str pins s σ H _ v vl vu lo hi sl Q I rx hs pl pu ⟨_, rfl, by rw [encS_len, ← lim_eq]; exact hz, ?_⟩
      rw [cut_enc]
      exact k.of rfl (den_str _)
    · cases e
  | _ => cases (show (none : Option D) = some d from e)
end
end TI
set_option Elab.async false
set_option linter.all false
set_option maxRecDepth 100000
set_option maxHeartbeats 1000000
namespace TI
open PySem PySem.Spec L2
section
variable {prog : Program} {w : World} {A : Around} {E : Value → Shared → Prop} {s : Shared}
theorem hint_str {x : Str} {t : Tok} {Q : Bool → Shared → Prop} (h : Q false s) : wpAny (model prog w) A (Builtin.List.listLengthHint (.str x t)) Q E s := by
  unfold Builtin.List.listLengthHint
  refine wpAny_bind (wpAny_specialOf (typeIs_str s x t) PySem.F.slot_str_len.lookup ?_)
  generalize hid : ("str.__len__" : String) = id0
  wp_delta
  rw [show splitId id0 = some ("str", "__len__") from by subst hid; decide +kernel]
  subst hid
  refine wpAny_bind (wpAny_isInstance (T := "str") (b := true) (typeIs_str s x t) (by rw [isSubtype_type]; kernel_rfl) ?_)
  refine wpAny_ite_split (fun hab => absurd hab (by decide)) (fun _ => ?_)
  refine wpAny_ite_split (fun _ => ?_) (fun hab => absurd (by decide +kernel) hab)
  refine wpAny_bind (wpAny_typeOf (typeIs_str s x t) ?_)
  exact wpAny_pure h
theorem ext_str {R : Result → Shared → Prop} {x : Str} {t : Tok} (hh : A.handled = none) (S : Addr) (res : Value) (c₀ : Nat) (hS : s.heap.get? S = some { cls := .type "list", data := .seq #[] c₀ })
    (hR : ∀ h' tk acc' c', (∀ b o, b ≠ S → s.heap.get? b = some o → h'.get? b = some o) → h'.get? S = some { cls := .type "list", dict := none, data := .seq acc' c', slots := #[] } → ItemsOf (SignAt x) acc' x.cps.size → R (.ok (.ret res)) { s with heap := h', toks := tk }) (hn : x.cps.size ≤ sizeLine) :
    wpAny (model prog w) A.in1 (Builtin.List.listExtendWith (.ref S) (.str x t) res)
      (fun fin s' => match fin with | .done f => R (.ok f) s' | .again c' => c'.quiet = true ∧ codeAny (model prog w) A c' R s') (fun e s' => R (.error e) s') s := by
  have hSI : S ≠ s.heap.objs.size := Nat.ne_of_lt (Heap.lt_size hS)
  have hSf : S ∉ [s.heap.objs.size] := fun hm => hSI (List.mem_singleton.mp hm)
  unfold Builtin.List.listExtendWith
  refine wpAny_bind (wpAny_typeOf (typeIs_str s x t) ?_)
  have h1 : Builtin.List.listSameRef (.ref S) (.str x t) = false := rfl
  have h2 : (Value.type "str" == Value.type "list") = false := by decide
  have h3 : (Value.type "str" == Value.type "tuple") = false := by decide
  simp only [h1, h2, h3, Bool.or_false, Bool.false_eq_true, if_false]
  refine wpAny_bind (wpAny_pyIter_str fun oI St W0 st => ?_)
  have W := W0 A.in1 hh
  have key : ∀ (h : Heap) (c₁ tk : Nat), St 0 h → (∀ b o, b ≠ S → s.heap.get? b = some o → h.get? b = some o) →
      h.get? S = some { cls := .type "list", data := .seq #[] c₁ } → codeAny (model prog w) A (.builtin "list.extend.loop" ⟨[.ref S, .ref s.heap.objs.size, res], []⟩) R { s with heap := h, toks := tk } := by
    intro h c₁ tk hst hk hS₁
    refine codeAny_extend_loopS W.toS hn S hSf res x.cps.size 0 _ #[] c₁ rfl (Nat.zero_le _) hst hS₁ (ItemsOf.nil _) fun s' acc' c' hm hS' hacc => ?_
    rw [Moved.eq_with hm]
    refine hR s'.heap s'.toks acc' c' (fun b o hb e => hm.heap b o (fun hmem => ?_) (hk b o hb e)) hS' hacc
    rcases List.mem_cons.mp hmem with e' | hmem
    · exact hb e'
    · exact absurd (Heap.lt_size e) (by rw [List.mem_singleton.mp hmem]; exact Nat.lt_irrefl _)
  have hS₁ := Heap.get?_push_of_some oI hS
  refine wpAny_bind (wpAny_holding (hint_str ?_))
  refine wpAny_ite_split (fun _ => ?_) (fun _ => wpAny_pure ⟨plainId_quiet PySem.F.plain_extend_loop _, key _ c₀ _ st (fun b o _ e => Heap.get?_push_of_some _ e) hS₁⟩)
  refine wpAny_bind (wpAny_rule ?_)
  refine wpAny_bind ?_
  show wpAny _ _ (updateSeq S (·.push .none) >>= fun _ => updateSeq S (·.pop)) _ _ _
  refine wpAny_bind (wpAny_updateSeq hS₁ rfl ?_)
  have hS₂ := Heap.get?_update_self (Obj.mapSeq (·.push Value.none)) hS₁ rfl
  refine wpAny_updateSeq (hz := by seq_fits) hS₂ rfl ?_
  have hS₃ := Heap.get?_update_self (Obj.mapSeq (·.pop)) hS₂ rfl
  refine wpAny_pure ⟨plainId_quiet PySem.F.plain_extend_loop _, key _ _ _ ?_ (fun b o hb e => ?_) hS₃⟩
  · refine W.frame 0 _ _ st fun b hb o e => ?_
    have hbS : b ≠ S := fun h => hSf (h ▸ hb)
    exact (Heap.get?_update_other _ _ (Ne.symm hbS)).trans ((Heap.get?_update_other _ _ (Ne.symm hbS)).trans e)
  · exact (Heap.get?_update_other _ _ (Ne.symm hb)).trans ((Heap.get?_update_other _ _ (Ne.symm hb)).trans (Heap.get?_push_of_some _ e))
theorem init_str {R : Result → Shared → Prop} {x : Str} {t : Tok} (hh : A.handled = none) (S : Addr) (hS : s.heap.get? S = some { cls := .type "list", data := .seq #[] })
    (hR : ∀ h' tk acc' c', (∀ b o, b ≠ S → s.heap.get? b = some o → h'.get? b = some o) → h'.get? S = some { cls := .type "list", dict := none, data := .seq acc' c', slots := #[] } → ItemsOf (SignAt x) acc' x.cps.size → R (.ok (.ret .none)) { s with heap := h', toks := tk }) (hn : x.cps.size ≤ sizeLine) :
    wpAny (model prog w) A.in1 (Builtin.«list.__init__» ⟨[.ref S, .str x t], []⟩)
      (fun fin s' => match fin with | .done f => R (.ok f) s' | .again c' => c'.quiet = true ∧ codeAny (model prog w) A c' R s') (fun e s' => R (.error e) s') s := by
  show wpAny _ _ (do let old ← Builtin.List.listItems (.ref S); Builtin.List.listUpdate (.ref S) (fun _ => #[]); letGo old.toList.reverse; Builtin.List.listExtendWith (.ref S) (.str x t) .none) _ _ s
  refine wpAny_bind ?_
  unfold Builtin.List.listItems
  refine wpAny_bind (wpAny_seqItems hS rfl (wpAny_pure ?_))
  show wpAny _ _ (updateSeq S (fun _ => #[]) >>= fun _ => letGo (#[] : Array Value).toList.reverse >>= fun _ => Builtin.List.listExtendWith (.ref S) (.str x t) .none) _ _ s
  refine wpAny_bind (wpAny_updateSeq hS rfl ?_)
  have hS₂ := Heap.get?_update_self (Obj.mapSeq (fun _ => (#[] : Array Value))) hS rfl
  have oth : ∀ b o, b ≠ S → s.heap.get? b = some o → (s.heap.update S (Obj.mapSeq (fun _ => (#[] : Array Value)))).get? b = some o :=
    fun b o hb e => (Heap.get?_update_other _ _ (Ne.symm hb)).trans e
  refine wpAny_bind (wpAny_letGo ?_)
  refine ext_str hh S .none _ hS₂ (fun h' tk acc' c' hk hS' hacc => ?_) hn
  exact hR h' tk acc' c' (fun b o hb e => hk b o hb (oth b o hb e)) hS' hacc
theorem call_list_text {Q : Value → Shared → Prop} {x : Str} {t : Tok} (hh : A.handled = none) (hn : x.cps.size ≤ sizeLine)
    (hQ : ∀ h' tk acc' c', (∀ b o, s.heap.get? b = some o → h'.get? b = some o) → h'.get? s.heap.objs.size = some { cls := .type "list", dict := none, data := .seq acc' c', slots := #[] } → ItemsOf (SignAt x) acc' x.cps.size → Q (.ref s.heap.objs.size) { s with heap := h', toks := tk }) :
    wpAny (model prog w) A (call (.type "list") [.str x t]) Q E s := by
  refine callType_codes (Q₁ := fun obj s₁ => obj = .ref s.heap.objs.size ∧ s₁ = { s with heap := s.heap.push { cls := .type "list", data := .seq #[] } }) PySem.F.called_list (PySem.F.typeCall_list_1 _) PySem.F.entry_list_init
    (code_list_new _ ⟨rfl, rfl⟩) fun obj s₁ h₁ => ?_
  obtain ⟨rfl, rfl⟩ := h₁
  have hS : (s.heap.push { cls := .type "list", data := .seq #[] }).get? s.heap.objs.size = some { cls := .type "list", data := .seq #[] } := Heap.get?_push_size _ rfl
  refine ⟨⟨_, hS, rfl⟩, PySem.F.args_list_init_2 _ _, init_str (A := A.in1) hh _ hS (fun h' tk acc' c' hk hS' hacc => ?_) hn⟩
  exact ⟨rfl, hQ h' tk acc' c' (fun b o e => hk b o (Nat.ne_of_lt (Heap.lt_size e)) (Heap.get?_push_of_some _ e)) hS' hacc⟩
end
section
variable {X : Cx}
theorem vals_signs {x : Str} {acc : Array Value} (h : ItemsOf (SignAt x) acc x.cps.size) : Vals (x.cps.toList.map fun c => V.str ⟨#[c]⟩) acc.toList := by
  have e : acc.toList.length = x.cps.size := by rw [Array.length_toList]; exact h.1
  refine vals_of_at (by rw [List.length_map, Array.length_toList, e]) fun j v u h1 h2 => ?_
  obtain ⟨c, k, h3, rfl⟩ := h.2 j u (by rw [← Array.getElem?_toList]; exact h2)
  rw [List.getElem?_map, Array.getElem?_toList, h3] at h1
  cases h1
  exact ⟨k, rfl⟩
theorem call_list_str (hc : X.calm = true) : CallR X (.type "list") (fun xs H Q => ∃ z : Str, xs = [.str z] ∧ z.length ≤ sizeLine ∧ ∀ p, H p = none → Q (.ref p) (upd H p (.lst (z.cps.toList.map fun c => V.str ⟨#[c]⟩)))) := by
  intro pins s σ H xs us Q I r h
  obtain ⟨z, rfl, hz, q⟩ := h
  obtain ⟨u, rfl, t, rfl⟩ := vals1 r
  refine call_list_text (I.ok.hd hc) hz fun h' tk acc' c' hk hS hacc => ?_
  refine ⟨.ref s.heap.objs.size, upd H s.heap.objs.size (.lst (z.cps.toList.map fun c => V.str ⟨#[c]⟩)), I.laid hk (Nat.le_refl _) (show ObjOk X.prog X.w _ _ _ (.lst _) from ⟨?_, acc'.toList, c', vals_signs hacc, ?_⟩), rfl, q _ (I.hok.fresh (Nat.le_refl _))⟩
  · rw [List.length_map, Array.length_toList]; exact hz
  · rw [Array.toArray_toList]; exact hS
def RevR (X : Cx) (r : V → Hp → VK → Prop) : Prop :=
  ∀ (pins : List (Addr × Obj)) (s : Shared) (σ : L2.St) (H : Hp) (x : V) (v vl vu vs : Value) (sl : Addr) (Q : VK), Inv X pins σ H s → RelV x v → s.heap.IsSliceOf sl vl vu vs → IsPart vl none → IsPart vu none → IsPart vs (some (-1)) → r x H Q →
    ∃ T id, typeLookup (.type T) "__getitem__" = pure (some (.builtin id)) ∧ s.TypeIs v T ∧ wpAny (model X.prog X.w) X.A (getItem v (.ref sl)) (EP X pins σ Q) X.xe s
theorem pe_rev {r : V → Hp → VK → Prop} (hr : RevR X r) {e : PySem.Expr} {te : TE} {k : Nat} {p1 p2 p3 pos : Pos} (he : PE X e te) :
    PE X (.Subscript e (.Slice none none (some (.UnaryOp .USub (.Constant (.int 1) k p1) p2)) p3) pos) (fun σ H Q => te σ H fun x H1 => r x H1 Q) := by
  refine ⟨fun pins s σ H Q I h => ?_⟩
  refine PyProof.Rows.Subscript_ (thn (he.run pins s σ H _ I h) fun v s1 ⟨x, H1, I1, r1, q1⟩ => ?_)
  have hst : PO X (some (.UnaryOp .USub (.Constant (.int 1) k p1) p2)) (tPart (tUn (rU fun i => .int (-i)) (tC (.int 1)))) := po_some (pe_un un_neg pe_int)
  refine wpAny_Slice (thn (po_none.run pins s1 σ H1 (fun o H2 => o = none ∧ H2 = H1) I1 ⟨rfl, rfl⟩) fun vl s2 ⟨l, H2, I2, pl, el, e2⟩ => ?_)
  subst el e2
  refine thn (po_none.run pins s2 σ H2 (fun o H3 => o = none ∧ H3 = H2) I2 ⟨rfl, rfl⟩) fun vu s3 ⟨u, H3, I3, pu, eu, e3⟩ => ?_
  subst eu e3
  refine thn (hst.run pins s3 σ H3 (fun o H4 => o = some (-1) ∧ H4 = H3) I3 ⟨1, rfl, -1, rfl, rfl, rfl⟩) fun vs s4 ⟨o, H4, I4, ps, eo, e4⟩ => ?_
  subst eo e4
  have I5 : Inv X pins σ H4 { s4 with heap := s4.heap.push { cls := .type "slice", data := .fields #[vl, vu, vs] } } := I4.kept (t' := s4.toks) fun b ob q => Heap.get?_push_of_some _ q
  obtain ⟨T, id, hT, ht, hg⟩ := hr pins _ σ H4 x v vl vu vs s4.heap.objs.size Q I5 r1 (Heap.IsSliceOf.new _ vl vu vs) pl pu ps q1
  exact PyProof.Rows.tail_any (ops := [v, .ref s4.heap.objs.size]) ht hT hg (by with_unfolding_all rfl)
theorem rev_list : RevR X (fun x H Q => ∃ a xs, x = .ref a ∧ SqL X.K H a xs ∧ ∀ p, H p = none → Q (.ref p) (upd H p (.lst xs.reverse))) := by
  intro pins s σ H x v vl vu vs sl Q I rx hs pl pu ps h
  obtain ⟨a, xs, rfl, hx, q⟩ := h
  cases rx
  obtain ⟨its, r, ht, hz⟩ := I.list hx
  have hlen := r.length
  refine ⟨"list", _, slot_list_getitem.lookup, ht.isList.typeIs, ?_⟩
  refine wpAny_getItem_list_slice ht.isList hs pl pu ps (by decide) ?_ (by rw [List.size_toArray]; omega)
  rw [PySem.W.krv_pick]
  refine ⟨.ref _, _, I.laid (t' := s.toks) (o := .lst xs.reverse) (fun b ob q => Heap.get?_push_of_some _ q) (Nat.le_refl _) ?_, rfl, q _ (I.hok.fresh (Nat.le_refl _))⟩
  exact ⟨by rw [List.length_reverse]; exact hz, _, 0, r.reverse, Heap.get?_push_size _ rfl⟩
theorem str_rev_ix (n : Nat) : Builtin.Str.strSliceIndices none none (-1) n = (List.range n).reverse := by
  unfold Builtin.Str.strSliceIndices
  simp only [show ¬ ((-1 : Int) > 0) by decide, if_false]
  rw [PySem.W.krv_sliceRange, PySem.W.krv_range]
theorem rev_str : RevR X (fun x H Q => ∃ z : Str, x = .str z ∧ z.length ≤ sizeLine ∧ Q (.str ⟨z.cps.toList.reverse.toArray⟩) H) := by
  intro pins s σ H x v vl vu vs sl Q I rx hs pl pu ps h
  obtain ⟨z, rfl, hz, q⟩ := h
  obtain ⟨t, rfl⟩ := rx
  obtain ⟨os, hos, hcs, hds⟩ := hs
  obtain ⟨l, rfl, el⟩ := IsPart.raw pl
  obtain ⟨u, rfl, eu⟩ := IsPart.raw pu
  obtain ⟨st, rfl, es⟩ := IsPart.raw ps
  refine ⟨"str", _, PySem.F.slot_str_getitem.lookup, typeIs_str _ _ _, ?_⟩
  have e1 : (st.map (·.1)).getD 1 = -1 := by rw [es]; rfl
  refine wpAny_getItem_str_slice (l := l) (u := u) (st := st) ⟨os, hos, hcs, hds⟩ (by rw [e1]; rfl) ?_
  unfold sliceMade slicePicked
  rw [e1, el, eu, str_rev_ix]
  rw [if_neg (by simp)]
  have e2 : ((List.range z.length).reverse.filterMap (z.cps[·]?)) = z.cps.toList.reverse := by
    rw [List.filterMap_reverse]
    congr 1
    exact PySem.W.krv_all z.cps
  rw [e2]
  exact ⟨by show (z.cps.toList.reverse.toArray).size ≤ _; rw [List.size_toArray, List.length_reverse, Array.length_toList]; exact hz, .str _, H, I.tok _, ⟨_, rfl⟩, q⟩
end
end TI
set_option Elab.async false
set_option linter.all false
set_option maxRecDepth 100000
set_option maxHeartbeats 1000000
namespace TI
open PySem PySem.Spec L2
section
variable {α : Type} {lt : α → α → Bool}
theorem ins1_perm (a : α) : ∀ l : List α, (ins1 lt a l).Perm (a :: l)
  | [] => .refl _
  | b :: l => by
    unfold ins1
    split
    · exact ((ins1_perm a l).cons b).trans (.swap a b l)
    · exact .refl _
theorem isort_perm : ∀ l : List α, (isort lt l).Perm l
  | [] => .refl _
  | a :: l => (ins1_perm a _).trans ((isort_perm l).cons a)
theorem isort_length (l : List α) : (isort lt l).length = l.length := (isort_perm l).length_eq
abbrev leB (lt : α → α → Bool) (a b : α) : Prop := lt b a = false
theorem ins1_pair (tot : ∀ a b, lt a b = true → lt b a = false) (tr : ∀ a b c, lt b a = false → lt c b = false → lt c a = false) (a : α) : ∀ l : List α, l.Pairwise (leB lt) → (ins1 lt a l).Pairwise (leB lt)
  | [], _ => by simp [ins1]
  | b :: l, h => by
    rw [List.pairwise_cons] at h
    unfold ins1
    by_cases hb : lt b a = true
    · rw [if_pos hb, List.pairwise_cons]
      refine ⟨fun c hc => ?_, ins1_pair tot tr a l h.2⟩
      rcases List.mem_cons.mp ((ins1_perm a l).mem_iff.mp hc) with e | hc
      · subst e; exact tot _ _ hb
      · exact h.1 c hc
    · rw [if_neg hb, List.pairwise_cons]
      have hb' : lt b a = false := by simpa using hb
      refine ⟨fun c hc => ?_, List.pairwise_cons.mpr h⟩
      rcases List.mem_cons.mp hc with e | hc
      · subst e; exact hb'
      · exact tr a b c hb' (h.1 c hc)
theorem isort_pair (tot : ∀ a b, lt a b = true → lt b a = false) (tr : ∀ a b c, lt b a = false → lt c b = false → lt c a = false) : ∀ l : List α, (isort lt l).Pairwise (leB lt)
  | [] => .nil
  | a :: l => ins1_pair tot tr a _ (isort_pair tot tr l)
theorem isort_only (tot : ∀ a b, lt a b = true → lt b a = false) (tr : ∀ a b c, lt b a = false → lt c b = false → lt c a = false) (anti : ∀ a b, lt a b = false → lt b a = false → a = b) {l r : List α}
    (hp : r.Perm l) (hr : r.Pairwise (leB lt)) : r = isort lt l :=
  List.Perm.eq_of_pairwise (le := leB lt) (fun a b _ _ h1 h2 => anti a b h2 h1) hr (isort_pair tot tr l) (hp.trans (isort_perm l).symm)
end
theorem ltI_tot (a b : Int) (h : decide (a < b) = true) : decide (b < a) = false := by simp at h ⊢; omega
theorem ltI_tr (a b c : Int) (h1 : decide (b < a) = false) (h2 : decide (c < b) = false) : decide (c < a) = false := by simp at h1 h2 ⊢; omega
theorem ltI_anti (a b : Int) (h1 : decide (a < b) = false) (h2 : decide (b < a) = false) : a = b := by simp at h1 h2; omega
theorem isortI_eq {l r : List Int} (hp : r.Perm l) (hr : r.Pairwise (· ≤ ·)) : r = isort (fun a b => decide (a < b)) l :=
  isort_only ltI_tot ltI_tr ltI_anti hp (hr.imp fun {a b} h => by simp [leB]; omega)
theorem ltC_tot : ∀ a b : List Char, ltC a b = true → ltC b a = false
  | [], [], h => by cases h
  | [], _ :: _, _ => rfl
  | _ :: _, [], h => by cases h
  | a :: l, b :: r, h => by
    simp only [ltC] at h ⊢
    by_cases h1 : a.toNat < b.toNat
    · rw [if_neg (by omega), if_pos h1]
    · rw [if_neg h1] at h
      by_cases h2 : b.toNat < a.toNat
      · rw [if_pos h2] at h; cases h
      · rw [if_neg h2] at h
        rw [if_neg h2, if_neg h1]
        exact ltC_tot l r h
theorem ltC_anti : ∀ a b : List Char, ltC a b = false → ltC b a = false → a = b
  | [], [], _, _ => rfl
  | [], _ :: _, h, _ => by cases h
  | _ :: _, [], _, h => by cases h
  | a :: l, b :: r, h, h' => by
    simp only [ltC] at h h'
    by_cases h1 : a.toNat < b.toNat
    · rw [if_pos h1] at h; cases h
    · by_cases h2 : b.toNat < a.toNat
      · rw [if_pos h2] at h'; cases h'
      · rw [if_neg h1, if_neg h2] at h
        rw [if_neg h2, if_neg h1] at h'
        rw [ltC_anti l r h h', Char.toNat_inj.mp (by omega : a.toNat = b.toNat)]
theorem ltC_tr : ∀ a b c : List Char, ltC b a = false → ltC c b = false → ltC c a = false
  | a, b, [], h1, h2 => by
    cases b with
    | nil => cases a with
      | nil => rfl
      | cons x l => cases h1
    | cons y r => cases h2
  | a, [], z :: s, h1, h2 => by
    cases a with
    | nil => rfl
    | cons x l => cases h1
  | [], y :: r, z :: s, h1, h2 => rfl
  | x :: l, y :: r, z :: s, h1, h2 => by
    simp only [ltC] at h1 h2 ⊢
    by_cases a1 : y.toNat < x.toNat
    · rw [if_pos a1] at h1; cases h1
    · rw [if_neg a1] at h1
      by_cases a2 : z.toNat < y.toNat
      · rw [if_pos a2] at h2; cases h2
      · rw [if_neg a2] at h2
        rw [if_neg (by omega)]
        by_cases a3 : x.toNat < z.toNat
        · rw [if_pos a3]
        · rw [if_neg a3]
          rw [if_neg (by omega)] at h1 h2
          exact ltC_tr l r s h1 h2
theorem sortedS_pair : ∀ {ys : List (List Char)}, PyProof.Rows.sortedS (ys.map encS) = true → ys.Pairwise (leB ltC)
  | [], _ => .nil
  | x :: r, h => by
    have go : ∀ (r : List (List Char)) (x : List Char), PyProof.Rows.risingS (encS x) (r.map encS) = true → (x :: r).Pairwise (leB ltC) := by
      intro r
      induction r with
      | nil => intro x _; simp
      | cons y r ih =>
        intro x h
        simp only [List.map_cons, PyProof.Rows.risingS, Bool.and_eq_true] at h
        have h2 := ih y h.2
        have hxy : ltC y x = false := by
          have := h.1
          rw [encS_list, encS_list, PyProof.Rows.ltCps_eq, ← ltC_iff] at this
          simpa using this
        rw [List.pairwise_cons] at h2 ⊢
        refine ⟨fun c hc => ?_, List.pairwise_cons.mpr h2⟩
        rcases List.mem_cons.mp hc with e | hc
        · subst e; exact hxy
        · exact ltC_tr _ _ _ hxy (h2.1 c hc)
    exact go r x h
theorem perm_enc {ys : List Str} {xs : List (List Char)} (h : ys.Perm (xs.map encS)) : ∃ zs : List (List Char), ys = zs.map encS ∧ zs.Perm xs := by
  have inv : ∀ y ∈ ys, ∃ x, y = encS x := fun y hy => by
    obtain ⟨x, _, e⟩ := List.mem_map.mp (h.mem_iff.mp hy)
    exact ⟨x, e.symm⟩
  obtain ⟨zs, rfl⟩ : ∃ zs : List (List Char), ys = zs.map encS := by
    clear h
    induction ys with
    | nil => exact ⟨[], rfl⟩
    | cons y r ih =>
      obtain ⟨x, rfl⟩ := inv y (List.mem_cons_self ..)
      obtain ⟨zs, rfl⟩ := ih fun z hz => inv z (List.mem_cons_of_mem _ hz)
      exact ⟨x :: zs, rfl⟩
  refine ⟨zs, rfl, ?_⟩
  have dec : ∀ l : List (List Char), (l.map encS).map (fun z => z.cps.toList.map Char.ofNat) = l := fun l => by
    rw [List.map_map]
    refine (List.map_congr_left fun x _ => ?_).trans (List.map_id l)
    show (encS x).cps.toList.map Char.ofNat = x
    rw [encS_list, List.map_map]
    refine (List.map_congr_left fun c _ => ?_).trans (List.map_id x)
    exact Char.ofNat_toNat c
  have := h.map fun z : Str => z.cps.toList.map Char.ofNat
  rwa [dec, dec] at this
theorem occ_go (x : Str) (c lim : Nat) : ∀ (l : List Nat) (acc : Array Nat) (free : Nat), acc.size ≤ lim → (∀ i ∈ l, free ≤ i) → l.Pairwise (· < ·) →
    (forIn l (acc, free) (StrLaws.occBody x ⟨#[c]⟩ x.length lim)).run.fst.toList = acc.toList ++ (l.filter fun i => x.cps.toList[i]? == some c).take (lim - acc.size)
  | [], acc, free, _, _, _ => by simp
  | a :: l, acc, free, hs, hf, hp => by
    rw [List.forIn_cons]
    rw [List.pairwise_cons] at hp
    unfold StrLaws.occBody
    have ha := hf a (List.mem_cons_self ..)
    by_cases hc : x.cps.toList[a]? = some c
    · have h1 := (StrLaws.subAt_one x c a).mpr hc
      have e1 : (x.cps.toList[a]? == some c) = true := by rw [hc]; simp
      by_cases hl : acc.size < lim
      · rw [if_pos ⟨⟨⟨hl, ha⟩, h1.1⟩, h1.2⟩]
        have ih := occ_go x c lim l (acc.push a) (a + 1) (by rw [Array.size_push]; omega) (fun i hi => by have := hp.1 i hi; omega) hp.2
        refine ih.trans ?_
        rw [show ((a :: l).filter fun i => x.cps.toList[i]? == some c) = a :: l.filter fun i => x.cps.toList[i]? == some c from List.filter_cons_of_pos e1]
        obtain ⟨m, hm⟩ : ∃ m, lim - acc.size = m + 1 := ⟨lim - acc.size - 1, by omega⟩
        rw [hm, List.take_succ_cons, Array.toList_push, Array.size_push, show lim - (acc.size + 1) = m by omega]
        simp
      · rw [if_neg fun z => hl z.1.1.1]
        have ih := occ_go x c lim l acc free hs (fun i hi => hf i (List.mem_cons_of_mem _ hi)) hp.2
        refine ih.trans ?_
        rw [show lim - acc.size = 0 by omega]; simp
    · rw [if_neg fun z => hc ((StrLaws.subAt_one x c a).mp ⟨z.1.2, z.2⟩)]
      have ih := occ_go x c lim l acc free hs (fun i hi => hf i (List.mem_cons_of_mem _ hi)) hp.2
      refine ih.trans ?_
      rw [show ((a :: l).filter fun i => x.cps.toList[i]? == some c) = l.filter fun i => x.cps.toList[i]? == some c from List.filter_cons_of_neg (by simpa using hc)]
theorem occ_one (x : Str) (c lim : Nat) : Builtin.Str.occurrences x ⟨#[c]⟩ 0 x.length lim = ((List.range' 0 (x.length + 1)).filter fun i => x.cps.toList[i]? == some c).take lim := by
  rw [StrLaws.occ_eq]
  refine (occ_go x c lim _ #[] 0 (Nat.zero_le _) (fun _ _ => Nat.zero_le _) ?_).trans (by simp)
  exact List.pairwise_lt_range' ..
theorem filter_places {α : Type} [DecidableEq α] (c : α) : ∀ (l : List α) (k : Nat), ((List.range' k (l.length + 1)).filter fun i => l[i - k]? == some c).length = (l.filter (· == c)).length ∧
    (c ∈ l → ∃ r, ((List.range' k (l.length + 1)).filter fun i => l[i - k]? == some c) = (k + l.idxOf c) :: r)
  | [], k => by simp [List.range']
  | a :: l, k => by
    obtain ⟨h1, h2⟩ := filter_places c l (k + 1)
    have e0 : List.range' k ((a :: l).length + 1) = k :: List.range' (k + 1) (l.length + 1) := by simp [List.range'_succ]
    have e1 : ((List.range' (k + 1) (l.length + 1)).filter fun i => (a :: l)[i - k]? == some c) = ((List.range' (k + 1) (l.length + 1)).filter fun i => l[i - (k + 1)]? == some c) := by
      refine List.filter_congr fun i hi => ?_
      have : k + 1 ≤ i := (List.mem_range'_1.mp hi).1
      rw [show i - k = (i - (k + 1)) + 1 by omega]
      rfl
    rw [e0]
    by_cases ha : a = c
    · subst ha
      rw [List.filter_cons_of_pos (by simp), e1]
      refine ⟨by simp [h1], fun _ => ⟨_, by rw [List.idxOf_cons_self]; rfl⟩⟩
    · rw [List.filter_cons_of_neg (by simpa using ha), e1]
      refine ⟨by simp [ha, h1], fun hm => ?_⟩
      have hm' : c ∈ l := by
        rcases List.mem_cons.mp hm with z | z
        · exact absurd z.symm ha
        · exact z
      obtain ⟨r, hr⟩ := h2 hm'
      refine ⟨r, ?_⟩
      rw [hr]
      have : (a :: l).idxOf c = l.idxOf c + 1 := by
        rw [List.idxOf_cons]
        have : (a == c) = false := by simpa using ha
        rw [this]; rfl
      rw [this]
      congr 1
      omega
theorem map_at (l : List Char) (c : Char) (i : Nat) : ((l.map Char.toNat)[i]? == some c.toNat) = (l[i]? == some c) := by
  rw [List.getElem?_map]
  cases l[i]? with
  | none => rfl
  | some d =>
    show (some d.toNat == some c.toNat) = (some d == some c)
    by_cases h : d = c
    · subst h; simp
    · have : d.toNat ≠ c.toNat := fun z => h (Char.toNat_inj.mp z)
      rw [Option.some_beq_some, Option.some_beq_some, beq_eq_false_iff_ne.mpr h, beq_eq_false_iff_ne.mpr this]
theorem occ_enc (l : List Char) (c : Char) (lim : Nat) : Builtin.Str.occurrences (encS l) (encS [c]) 0 (encS l).length lim = ((List.range' 0 (l.length + 1)).filter fun i => l[i - 0]? == some c).take lim := by
  rw [encS_one, occ_one, encS_list, encS_len]
  congr 1
  refine List.filter_congr fun i _ => ?_
  exact map_at l c i
theorem count_enc (l : List Char) (c : Char) : Txt.count (encS l) (encS [c]) = (countC l c : Nat) := by
  unfold Txt.count
  rw [occ_enc, encS_len, List.length_take, (filter_places c l 0).1]
  have : (l.filter (· == c)).length ≤ l.length := List.length_filter_le ..
  unfold countC
  rw [Nat.min_eq_right (by omega)]
theorem index_enc {l : List Char} {c : Char} (h : c ∈ l) : ∃ r, Builtin.Str.occurrences (encS l) (encS [c]) 0 (encS l).length 1 = (l.idxOf c) :: r := by
  obtain ⟨r, hr⟩ := (filter_places c l 0).2 h
  rw [occ_enc, hr]
  exact ⟨[], by simp⟩
theorem upC_nat (c : Char) : (upC c).toNat = PyProof.Rows.up1 c.toNat := by
  unfold upC PyProof.Rows.up1
  have e : ('a' ≤ c ∧ c ≤ 'z') ↔ (97 ≤ c.toNat ∧ c.toNat ≤ 122) := Iff.rfl
  by_cases h : 'a' ≤ c ∧ c ≤ 'z'
  · rw [if_pos h, if_pos (e.mp h)]
    have h2 := e.mp h
    have hv : (c.toNat - 32).isValidChar := .inl (by omega)
    unfold Char.ofNat
    rw [dif_pos hv]; rfl
  · rw [if_neg h, if_neg fun z => h (e.mpr z)]
theorem loC_nat (c : Char) : (loC c).toNat = PyProof.Rows.lo1 c.toNat := by
  unfold loC PyProof.Rows.lo1
  have e : ('A' ≤ c ∧ c ≤ 'Z') ↔ (65 ≤ c.toNat ∧ c.toNat ≤ 90) := Iff.rfl
  by_cases h : 'A' ≤ c ∧ c ≤ 'Z'
  · rw [if_pos h, if_pos (e.mp h)]
    have h2 := e.mp h
    have hv : (c.toNat + 32).isValidChar := .inl (by omega)
    unfold Char.ofNat
    rw [dif_pos hv]; rfl
  · rw [if_neg h, if_neg fun z => h (e.mpr z)]
theorem ascii_enc {l : List Char} (h : l.all asciiC = true) : ∀ c ∈ (encS l).cps.toList, c < 128 := by
  rw [encS_list]
  intro n hn
  obtain ⟨c, hc, rfl⟩ := List.mem_map.mp hn
  simpa [asciiC] using List.all_eq_true.mp h c hc
theorem upper_enc {l : List Char} (h : l.all asciiC = true) : Txt.upper (encS l) = encS (l.map upC) := by
  rw [PyProof.Rows.upper_ascii (ascii_enc h)]
  simp [encS, upC_nat]
theorem lower_enc {l : List Char} (h : l.all asciiC = true) : Txt.lower (encS l) = encS (l.map loC) := by
  rw [PyProof.Rows.lower_ascii (ascii_enc h)]
  simp [encS, loC_nat]
theorem join_enc (xs : List (List Char)) : Txt.join (encS []) (xs.map encS) = encS xs.flatten := by
  unfold Txt.join
  rw [StrLaws.glued_eq_join]
  have e0 : ∀ a b : Str, a ++ encS [] ++ b = a ++ b := fun a b => by
    show (⟨(a.cps ++ (#[] : Array Nat)) ++ b.cps⟩ : Str) = ⟨a.cps ++ b.cps⟩
    simp
  induction xs with
  | nil => rfl
  | cons x r ih =>
    cases r with
    | nil => simp [Str.join]
    | cons y r =>
      rw [List.flatten_cons, encS_append, ← ih]
      simp only [List.map_cons, Str.join]
      rw [e0]
def TopL (W : Wd) (H G : Hp) : List D → List V → Prop
  | [], vs => vs = []
  | d :: l, vs => ∃ v r, vs = v :: r ∧ Top W H G d v ∧ TopL W H G l r
def rTru (W : Wd) : V → Hp → (Bool → Hp → Prop) → Prop := fun x H Q => ∃ G d b, Sub G H ∧ Top W H G d x ∧ tru d = some b ∧ Q b H
def rCall (W : Wd) (fr : Bool) (f : List D → Option D) : List V → Hp → VK → Prop := fun xs H Q => ∃ G ds d, Sub G H ∧ TopL W H G ds xs ∧ f ds = some d ∧ OpQ W fr H G d Q
def rMeth (W : Wd) (f : D → List D → Option D) : V → List V → Hp → VK → Prop := fun x xs H Q => ∃ G p ds d, Sub G H ∧ Top W H G p x ∧ TopL W H G ds xs ∧ f p ds = some d ∧ OpQ W false H G d Q
section
variable {W : Wd} {X : Cx} {G H : Hp}
theorem TopL.nil_ {vs : List V} (h : TopL W H G [] vs) : vs = [] := h
theorem TopL.one {d : D} {vs : List V} (h : TopL W H G [d] vs) : ∃ v, vs = [v] ∧ Top W H G d v := by
  obtain ⟨v, r, rfl, a, b⟩ := h
  cases (show r = [] from b)
  exact ⟨v, rfl, a⟩
theorem TopL.two {d e : D} {vs : List V} (h : TopL W H G [d, e] vs) : ∃ v w, vs = [v, w] ∧ Top W H G d v ∧ Top W H G e w := by
  obtain ⟨v, r, rfl, a, b⟩ := h
  obtain ⟨w, rfl, c⟩ := TopL.one b
  exact ⟨v, w, rfl, a, c⟩
theorem neg_ok : UnR X (unaryOp .USub) (fun x H Q => ∃ i, x = .int i ∧ Q (.int (-i)) H) := un_neg
theorem isEmpty_len {α β : Type} {l : List α} {r : List β} (h : r.length = l.length) : r.isEmpty = l.isEmpty := by
  cases l with
  | nil => cases r with
    | nil => rfl
    | cons _ _ => cases h
  | cons _ _ => cases r with
    | nil => cases h
    | cons _ _ => rfl
theorem Top.truV {K : PySem.W.Frag} (hK : W.K = K) {d : D} {x : V} {b : Bool} (sub : Sub G H) (t : Top W H G d x) (e : tru d = some b) : TruV K x H b := by
  cases d with
  | non => cases t.non; cases e; rfl
  | bl c => cases t.bl; cases e; rfl
  | int i => cases t.int; cases e; rfl
  | str l =>
    cases t.str
    simp only [tru] at e
    split at e
    · rename_i hl
      cases e
      refine ⟨by rw [encS_len, ← lim_eq]; exact hl, ?_⟩
      rw [encS_len]
      cases l with
      | nil => rfl
      | cons c l => simp; omega
    · cases e
  | lst l =>
    obtain ⟨a, vs, rfl, hH, hl⟩ := t.lst
    cases e
    exact .inl ⟨vs, SqL.of hH, by rw [isEmpty_len hl.length]⟩
  | tup l =>
    obtain ⟨a, vs, rfl, hH, _, hl⟩ := t.tup
    cases e
    exact .inr (.inl ⟨vs, by rw [← hK]; exact sub.sqT hH, by rw [isEmpty_len hl.length]⟩)
  | dk l =>
    obtain ⟨a, vs, rfl, hH, hl⟩ := t.dk
    cases e
    exact .inr (.inr ⟨vs, hH, by rw [isEmpty_len hl.length]⟩)
  | _ => cases e
theorem tru_okD (hK : W.K = X.K) : TruR X (rTru W) := by
  intro pins s σ H x v Q I rx h
  obtain ⟨G, d, b, sub, t, e, q⟩ := h
  exact tru_ok pins s σ H x v Q I rx ⟨b, t.truV hK sub e, q⟩
def bfV : BF → Value
  | .len => .builtin "len" | .list => .type "list" | .tuple => .type "tuple" | .sorted => .builtin "sorted" | .sum => .builtin "sum"
  | .min1 => .builtin "min" | .max1 => .builtin "max" | .min2 => .builtin "min" | .max2 => .builtin "max" | .abs => .builtin "abs" | .int => .type "int"
  | .str => .type "str" | .repr => .builtin "repr" | .any => .builtin "any" | .all => .builtin "all" | .dict => .type "dict"
  | .sortedset => .none | .lenset => .none
def bfN : BF → Str
  | .len => "len" | .list => "list" | .tuple => "tuple" | .sorted => "sorted" | .sum => "sum"
  | .min1 => "min" | .max1 => "max" | .min2 => "min" | .max2 => "max" | .abs => "abs" | .int => "int"
  | .str => "str" | .repr => "repr" | .any => "any" | .all => "all" | .dict => "dict"
  | .sortedset => "sorted" | .lenset => "len"
def bfFr : BF → Bool
  | .list => true | .sorted => true | .dict => true | .sortedset => true
  | _ => false
theorem ref_of_top {d : D} {v : V} (h : Top W H G d v) : True := trivial
theorem call_len_D (hK : W.K = X.K) : CallR X (.builtin "len") (rCall W false (bfD .len)) := by
  intro pins s σ H xs us Q I rs h
  obtain ⟨G, ds, d, sub, t, e, q⟩ := h
  match ds, t, e with
  | [], _, e => cases e
  | [x], t, e =>
    obtain ⟨v, rfl, t1⟩ := TopL.one t
    cases x with
    | lst l =>
      obtain ⟨a, vs, rfl, hH, hl⟩ := t1.lst
      cases (show some (D.int l.length) = some d from e)
      exact call_len_seq pins s σ H _ us Q I rs ⟨a, vs, rfl, .inl (SqL.of hH), by rw [hl.length]; exact q.of rfl (den_int _)⟩
    | tup l =>
      obtain ⟨a, vs, rfl, hH, _, hl⟩ := t1.tup
      cases (show some (D.int l.length) = some d from e)
      exact call_len_seq pins s σ H _ us Q I rs ⟨a, vs, rfl, .inr (by rw [← hK]; exact sub.sqT hH), by rw [hl.length]; exact q.of rfl (den_int _)⟩
    | scr l =>
      obtain ⟨a, rfl, hH⟩ := t1.scr
      cases (show some (D.int l.length) = some d from e)
      exact call_len_seq pins s σ H _ us Q I rs ⟨a, _, rfl, .inl (by rw [← hK]; exact hH), by rw [List.length_map]; exact q.of rfl (den_int _)⟩
    | str l =>
      cases t1.str
      simp only [bfD] at e
      split at e
      · rename_i hl
        cases e
        exact call_len_str pins s σ H _ us Q I rs ⟨_, rfl, by rw [encS_len, ← lim_eq]; exact hl, by rw [encS_len]; exact q.of rfl (den_int _)⟩
      · cases e
    | dk l =>
      obtain ⟨a, vs, rfl, hH, hl⟩ := t1.dk
      cases (show some (D.int l.length) = some d from e)
      obtain ⟨u, rfl, rx⟩ := vals1 rs
      cases rx
      exact d_len I (.inl hH) fun t' s' I' => ⟨.int vs.length, H, I', ⟨t', rfl⟩, by rw [hl.length]; exact q.of rfl (den_int _)⟩
    | _ => cases (show (none : Option D) = some d from e)
  | x :: y :: r, _, e => cases x <;> cases (show (none : Option D) = some d from e)
theorem call_list_D (hK : W.K = X.K) (hc : X.calm = true) : CallR X (.type "list") (rCall W true (bfD .list)) := by
  intro pins s σ H xs us Q I rs h
  obtain ⟨G, ds, d, sub, t, e, q⟩ := h
  match ds, t, e with
  | [], _, e => cases e
  | [x], t, e =>
    obtain ⟨v, rfl, t1⟩ := TopL.one t
    cases x with
    | lst l =>
      obtain ⟨a, vs, rfl, hH, hl⟩ := t1.lst
      cases (show some (D.lst l) = some d from e)
      exact call_list_of pins s σ H _ us Q I rs ⟨a, vs, rfl, .inl (SqL.of hH), q.new_lst hl⟩
    | tup l =>
      obtain ⟨a, vs, rfl, hH, _, hl⟩ := t1.tup
      cases (show some (D.lst l) = some d from e)
      exact call_list_of pins s σ H _ us Q I rs ⟨a, vs, rfl, .inr (by rw [← hK]; exact sub.sqT hH), q.new_lst hl⟩
    | str l =>
      cases t1.str
      simp only [bfD] at e
      split at e
      · rename_i hl
        cases e
        refine call_list_str hc pins s σ H _ us Q I rs ⟨_, rfl, by rw [encS_len, ← lim_eq]; exact hl, q.new_lst ?_⟩
        rw [encS_list, List.map_map]
        exact DenL.ofMap (f := fun c => D.str [c]) (fun c => den_str [c]) l
      · cases e
    | _ => cases (show (none : Option D) = some d from e)
  | x :: y :: r, _, e => cases x <;> cases (show (none : Option D) = some d from e)
theorem call_tuple_D (hK : W.K = X.K) : CallR X (.type "tuple") (rCall W false (bfD .tuple)) := by
  intro pins s σ H xs us Q I rs h
  obtain ⟨G, ds, d, sub, t, e, q⟩ := h
  match ds, t, e with
  | [], _, e => cases e
  | [x], t, e =>
    obtain ⟨v, rfl, t1⟩ := TopL.one t
    cases x with
    | lst l =>
      obtain ⟨a, vs, rfl, hH, hl⟩ := t1.lst
      cases (show some (D.tup l) = some d from e)
      exact call_tuple_of pins s σ H _ us Q I rs ⟨a, vs, rfl, .inl ⟨SqL.of hH, q.new_tup hl⟩⟩
    | tup l =>
      obtain ⟨a, vs, rfl, hH, hn, hl⟩ := t1.tup
      cases (show some (D.tup l) = some d from e)
      exact call_tuple_of pins s σ H _ us Q I rs ⟨a, vs, rfl, .inr ⟨by rw [← hK]; exact sub.sqT hH, q.of rfl (den_tupT hH hn hl)⟩⟩
    | _ => cases (show (none : Option D) = some d from e)
  | x :: y :: r, _, e => cases x <;> cases (show (none : Option D) = some d from e)
theorem call_sorted_D : CallR X (.builtin "sorted") (rCall W true (bfD .sorted)) := by
  intro pins s σ H xs us Q I rs h
  obtain ⟨G, ds, d, sub, t, e, q⟩ := h
  match ds, t, e with
  | [], _, e => cases e
  | [x], t, e =>
    obtain ⟨v, rfl, t1⟩ := TopL.one t
    cases x with
    | lst l =>
      obtain ⟨a, vs, rfl, hH, hl⟩ := t1.lst
      have e : sortL l = some d := e
      unfold sortL at e
      split at e
      · rename_i h64
        cases e1 : intL l with
        | some ns =>
          rw [e1] at e
          cases e
          have el := intL_eq e1
          subst el
          cases hl.intL
          rw [List.length_map] at h64
          refine cr_sorted pins s σ H _ us Q I rs ⟨a, ns, rfl, SqL.of hH, h64, fun ns' p hp hs hn => ?_⟩
          rw [isortI_eq hp hs]
          exact q.new_lst (DenL.ofMap (fun i => den_int i) _) p hn
        | none =>
          rw [e1] at e
          cases e2 : strL l with
          | none => rw [e2] at e; cases e
          | some ys =>
            rw [e2] at e
            cases e
            have el := strL_eq e2
            subst el
            cases hl.strL
            rw [List.length_map] at h64
            refine cr_sortedS pins s σ H _ us Q I rs ⟨a, ys.map encS, rfl, SqL.of hH, by rw [List.length_map]; exact h64, fun zs p hp hs hn => ?_⟩
            obtain ⟨ws, rfl, hw⟩ := perm_enc hp
            rw [isort_only ltC_tot ltC_tr ltC_anti hw (sortedS_pair hs)]
            rw [List.map_map]
            exact q.new_lst (DenL.ofMap (f := D.str) (fun i => den_str i) _) p hn
      · cases e
    | _ => cases (show (none : Option D) = some d from e)
  | x :: y :: r, _, e => cases x <;> cases (show (none : Option D) = some d from e)
theorem maxI_ok : ∀ {ns : List Int}, ns ≠ [] → maxI ns ∈ ns ∧ ∀ y, y ∈ ns → y ≤ maxI ns
  | [], h => absurd rfl h
  | [a], _ => by simp [maxI]
  | a :: b :: l, _ => by
    obtain ⟨h1, h2⟩ := maxI_ok (ns := b :: l) (by simp)
    simp only [maxI]
    refine ⟨?_, fun y hy => ?_⟩
    · by_cases h : a ≤ maxI (b :: l)
      · rw [Int.max_eq_right h]; exact List.mem_cons_of_mem _ h1
      · rw [Int.max_eq_left (by omega)]; exact List.mem_cons_self ..
    · rcases List.mem_cons.mp hy with rfl | hy
      · exact Int.le_max_left ..
      · exact Int.le_trans (h2 y hy) (Int.le_max_right ..)
theorem minI_ok : ∀ {ns : List Int}, ns ≠ [] → minI ns ∈ ns ∧ ∀ y, y ∈ ns → minI ns ≤ y
  | [], h => absurd rfl h
  | [a], _ => by simp [minI]
  | a :: b :: l, _ => by
    obtain ⟨h1, h2⟩ := minI_ok (ns := b :: l) (by simp)
    simp only [minI]
    refine ⟨?_, fun y hy => ?_⟩
    · by_cases h : a ≤ minI (b :: l)
      · rw [Int.min_eq_left h]; exact List.mem_cons_self ..
      · rw [Int.min_eq_right (by omega)]; exact List.mem_cons_of_mem _ h1
    · rcases List.mem_cons.mp hy with rfl | hy
      · exact Int.min_le_left ..
      · exact Int.le_trans (Int.min_le_right ..) (h2 y hy)
theorem call_ints_D {f : Value} {r : List V → Hp → VK → Prop} {g : List Int → Option D} {ff : List D → Option D} (hr : CallR X f r) (hff : ∀ ds d, ff ds = some d → ∃ l ns, ds = [.lst l] ∧ intL l = some ns ∧ g ns = some d)
    (hg : ∀ (a : Addr) (ns : List Int) (d : D) (H G : Hp) (Q : VK), H a = some (.lst (ns.map V.int)) → g ns = some d → OpQ W false H G d Q → r [.ref a] H Q) : CallR X f (rCall W false ff) := by
  intro pins s σ H xs us Q I rs h
  obtain ⟨G, ds, d, sub, t, e, q⟩ := h
  obtain ⟨l, ns, rfl, e1, e2⟩ := hff ds d e
  obtain ⟨v, rfl, t1⟩ := TopL.one t
  obtain ⟨a, vs, rfl, hH, hl⟩ := t1.lst
  have el := intL_eq e1
  subst el
  cases hl.intL
  exact hr pins s σ H _ us Q I rs (hg a ns d H G Q hH e2 q)
theorem bf1 {f : List Int → Option D} {ff : List D → Option D} (h0 : ff [] = none) (h1 : ∀ x, ff [x] = match x with
    | .lst l => (intL l).bind f
    | _ => none) (h2 : ∀ x y r, ff (x :: y :: r) = none) : ∀ ds d, ff ds = some d → ∃ l ns, ds = [.lst l] ∧ intL l = some ns ∧ f ns = some d := by
  intro ds d e
  match ds, e with
  | [], e => rw [h0] at e; cases e
  | [x], e =>
    rw [h1] at e
    cases x with
    | lst l =>
      obtain ⟨ns, a, b⟩ := Option.bind_eq_some_iff.mp e
      exact ⟨l, ns, rfl, a, b⟩
    | _ => cases e
  | x :: y :: r, e => rw [h2] at e; cases e
theorem call_sum_D (hc : X.calm = true) : CallR X (.builtin "sum") (rCall W false (bfD .sum)) :=
  call_ints_D (g := fun ns => some (.int ns.sum)) (cr_sum hc) (bf1 rfl (fun x => by cases x <;> simp [bfD, Option.map_eq_bind, Function.comp_def]) (fun x y r => by cases x <;> rfl)) fun a ns d H G Q hH e q => by
    cases e
    exact ⟨a, ns, rfl, SqL.of hH, q.of rfl (den_int _)⟩
theorem call_max1_D (hc : X.calm = true) : CallR X (.builtin "max") (rCall W false (bfD .max1)) :=
  call_ints_D (g := fun ns => if ns = [] then none else some (.int (maxI ns))) (cr_max hc) (bf1 rfl (fun x => by cases x <;> rfl) (fun x y r => by cases x <;> rfl)) fun a ns d H G Q hH e q => by
    split at e
    · cases e
    · rename_i hn
      cases e
      refine ⟨a, ns, rfl, SqL.of hH, List.length_pos_iff.mpr hn, fun m h1 h2 => ?_⟩
      obtain ⟨h3, h4⟩ := maxI_ok hn
      rw [Int.le_antisymm (h4 m h1) (h2 _ h3)]
      exact q.of rfl (den_int _)
theorem call_min1_D (hc : X.calm = true) : CallR X (.builtin "min") (rCall W false (bfD .min1)) :=
  call_ints_D (g := fun ns => if ns = [] then none else some (.int (minI ns))) (cr_min hc) (bf1 rfl (fun x => by cases x <;> rfl) (fun x y r => by cases x <;> rfl)) fun a ns d H G Q hH e q => by
    split at e
    · cases e
    · rename_i hn
      cases e
      refine ⟨a, ns, rfl, SqL.of hH, List.length_pos_iff.mpr hn, fun m h1 h2 => ?_⟩
      obtain ⟨h3, h4⟩ := minI_ok hn
      rw [Int.le_antisymm (h2 _ h3) (h4 m h1)]
      exact q.of rfl (den_int _)
end
end TI
set_option Elab.async false
set_option linter.all false
set_option maxRecDepth 100000
set_option maxHeartbeats 1000000
namespace TI
open PySem PySem.Spec L2
section
variable {W : Wd} {X : Cx} {G H : Hp}
theorem call_1_D {f : Value} {r : List V → Hp → VK → Prop} {ff : List D → Option D} (hr : CallR X f r) (h0 : ff [] = none) (h2 : ∀ x y r, ff (x :: y :: r) = none)
    (hg : ∀ (x d : D) (v : V) (H G : Hp) (Q : VK), Sub G H → Top W H G x v → ff [x] = some d → OpQ W false H G d Q → r [v] H Q) : CallR X f (rCall W false ff) := by
  intro pins s σ H xs us Q I rs h
  obtain ⟨G, ds, d, sub, t, e, q⟩ := h
  match ds, t, e with
  | [], _, e => rw [h0] at e; cases e
  | [x], t, e =>
    obtain ⟨v, rfl, t1⟩ := TopL.one t
    exact hr pins s σ H _ us Q I rs (hg x d v H G Q sub t1 e q)
  | x :: y :: r, _, e => rw [h2] at e; cases e
theorem call_abs_D : CallR X (.builtin "abs") (rCall W false (bfD .abs)) := by
  refine call_1_D call_abs rfl (fun x y r => by cases x <;> rfl) fun x d v H G Q sub t e q => ?_
  cases x with
  | int i => cases t.int; cases (show some (D.int (if i < 0 then -i else i)) = some d from e); exact ⟨i, rfl, q.of rfl (den_int _)⟩
  | _ => cases (show (none : Option D) = some d from e)
theorem call_int_D : CallR X (.type "int") (rCall W false (bfD .int)) := by
  refine call_1_D call_int1 rfl (fun x y r => by cases x <;> rfl) fun x d v H G Q sub t e q => ?_
  cases x with
  | int i => cases t.int; cases (show some (D.int i) = some d from e); exact .inl ⟨i, rfl, q.of rfl (den_int _)⟩
  | bl b => cases t.bl; cases (show some (D.int (if b then 1 else 0)) = some d from e); exact .inr ⟨b, rfl, q.of rfl (den_int _)⟩
  | _ => cases (show (none : Option D) = some d from e)
theorem call_any_D (hc : X.calm = true) : CallR X (.builtin "any") (rCall W false (bfD .any)) := by
  refine call_1_D (cr_any hc) rfl (fun x y r => by cases x <;> rfl) fun x d v H G Q sub t e q => ?_
  cases x with
  | lst l =>
    obtain ⟨a, vs, rfl, hH, hl⟩ := t.lst
    obtain ⟨bs, e1, rfl⟩ := Option.map_eq_some_iff.mp (show (boolL l).map (fun bs => D.bl (bs.any id)) = some d from e)
    have el := boolL_eq e1
    subst el
    cases hl.boolL
    exact ⟨a, bs, rfl, SqL.of hH, q.of rfl (den_bl _)⟩
  | _ => cases (show (none : Option D) = some d from e)
theorem call_all_D (hc : X.calm = true) : CallR X (.builtin "all") (rCall W false (bfD .all)) := by
  refine call_1_D (cr_all hc) rfl (fun x y r => by cases x <;> rfl) fun x d v H G Q sub t e q => ?_
  cases x with
  | lst l =>
    obtain ⟨a, vs, rfl, hH, hl⟩ := t.lst
    obtain ⟨bs, e1, rfl⟩ := Option.map_eq_some_iff.mp (show (boolL l).map (fun bs => D.bl (bs.all id)) = some d from e)
    have el := boolL_eq e1
    subst el
    cases hl.boolL
    exact ⟨a, bs, rfl, SqL.of hH, q.of rfl (den_bl _)⟩
  | _ => cases (show (none : Option D) = some d from e)
theorem call_2I_D {f : Value} {r : List V → Hp → VK → Prop} {ff : List D → Option D} {g : Int → Int → Int} (hr : CallR X f r) (hff : ∀ ds d, ff ds = some d → ∃ a b, ds = [.int a, .int b] ∧ d = .int (g a b))
    (hg : ∀ (a b : Int) (H : Hp) (Q : VK), Q (.int (g a b)) H → r [.int a, .int b] H Q) : CallR X f (rCall W false ff) := by
  intro pins s σ H xs us Q I rs h
  obtain ⟨G, ds, d, sub, t, e, q⟩ := h
  obtain ⟨a, b, rfl, rfl⟩ := hff ds d e
  obtain ⟨v, w, rfl, t1, t2⟩ := TopL.two t
  cases t1.int; cases t2.int
  exact hr pins s σ H _ us Q I rs (hg a b H Q (q.of rfl (den_int _)))
theorem two_ints {ff : List D → Option D} {g : Int → Int → Int} (h : ∀ ds, ff ds = match ds with
    | [.int a, .int b] => some (.int (g a b))
    | _ => none) : ∀ ds d, ff ds = some d → ∃ a b, ds = [.int a, .int b] ∧ d = .int (g a b) := by
  intro ds d e
  rw [h] at e
  split at e
  · cases e; exact ⟨_, _, rfl, rfl⟩
  · cases e
theorem call_max2_D (hc : X.calm = true) : CallR X (.builtin "max") (rCall W false (bfD .max2)) := by
  refine call_2I_D (g := fun i j => if j > i then j else i) (call_max2 hc) (two_ints fun ds => ?_) fun a b H Q q => ⟨a, b, rfl, q⟩
  unfold bfD; split <;> simp_all
theorem call_min2_D (hc : X.calm = true) : CallR X (.builtin "min") (rCall W false (bfD .min2)) := by
  refine call_2I_D (g := fun i j => if j < i then j else i) (call_min2 hc) (two_ints fun ds => ?_) fun a b H Q q => ⟨a, b, rfl, q⟩
  unfold bfD; split <;> simp_all
theorem call_no {f : Value} {fr : Bool} {ff : List D → Option D} (h : ∀ ds, ff ds = none) : CallR X f (rCall W fr ff) := by
  intro pins s σ H xs us Q I rs z
  obtain ⟨G, ds, d, sub, t, e, q⟩ := z
  rw [h] at e; cases e
theorem call_repr_D (hK : W.K = X.K) (hg : X.A.guards = some []) (hu : X.A.units + 100 < cLine) : CallR X (.builtin "repr") (rCall W false (bfD .repr)) := by
  intro pins s σ H xs us Q I rs h
  obtain ⟨G, ds, d, sub, t, e, q⟩ := h
  match ds, t, e with
  | [], _, e => cases (show (none : Option D) = some d from e)
  | x :: y :: r, _, e => cases (show (none : Option D) = some d from by cases x <;> exact e)
  | [x], t, e =>
    obtain ⟨v, rfl, t1⟩ := TopL.one t
    obtain ⟨z, e1, rfl⟩ := Option.map_eq_some_iff.mp (show (reprD x).map D.str = some d from e)
    unfold reprD at e1
    split at e1
    · rename_i hz
      cases e1
      simp only [Bool.and_eq_true, decide_eq_true_eq] at hz
      obtain ⟨⟨⟨⟨p1, p2⟩, p3⟩, p4⟩, p5⟩ := hz
      obtain ⟨u, rfl, ru⟩ : ∃ u, us = [u] ∧ RelV v u := by
        cases rs with
        | cons r rs => cases rs; exact ⟨_, rfl, r⟩
      obtain ⟨as, rd⟩ := Dp.reads I _ v u (t1.dp hK sub p1) ru
      have hd : (toPy x).depth ≤ 60 := Nat.le_trans (depth_toPy x) p2
      have hz : (toPy x).shown.length ≤ sizeLine := Nat.le_trans p4 (by decide)
      have hq : Q (.str (toPy x).shown) H := by rw [← p5]; exact q.of rfl (den_str _)
      have no : (toPy x).hasDict = true → sysModules ∉ as := PySem.PyData.noDict_hsm (PyData.hasDict_of_canLay _ (canLay_toPy _ p1))
      cases x with
      | non => cases t1.non; cases ru; exact PySem.P.repr_of_none ⟨.str _, H, I.tok _, ⟨_, rfl⟩, by simpa only [toPy, PyData.shown] using hq⟩
      | bl b => cases t1.bl; cases ru; exact PySem.P.repr_of_bool ⟨.str _, H, I.tok _, ⟨_, rfl⟩, by simpa only [toPy, PyData.shown] using hq⟩
      | int b => cases t1.int; obtain ⟨tk, rfl⟩ := ru; exact PySem.P.repr_of_int (by simpa [toPy, PyData.showable] using p3) ⟨.str _, H, I.tok _, ⟨_, rfl⟩, by simpa only [toPy, PyData.shown] using hq⟩
      | str b => cases t1.str; obtain ⟨tk, rfl⟩ := ru; exact PySem.P.repr_of_str ⟨.str _, H, I.tok _, ⟨_, rfl⟩, by simpa only [toPy, PyData.shown] using hq⟩ (by simpa only [toPy, PyData.shown] using hz)
      | lst l =>
        obtain ⟨a, vs, rfl, hH, hl⟩ := t1.lst
        cases ru
        exact PySem.repr_of_reads' rd p3 no hg (by omega) (fun _ _ e => e) (fun h' u tk hk => ⟨.str _, H, I.kept hk, ⟨_, rfl⟩, hq⟩) hz
      | tup l =>
        obtain ⟨a, vs, rfl, hH, _, hl⟩ := t1.tup
        cases ru
        exact PySem.repr_of_reads' rd p3 no hg (by omega) (fun _ _ e => e) (fun h' u tk hk => ⟨.str _, H, I.kept hk, ⟨_, rfl⟩, hq⟩) hz
      | _ => simp [plainD] at p1
    · cases e1
def bfSet : BF → Bool
  | .sortedset => true | .lenset => true
  | _ => false
theorem call_ok (hK : W.K = X.K) (hc : X.calm = true) (hg : X.A.guards = some []) (hu : X.A.units + 100 < cLine) (f : BF) (hf : bfSet f = false) : CallR X (bfV f) (rCall W (bfFr f) (bfD f)) := by
  cases f with
  | len => exact call_len_D hK
  | list => exact call_list_D hK hc
  | tuple => exact call_tuple_D hK
  | sorted => exact call_sorted_D
  | sum => exact call_sum_D hc
  | min1 => exact call_min1_D hc
  | max1 => exact call_max1_D hc
  | min2 => exact call_min2_D hc
  | max2 => exact call_max2_D hc
  | abs => exact call_abs_D
  | int => exact call_int_D
  | str => exact call_no fun ds => by unfold bfD; split <;> simp_all
  | repr => exact call_repr_D hK hg hu
  | any => exact call_any_D hc
  | all => exact call_all_D hc
  | dict => exact call_no fun ds => by unfold bfD; split <;> simp_all
  | sortedset => cases hf
  | lenset => cases hf
def bmN : BM → Str
  | .join => "join" | .count => "count" | .index => "index" | .upper => "upper" | .lower => "lower"
theorem meth_join : MtR X "str.join" (rMeth W joinD) := by
  intro pins s σ H x xs v us Q I rx rs h
  obtain ⟨G, p, ds, d, sub, tp, t, e, q⟩ := h
  unfold joinD at e
  split at e
  · split at e
    · split at e
      · obtain ⟨w, rfl, t1⟩ := TopL.one t
        obtain ⟨a, vs, rfl, hH, hl⟩ := t1.lst
        obtain ⟨ys, e1, e2⟩ := Option.bind_eq_some_iff.mp e
        have el := strL_eq e1
        subst el
        cases hl.strL
        cases tp.str
        split at e2
        · rename_i hz
          cases e2
          refine mt_join pins s σ H _ _ v us Q I rx rs ⟨encS [], a, ys.map encS, rfl, rfl, .inl (SqL.of hH), ?_, ?_⟩
          · have e3 : (ys.map encS).map (fun z => z.length) = ys.map List.length := by
              rw [List.map_map]; exact List.map_congr_left fun x _ => encS_len x
            rw [e3, encS_len, ← List.length_flatten]
            simpa [lim] using hz
          · rw [join_enc]; exact q.of rfl (den_str _)
        · cases e2
      · cases e
    · cases e
  · cases e
theorem meth_upper : MtR X "str.upper" (rMeth W upperD) := by
  intro pins s σ H x xs v us Q I rx rs h
  obtain ⟨G, p, ds, d, sub, tp, t, e, q⟩ := h
  unfold upperD at e
  split at e
  · split at e
    · cases (show xs = [] from t)
      cases tp.str
      split at e
      · rename_i hz
        cases e
        refine mt_upper pins s σ H _ _ v us Q I rx rs ⟨_, rfl, rfl, by rw [encS_len]; exact Nat.le_trans hz.1 (by decide), ?_⟩
        rw [upper_enc hz.2]; exact q.of rfl (den_str _)
      · cases e
    · cases e
  · cases e
theorem meth_lower : MtR X "str.lower" (rMeth W lowerD) := by
  intro pins s σ H x xs v us Q I rx rs h
  obtain ⟨G, p, ds, d, sub, tp, t, e, q⟩ := h
  unfold lowerD at e
  split at e
  · split at e
    · cases (show xs = [] from t)
      cases tp.str
      split at e
      · rename_i hz
        cases e
        refine mt_lower pins s σ H _ _ v us Q I rx rs ⟨_, rfl, rfl, by rw [encS_len]; exact Nat.le_trans hz.1 (by decide), ?_⟩
        rw [lower_enc hz.2]; exact q.of rfl (den_str _)
      · cases e
    · cases e
  · cases e
theorem one_sign {f : List Char → Char → Option D} {p : D} {ds : List D} {d : D} (e : signD f p ds = some d) : ∃ x y, p = .str x ∧ ds = [.str [y]] ∧ f x y = some d := by
  unfold signD at e
  split at e
  · split at e
    · split at e
      · exact ⟨_, _, rfl, rfl, e⟩
      · cases e
    · cases e
  · cases e
theorem meth_count : MtR X "str.count" (rMeth W (signD fun x y => some (.int (countC x y)))) := by
  intro pins s σ H x xs v us Q I rx rs h
  obtain ⟨G, p, ds, d, sub, tp, t, e, q⟩ := h
  obtain ⟨z, y, rfl, rfl, e⟩ := one_sign e
  cases e
  obtain ⟨w, rfl, t1⟩ := TopL.one t
  cases tp.str; cases t1.str
  refine mt_count pins s σ H _ _ v us Q I rx rs ⟨_, _, rfl, rfl, ?_⟩
  rw [count_enc]; exact q.of rfl (den_int _)
theorem meth_index : MtR X "str.index" (rMeth W (signD fun x y => if y ∈ x then some (.int (x.idxOf y)) else none)) := by
  intro pins s σ H x xs v us Q I rx rs h
  obtain ⟨G, p, ds, d, sub, tp, t, e, q⟩ := h
  obtain ⟨z, y, rfl, rfl, e2⟩ := one_sign e
  split at e2
  · rename_i hm
    cases e2
    obtain ⟨w, rfl, t1⟩ := TopL.one t
    cases tp.str; cases t1.str
    obtain ⟨r, hr⟩ := index_enc hm
    exact mt_sindex pins s σ H _ _ v us Q I rx rs ⟨_, _, _, r, rfl, rfl, hr, q.of rfl (den_int _)⟩
  · cases e2
end
end TI
set_option Elab.async false
set_option linter.all false
set_option maxRecDepth 100000
set_option maxHeartbeats 1000000
namespace TI
open PySem PySem.Spec L2
structure Cfg where
  W : Wd
  Z : WX
  π : Nat → Option Addr
def Xv (W : Wd) (x : Xc) (cls : Value) (dd : Option Addr) (H G : Hp) : Prop := cls = .ref (W.xcl x.c) ∧ match x.p with
  | none => dd = none
  | some d => ∃ a v, dd = some a ∧ H a = some (.xd [(W.xfl x.c, v)]) ∧ Den W G d v
def Go (C : Cfg) {α β : Type} (P : Hp → Env → α → β → Hp → Hp → Env → Prop) (r : R α) (σ : L2.St) (H G : Hp) (e : Env) (Q : β → Hp → Prop) : Prop := match r with
  | .ok a e' => ∀ b H' G', Gd C.W C.π σ H' G' e' → Stp σ H G e σ H' G' e' → P H e a b H' G' e' → Q b H'
  | .exc x e' => ∀ cls dd H' G', Xv C.W x cls dd H' G' → Gd C.W C.π σ H' G' e' → Stp σ H G e σ H' G' e' → C.Z cls dd σ H'
  | .bad => False
structure Back {α β : Type} (σ : L2.St) (P : Hp → Env → α → β → Hp → Hp → Env → Prop) : Prop where
  bk : ∀ (H G : Hp) (e : Env) (H1 G1 : Hp) (e1 : Env) (a : α) (b : β) (H' G' : Hp) (e' : Env), Stp σ H G e σ H1 G1 e1 → P H1 e1 a b H' G' e' → P H e a b H' G' e'
def tG (C : Cfg) {α β : Type} (P : L2.St → Hp → Env → α → β → Hp → Hp → Env → Prop) (r : Env → R α) : L2.St → Hp → (β → Hp → Prop) → Prop := fun σ H Q => ∃ G e, Gd C.W C.π σ H G e ∧ Go C (P σ) (r e) σ H G e Q
def AvD (W : Wd) (σ : L2.St) (G : Hp) (a : AV) (v : V) : Prop := match a with
  | .v d => Den W G d v
  | .o i => σ[i]? = some (some v)
def AvL (W : Wd) (σ : L2.St) (G : Hp) : List AV → List V → Prop
  | [], vs => vs = []
  | a :: l, vs => ∃ v r, vs = v :: r ∧ AvD W σ G a v ∧ AvL W σ G l r
structure WkD (W : Wd) (G : Hp) (items : List D) (J : L2.It) : Prop where
  goes : ∀ i H, i < items.length → Sub G H → J.go i H
  stops : ∀ H, Sub G H → J.stop items.length H
  yields : ∀ (i : Nat) (H : Hp) (x : V) (H' : Hp) (d : D), items[i]? = some d → Sub G H → J.yld i H x H' → (H' = H ∧ Den W G d x) ∨ ∃ T p q xv yv, d = .tup [p, q] ∧ x = .ref T ∧ H T = none ∧ H' = upd H T (.tup [xv, yv]) ∧ Den W G p xv ∧ Den W G q yv
abbrev pV (W : Wd) (fr : Bool) (σ : L2.St) : Hp → Env → D → V → Hp → Hp → Env → Prop := fun H₀ e₀ d v H G e => RV W fr σ H₀ e₀ σ H G e d v
abbrev pA (W : Wd) (σ : L2.St) : Hp → Env → AV → V → Hp → Hp → Env → Prop := fun _ _ a v _ G _ => AvD W σ G a v
abbrev pAs (W : Wd) (σ : L2.St) : Hp → Env → List AV → List V → Hp → Hp → Env → Prop := fun _ _ a v _ G _ => AvL W σ G a v
abbrev pT (σ : L2.St) : Hp → Env → Bool → Bool → Hp → Hp → Env → Prop := fun _ _ a b _ _ _ => b = a
abbrev pI (W : Wd) (σ : L2.St) : Hp → Env → List D → L2.It → Hp → Hp → Env → Prop := fun _ _ l J _ G _ => WkD W G l J
def tE (C : Cfg) (fr : Bool) (r : Env → R D) : TE := tG C (pV C.W fr) r
def tA (C : Cfg) (r : Env → R AV) : TE := tG C (pA C.W) r
def tAs (C : Cfg) (r : Env → R (List AV)) : TA := tG C (pAs C.W) r
def tT (C : Cfg) (r : Env → R Bool) : TT := tG C pT r
def tI (C : Cfg) (r : Env → R (List D)) : TI := tG C (pI C.W) r
section
variable {C : Cfg} {σ : L2.St} {H G H1 G1 : Hp} {e e1 : Env}
theorem back_v {fr : Bool} : Back σ (pV C.W fr σ) := ⟨fun _ _ _ _ _ _ _ _ _ _ _ s p => RV.back s p⟩
theorem back_a : Back σ (pA C.W σ) := ⟨fun _ _ _ _ _ _ _ _ _ _ _ _ p => p⟩
theorem back_as : Back σ (pAs C.W σ) := ⟨fun _ _ _ _ _ _ _ _ _ _ _ _ p => p⟩
theorem back_t : Back σ (pT σ) := ⟨fun _ _ _ _ _ _ _ _ _ _ _ _ p => p⟩
theorem back_i : Back σ (pI C.W σ) := ⟨fun _ _ _ _ _ _ _ _ _ _ _ _ p => p⟩
variable {α β γ δ : Type} {P1 : Hp → Env → α → β → Hp → Hp → Env → Prop} {P2 : Hp → Env → γ → δ → Hp → Hp → Env → Prop}
theorem Go.later {r : R γ} {Q : δ → Hp → Prop} (bk : Back σ P2) (s : Stp σ H G e σ H1 G1 e1) (h : Go C P2 r σ H G e Q) : Go C P2 r σ H1 G1 e1 Q := by
  cases r with
  | ok a e' => exact fun b H' G' g' s' p => h b H' G' g' (s.trans s') (bk.bk _ _ _ _ _ _ _ _ _ _ _ s p)
  | exc x e' => exact fun cls dd H' G' xv g' s' => h cls dd H' G' xv g' (s.trans s')
  | bad => exact h
theorem Go.bind {r : R α} {f : α → Env → R γ} {Q : δ → Hp → Prop} {Q1 : β → Hp → Prop} (bk : Back σ P2) (h : Go C P2 (r.bind f) σ H G e Q)
    (step : ∀ a e1 b H1 G1, Gd C.W C.π σ H1 G1 e1 → Stp σ H G e σ H1 G1 e1 → P1 H e a b H1 G1 e1 → Go C P2 (f a e1) σ H1 G1 e1 Q → Q1 b H1) : Go C P1 r σ H G e Q1 := by
  cases r with
  | ok a e' => exact fun b H' G' g' s' p => step a e' b H' G' g' s' p (Go.later bk s' h)
  | exc x e' => exact h
  | bad => exact h
theorem Go.bind0 {r : R α} {f : α → Env → R γ} {Q : δ → Hp → Prop} {Q1 : β → Hp → Prop} (h : Go C P2 (r.bind f) σ H G e Q)
    (step : ∀ a e1 b H1 G1, Gd C.W C.π σ H1 G1 e1 → Stp σ H G e σ H1 G1 e1 → P1 H e a b H1 G1 e1 → Go C P2 (f a e1) σ H G e Q → Q1 b H1) : Go C P1 r σ H G e Q1 := by
  cases r with
  | ok a e' => exact fun b H' G' g' s' p => step a e' b H' G' g' s' p h
  | exc x e' => exact h
  | bad => exact h
theorem Go.of_bind {o : Option α} {f : α → Env → R γ} {Q : δ → Hp → Prop} {e2 : Env} (h : Go C P2 ((R.of o e2).bind f) σ H G e Q) : ∃ a, o = some a ∧ Go C P2 (f a e2) σ H G e Q := by
  cases o with
  | none => exact h.elim
  | some a => exact ⟨a, rfl, h⟩
theorem Go.of_some {o : Option γ} {Q : δ → Hp → Prop} {e2 : Env} (h : Go C P2 (R.of o e2) σ H G e Q) : ∃ a, o = some a ∧ ∀ b H' G', Gd C.W C.π σ H' G' e2 → Stp σ H G e σ H' G' e2 → P2 H e a b H' G' e2 → Q b H' := by
  cases o with
  | none => exact h.elim
  | some a => exact ⟨a, rfl, h⟩
theorem AvD.mono {W : Wd} (s : Sub G G1) {a : AV} {v : V} (h : AvD W σ G a v) : AvD W σ G1 a v := by
  cases a with
  | v d => exact Den.mono s d v h
  | o i => exact h
theorem AvL.mono {W : Wd} (s : Sub G G1) : ∀ {l : List AV} {vs : List V}, AvL W σ G l vs → AvL W σ G1 l vs
  | [], vs, h => h
  | a :: l, vs, ⟨v, r, e, p, q⟩ => ⟨v, r, e, p.mono s, AvL.mono s q⟩
theorem AvD.top {W : Wd} {π : Nat → Option Addr} (g : Gd W π σ H G e) {a : AV} {v : V} {d : D} (h : AvD W σ G a v) (r : res e a = some d) : Top W H G d v := by
  cases a with
  | v x =>
    cases r
    exact Den.top g.sub (show Den W G d v from h)
  | o i =>
    unfold res at r
    dsimp only at r
    split at r
    · rename_i d' he
      cases r
      obtain ⟨b, h1, h2, h3⟩ := g.own i _ he
      rw [show σ[i]? = some (some v) from h] at h1
      cases h1
      exact h3.top
    · rename_i d' he
      cases r
      obtain ⟨b, h1, h2⟩ := g.val i _ he
      rw [show σ[i]? = some (some v) from h] at h1
      cases h1
      exact h2.top g.sub
    · cases r
theorem AvL.top {W : Wd} {π : Nat → Option Addr} (g : Gd W π σ H G e) : ∀ {l : List AV} {vs : List V} {ds : List D}, AvL W σ G l vs → resL e l = some ds → TopL W H G ds vs
  | [], vs, ds, h, r => by cases r; exact h
  | a :: l, vs, ds, ⟨v, w, e1, p, q⟩, r => by
    unfold resL at r
    split at r
    · rename_i d r' h1 h2
      cases r
      exact ⟨v, w, e1, p.top g h1, AvL.top g q h2⟩
    · cases r
theorem AvL.den {W : Wd} : ∀ {l : List AV} {vs : List V} {ds : List D}, AvL W σ G l vs → valsL l = some ds → DenL W G ds vs
  | [], vs, ds, h, r => by cases r; cases (show vs = [] from h); exact .nil_
  | a :: l, vs, ds, ⟨v, w, e1, p, q⟩, r => by
    cases a with
    | v d =>
      simp only [valsL, Option.map_eq_some_iff] at r
      obtain ⟨r', h1, rfl⟩ := r
      subst e1
      exact .cons_ p (AvL.den q h1)
    | o i => cases r
theorem Gd.lay {W : Wd} {π : Nat → Option Addr} (g : Gd W π σ H G e) {a : Addr} (ha : H a = none) (o : HO) : Gd W π σ (upd H a o) G e := by
  have ne : ∀ b, H b ≠ none → b ≠ a := fun b hb z => hb (z ▸ ha)
  exact {
    len := g.len
    sub := fun b u q => by
      have := g.sub b u q
      rw [upd_ne (ne b (by rw [this]; exact fun z => nomatch z))]; exact this
    val := g.val
    own := fun i d h => by
      obtain ⟨b, h1, h2, h3⟩ := g.own i d h
      exact ⟨b, h1, h2, h3.keep (upd_ne (ne b h3.there)) (Sub.refl _)⟩
    dis := g.dis
    pin := g.pin }
theorem Stp.lay {a : Addr} (ha : H a = none) (o : HO) : Stp σ H G e σ (upd H a o) G e := by
  have ne : ∀ b, H b ≠ none → b ≠ a := fun b hb z => hb (z ▸ ha)
  exact {
    g := Sub.refl _
    n := fun b h => .inl h
    k := fun b u hb _ => by rw [upd_ne (ne b (by rw [hb]; exact fun z => nomatch z))]; exact hb
    p := fun b hb => by rw [upd_ne (ne b hb)]; exact hb
    o := fun b h => .inl h }
theorem Gd.nG {W : Wd} {π : Nat → Option Addr} (g : Gd W π σ H G e) {a : Addr} (ha : H a = none) : G a = none := by
  cases q : G a with
  | none => rfl
  | some u => rw [g.sub a u q] at ha; cases ha
theorem OpQ.fin {W : Wd} {π : Nat → Option Addr} {fr fl : Bool} {d : D} {Q : VK} (g : Gd W π σ H G e) (hf : (fr && isBox d) = true → fl = true)
    (h : ∀ v H' G', Gd W π σ H' G' e → Stp σ H G e σ H' G' e → RV W fr σ H e σ H' G' e d v → Q v H') : OpQ W fl H G d Q := by
  refine ⟨fun hn v hd => h v H G g Stp.refl (RV.den ?_ hd), fun a o ha hN => ?_⟩
  · cases q : (fr && isBox d) with
    | false => rfl
    | true => rw [hf q] at hn; cases hn
  · have gn : G a = none := g.nG ha
    have hno : ¬ ownA σ e a := fun z => (g.owned z).2 ha
    have g1 : Gd W π σ (upd H a o) G e := g.lay ha o
    have s1 : Stp σ H G e σ (upd H a o) G e := Stp.lay ha o
    have e1 : upd H a o a = some o := upd_same
    cases q : (fr && isBox d) with
    | true =>
      have hb : isBox d = true := (Bool.and_eq_true_iff.mp q).2
      refine h _ _ _ g1 s1 (RV.new q ⟨a, rfl, .inl ha, gn, ?_, hno⟩)
      cases d with
      | tup l => cases hb
      | _ => exact hN
    | false =>
      have g2 := g1.grow gn hno
      have s2 := s1.grow gn (.inl ha)
      refine h _ _ _ g2 s2 (RV.den q ?_)
      cases d with
      | tup l =>
        obtain ⟨vs, h1, h2⟩ := hN
        have e2 : add G (upd H a o) a a = some (.tup vs) := by rw [add_same]; exact h1
        exact den_tupT (SqT.of e2) (fun _ => e2) (h2.mono (add_sub gn))
      | _ => exact OwnT.den hN e1 (add_sub gn) (by rw [add_same]; exact e1)
end
theorem pe_imp {X : Cx} {ex : PySem.Expr} {t t' : TE} (h : ∀ σ H Q, t' σ H Q → t σ H Q) (p : PE X ex t) : PE X ex t' := ⟨fun pins s σ H Q I hq => p.run pins s σ H Q I (h σ H Q hq)⟩
theorem pa_imp {X : Cx} {ex : List PySem.Expr} {t t' : TA} (h : ∀ σ H Q, t' σ H Q → t σ H Q) (p : PA X ex t) : PA X ex t' := ⟨fun pos pins s σ H Q I hq => p.run pos pins s σ H Q I (h σ H Q hq)⟩
theorem pt_imp {X : Cx} {ex : PySem.Expr} {t t' : TT} (h : ∀ σ H Q, t' σ H Q → t σ H Q) (p : PT X ex t) : PT X ex t' := ⟨fun pins s σ H Q I hq => p.run pins s σ H Q I (h σ H Q hq)⟩
theorem pi_imp {X : Cx} {tg ex : PySem.Expr} {t t' : TI} (h : ∀ σ H Q, t' σ H Q → t σ H Q) (p : PI X tg ex t) : PI X tg ex t' := ⟨fun pins s σ H R I hq => p.run pins s σ H R I (h σ H R hq)⟩
theorem ps_imp {X : Cx} {st : Stmt} {t t' : TS} (h : ∀ D σ H, t' D σ H → t D σ H) (p : PS X st t) : PS X st t' := ⟨fun pins s σ H D I hq => p.run pins s σ H D I (h D σ H hq)⟩
theorem pss_imp {X : Cx} {st : List Stmt} {t t' : TS} (h : ∀ D σ H, t' D σ H → t D σ H) (p : PSs X st t) : PSs X st t' := ⟨fun pins s σ H D I hq => p.run pins s σ H D I (h D σ H hq)⟩
theorem R_assoc {α β γ : Type} (r : R α) (f : α → Env → R β) (k : β → Env → R γ) : (r.bind f).bind k = r.bind fun a e => (f a e).bind k := by
  cases r <;> rfl
section
variable {C : Cfg} {X : Cx} {a b c : PySem.Expr} {pos : Pos} {fr : Bool}
theorem se_val {ex : PySem.Expr} {v : V} {d : D} (p : PE X ex (tC v)) (hb : isBox d = false) (hd : ∀ G, Den C.W G d v) : PE X ex (tE C fr fun e => .ok d e) :=
  pe_imp (fun σ H Q ⟨G, e, g, h⟩ => h v H G g Stp.refl (RV.den (by rw [hb, Bool.and_false]) (hd G))) p
theorem se_var {i : Nat} (p : PE X a (tVar i)) : PE X a (tE C false fun e => match e[i]? with
    | some (.val d) => .ok d e
    | _ => .bad) := pe_imp (fun σ H Q ⟨G, e, g, h⟩ => by
  dsimp only at h
  split at h
  · rename_i d he
    obtain ⟨v, h1, h2⟩ := g.val i d he
    exact ⟨v, h1, h v H G g Stp.refl (RV.den rfl h2)⟩
  · exact h.elim) p
theorem get_set_some {e : Env} {i j : Nat} {s t : Slot} (h : (e.set i s)[j]? = some t) : (i = j ∧ t = s) ∨ (i ≠ j ∧ e[j]? = some t) := by
  rw [List.getElem?_set] at h
  by_cases hij : i = j
  · subst hij
    rw [if_pos rfl] at h
    split at h
    · cases h; exact .inl ⟨rfl, rfl⟩
    · cases h
  · rw [if_neg hij] at h; exact .inr ⟨hij, h⟩
theorem gd_un {W : Wd} {π : Nat → Option Addr} {σ : L2.St} {H G : Hp} {e : Env} (g : Gd W π σ H G e) (i : Nat) : Gd W π σ H G (e.set i .un) where
  len := by rw [List.length_set]; exact g.len
  sub := g.sub
  val := fun j d h => by
    rcases get_set_some h with ⟨_, z⟩ | ⟨_, z⟩
    · cases z
    · exact g.val j d z
  own := fun j d h => by
    rcases get_set_some h with ⟨_, z⟩ | ⟨_, z⟩
    · cases z
    · exact g.own j d z
  dis := fun j k d d' a h h' => by
    rcases get_set_some h with ⟨_, z⟩ | ⟨_, z⟩
    · cases z
    · rcases get_set_some h' with ⟨_, z'⟩ | ⟨_, z'⟩
      · cases z'
      · exact g.dis j k d d' a z z'
  pin := fun j d a h h' => by
    rcases get_set_some h' with ⟨_, z'⟩ | ⟨_, z'⟩
    · cases z'
    · exact g.pin j d a h z'
theorem own_un {σ : L2.St} {e : Env} {i : Nat} {b : Addr} (h : ownA σ (e.set i .un) b) : ownA σ e b := by
  obtain ⟨j, d, h1, h2⟩ := h
  rcases get_set_some h1 with ⟨_, z⟩ | ⟨_, z⟩
  · cases z
  · exact ⟨j, d, z, h2⟩
theorem stp_un {σ : L2.St} {H G : Hp} {e : Env} (i : Nat) : Stp σ H G e σ H G (e.set i .un) := ⟨Sub.refl G, fun _ h => .inl h, fun _ _ h _ => h, fun _ h => h, fun _ h => .inl (own_un h)⟩
theorem gd_val {W : Wd} {π : Nat → Option Addr} {σ : L2.St} {H G : Hp} {e : Env} (g : Gd W π σ H G e) (i : Nat) {d : D} {v : V} (h1 : σ[i]? = some (some v)) (h2 : Den W G d v) : Gd W π σ H G (e.set i (.val d)) where
  len := by rw [List.length_set]; exact g.len
  sub := g.sub
  val := fun j d h => by
    rcases get_set_some h with ⟨y, z⟩ | ⟨_, z⟩
    · cases z; subst y; exact ⟨v, h1, h2⟩
    · exact g.val j d z
  own := fun j d h => by
    rcases get_set_some h with ⟨_, z⟩ | ⟨_, z⟩
    · cases z
    · exact g.own j d z
  dis := fun j k d d' a h h' => by
    rcases get_set_some h with ⟨_, z⟩ | ⟨_, z⟩
    · cases z
    · rcases get_set_some h' with ⟨_, z'⟩ | ⟨_, z'⟩
      · cases z'
      · exact g.dis j k d d' a z z'
  pin := fun j d a h h' => by
    rcases get_set_some h' with ⟨_, z'⟩ | ⟨_, z'⟩
    · cases z'
    · exact g.pin j d a h z'
theorem own_val {σ : L2.St} {e : Env} {i : Nat} {d : D} {b : Addr} (h : ownA σ (e.set i (.val d)) b) : ownA σ e b := by
  obtain ⟨j, d, h1, h2⟩ := h
  rcases get_set_some h1 with ⟨_, z⟩ | ⟨_, z⟩
  · cases z
  · exact ⟨j, d, z, h2⟩
theorem lt_of_get {e : Env} {i : Nat} {s : Slot} (h : e[i]? = some s) : i < e.length := by
  rcases Nat.lt_or_ge i e.length with q | q
  · exact q
  · rw [List.getElem?_eq_none q] at h; cases h
theorem set_get {e : Env} {i : Nat} {s t : Slot} (h : e[i]? = some s) : (e.set i t)[i]? = some t := by
  rw [List.getElem?_set_self (lt_of_get h)]
theorem not_own_un {W : Wd} {π : Nat → Option Addr} {σ : L2.St} {H G : Hp} {e : Env} (g : Gd W π σ H G e) {i : Nat} {d : D} {a : Addr} (h : e[i]? = some (.own d)) (h1 : σ[i]? = some (some (.ref a))) : ¬ ownA σ (e.set i .un) a := by
  rintro ⟨j, d', h2, h3⟩
  rcases get_set_some h2 with ⟨_, z⟩ | ⟨y, z⟩
  · cases z
  · exact y (g.dis i j d d' a h z h1 h3)
theorem se_mv {i : Nat} (p : PE X a (tVar i)) : PE X a (tE C true fun e => match e[i]? with
    | some (.own d) => .ok d (e.set i .un)
    | _ => .bad) := pe_imp (fun σ H Q ⟨G, e, g, h⟩ => by
  dsimp only at h
  split at h
  · rename_i d he
    obtain ⟨v, h1, h2, h3⟩ := g.own i d he
    refine ⟨_, h1, h _ H G (gd_un g i) (stp_un i) ?_⟩
    have hb : isBox d = true := by
      cases d with
      | lst l => rfl
      | dk l => rfl
      | dt l => rfl
      | ins c fs => rfl
      | _ => exact h3.elim
    exact RV.new (by rw [hb]; rfl) ⟨v, rfl, .inr ⟨i, d, he, h1⟩, h2, h3, not_own_un g he h1⟩
  · exact h.elim) p
theorem se_frz {i : Nat} (p : PE X a (tVar i)) : PE X a (tE C false fun e => match e[i]? with
    | some (.own d) => .ok d (e.set i (.val d))
    | some (.val d) => .ok d e
    | _ => .bad) := pe_imp (fun σ H Q ⟨G, e, g, h⟩ => by
  dsimp only at h
  split at h
  · rename_i d he
    obtain ⟨v, h1, h2, h3⟩ := g.own i d he
    obtain ⟨o, ho⟩ := h3.some
    have g1 := (gd_un g i).grow h2 (not_own_un g he h1)
    have hd : Den C.W (add G H v) d (.ref v) := h3.den ho (add_sub h2) (by rw [add_same]; exact ho)
    have g2 := gd_val g1 i h1 hd
    rw [List.set_set] at g2
    refine ⟨_, h1, h _ H _ g2 ?_ (RV.den rfl hd)⟩
    exact ⟨add_sub h2, fun b hb => by
      by_cases z : b = v
      · subst z; exact .inr (.inr ⟨i, d, he, h1⟩)
      · rw [add_ne z] at hb; exact .inl hb, fun _ _ q _ => q, fun _ q => q, fun _ q => .inl (own_val q)⟩
  · rename_i d he
    obtain ⟨v, h1, h2⟩ := g.val i d he
    exact ⟨v, h1, h v H G g Stp.refl (RV.den rfl h2)⟩
  · exact h.elim) p
theorem sa_e {r : Env → R D} (p : PE X a (tE C fr r)) : PE X a (tA C fun e => (r e).bind fun d e => .ok (.v d) e) := pe_imp (fun σ H Q ⟨G, e, g, h⟩ =>
  ⟨G, e, g, Go.bind0 h fun d e1 v H1 G1 g1 s1 p1 h1 => by
    obtain ⟨G2, g2, s2, d2, u2⟩ := RV.give g1 p1 s1
    exact h1 v H1 G2 g2 s2 d2⟩) p
theorem sa_o {i : Nat} (p : PE X a (tVar i)) : PE X a (tA C fun e => match e[i]? with
    | some (.own _) => .ok (.o i) e
    | some (.val d) => .ok (.v d) e
    | _ => .bad) := pe_imp (fun σ H Q ⟨G, e, g, h⟩ => by
  dsimp only at h
  split at h
  · rename_i d he
    obtain ⟨v, h1, h2, h3⟩ := g.own i d he
    exact ⟨_, h1, h _ H G g Stp.refl h1⟩
  · rename_i d he
    obtain ⟨v, h1, h2⟩ := g.val i d he
    exact ⟨_, h1, h _ H G g Stp.refl h2⟩
  · exact h.elim) p
theorem Go.two {ra rb : Env → R AV} {γ δ : Type} {P2 : Hp → Env → γ → δ → Hp → Hp → Env → Prop} {f : AV → AV → Env → R γ} {Q : δ → Hp → Prop} {σ : L2.St} {H G : Hp} {e : Env} (bk : Back σ P2) (g : Gd C.W C.π σ H G e)
    (h : Go C P2 ((ra e).bind fun x e => (rb e).bind fun y e => f x y e) σ H G e Q) {Rr : V → V → Hp → Prop}
    (step : ∀ x y e2 u v H2 G2, Gd C.W C.π σ H2 G2 e2 → AvD C.W σ G2 x u → AvD C.W σ G2 y v → Go C P2 (f x y e2) σ H2 G2 e2 Q → Rr u v H2) :
    tA C ra σ H fun u H1 => tA C rb σ H1 fun v H2 => Rr u v H2 :=
  ⟨G, e, g, Go.bind bk h fun x e1 u H1 G1 g1 s1 p1 h1 => ⟨G1, e1, g1, Go.bind bk h1 fun y e2 v H2 G2 g2 s2 p2 h2 => step x y e2 u v H2 G2 g2 (AvD.mono s2.g p1) p2 h2⟩⟩
theorem resL_two {e : Env} {x y : AV} {γ : Type} {f : List D → Option γ} {c : γ} (h : (resL e [x, y]).bind f = some c) : ∃ p q, res e x = some p ∧ res e y = some q ∧ f [p, q] = some c := by
  simp only [resL] at h
  cases hx : res e x with
  | none => rw [hx] at h; cases h
  | some p => cases hy : res e y with
    | none => rw [hx, hy] at h; cases h
    | some q => rw [hx, hy] at h; exact ⟨p, q, rfl, rfl, h⟩
theorem se_bin (hK : C.W.K = X.K) {o : BinO} {ra rb : Env → R AV} (pa : PE X a (tA C ra)) (pb : PE X b (tA C rb)) : PE X (.BinOp a (opOf o) b pos) (tE C true fun e => (ra e).bind fun x e => (rb e).bind fun y e => R.of ((resL e [x, y]).bind fun ds => match ds with
    | [p, q] => binD o p q
    | _ => none) e) :=
  pe_imp (by
    rintro σ H Q ⟨G, e, g, h⟩
    refine Go.two back_v g h fun x y e2 u v H2 G2 g2 ax ay h2 => ?_
    obtain ⟨d, h3, h4⟩ := Go.of_some h2
    obtain ⟨p, q, h5, h6, h7⟩ := resL_two h3
    exact ⟨G2, p, q, d, g2.sub, AvD.top g2 ax h5, AvD.top g2 ay h6, h7, OpQ.fin g2 (fun z => (Bool.and_eq_true_iff.mp z).2) h4⟩) (pe_op (bin_ok hK o) pa pb)
theorem se_cmp (hK : C.W.K = X.K) (hu : X.A.units + 100 < cLine) {o : CmpO} {ra rb : Env → R AV} (pa : PE X a (tA C ra)) (pb : PE X b (tA C rb)) (hm : behindInMarks (cmpOf o) b = false) : PE X (.Compare a [cmpOf o] [b] pos) (tE C fr fun e => (ra e).bind fun x e => (rb e).bind fun y e => R.of ((resL e [x, y]).bind fun ds => match ds with
    | [p, q] => (cmpD o p q).map .bl
    | _ => none) e) :=
  pe_imp (by
    rintro σ H Q ⟨G, e, g, h⟩
    refine Go.two back_v g h fun x y e2 u v H2 G2 g2 ax ay h2 => ?_
    obtain ⟨d, h3, h4⟩ := Go.of_some h2
    obtain ⟨p, q, h5, h6, h7⟩ := resL_two h3
    obtain ⟨k, h8, rfl⟩ := Option.map_eq_some_iff.mp h7
    exact ⟨G2, p, q, k, g2.sub, AvD.top g2 ax h5, AvD.top g2 ay h6, h8, h4 _ _ _ g2 Stp.refl (RV.den (Bool.and_false _) (den_bl k))⟩) (pe_cmpR (cmp_ok hK hu o) pa pb hm)
theorem st_cmp (hK : C.W.K = X.K) (hu : X.A.units + 100 < cLine) {o : CmpO} {ra rb : Env → R AV} (pa : PE X a (tA C ra)) (pb : PE X b (tA C rb)) (hm : behindInMarks (cmpOf o) b = false) : PT X (.Compare a [cmpOf o] [b] pos) (tT C fun e => ((ra e).bind fun x e => (rb e).bind fun y e => R.of ((resL e [x, y]).bind fun ds => match ds with
    | [p, q] => (cmpD o p q).map D.bl
    | _ => none) e).bind fun x e => R.of (tru x) e) :=
  pt_imp (by
    rintro σ H Q ⟨G, e, g, h⟩
    dsimp only at h
    rw [R_assoc] at h
    simp only [R_assoc] at h
    refine Go.two back_t g h fun x y e2 u v H2 G2 g2 ax ay h2 => ?_
    obtain ⟨d, h3, h2⟩ := Go.of_bind h2
    obtain ⟨p, q, h5, h6, h7⟩ := resL_two h3
    obtain ⟨k, h8, rfl⟩ := Option.map_eq_some_iff.mp h7
    exact ⟨G2, p, q, k, g2.sub, AvD.top g2 ax h5, AvD.top g2 ay h6, h8, k, rfl, h2 _ _ _ g2 Stp.refl rfl⟩) (pt_cmpR (cmp_ok hK hu o) pa pb hm)
end
end TI
set_option Elab.async false
set_option linter.all false
set_option maxRecDepth 100000
set_option maxHeartbeats 1000000
namespace TI
open PySem PySem.Spec L2
section
variable {C : Cfg} {X : Cx} {a b c : PySem.Expr} {pos : Pos} {fr : Bool}
theorem Gd.g2 {W : Wd} {π : Nat → Option Addr} {σ : L2.St} {H G : Hp} {e : Env} (g : Gd W π σ H G e) : Sub G H := g.sub
theorem RV.top {W : Wd} {π : Nat → Option Addr} {σ₀ σ : L2.St} {H₀ H G : Hp} {e₀ e : Env} {d : D} {v : V} (g : Gd W π σ H G e) (h : RV W fr σ₀ H₀ e₀ σ H G e d v) : Top W H G d v := by
  unfold RV at h
  split at h
  · obtain ⟨a, rfl, _, _, h1, _⟩ := h
    exact h1.top
  · exact Den.top g.sub h
theorem RV.weak {W : Wd} {fr fr' : Bool} {σ₀ σ : L2.St} {H₀ H G : Hp} {e₀ e : Env} {d : D} {v : V} (hf : fr' = true → fr = true) (h : RV W fr σ₀ H₀ e₀ σ H G e d v) (hn : fr' = false → fr = true → isBox d = false) : RV W fr' σ₀ H₀ e₀ σ H G e d v := by
  cases fr' with
  | true => rw [hf rfl] at h; exact h
  | false => cases fr with
    | false => exact h
    | true => exact RV.den rfl (RV.toDen (by rw [hn rfl rfl]; rfl) h)
theorem se_neg {r : Env → R D} {f1 : Bool} (p : PE X a (tE C f1 r)) : PE X (.UnaryOp .USub a pos) (tE C fr fun e => (r e).bind fun x e => R.of (negD x) e) :=
  pe_imp (by
    rintro σ H Q ⟨G, e, g, h⟩
    refine ⟨G, e, g, Go.bind back_v h fun x e1 u H1 G1 g1 s1 p1 h1 => ?_⟩
    obtain ⟨d, h3, h4⟩ := Go.of_some h1
    cases x with
    | int i =>
      cases h3
      cases (RV.top g1 p1).int
      exact ⟨i, rfl, h4 _ _ _ g1 Stp.refl (RV.den (Bool.and_false _) (den_int _))⟩
    | _ => cases h3) (pe_un neg_ok p)
theorem se_and (hK : C.W.K = X.K) {ra rb : Env → R D} {fa fb : Bool} {rest : List PySem.Expr} (pa : PE X a (tE C fa ra)) (pb : PE X (.BoolOp .And (b :: rest) pos) (tE C fb rb)) :
    PE X (.BoolOp .And (a :: b :: rest) pos) (tE C false fun e => (ra e).bind fun x e => (R.of (tru x) e).bind fun t e => if t then (rb e).bind fun d e => .ok d e else .ok x e) :=
  pe_imp (by
    rintro σ H Q ⟨G, e, g, h⟩
    refine ⟨G, e, g, Go.bind0 h fun x e1 u H1 G1 g1 s1 p1 h1 => ?_⟩
    obtain ⟨k, h3, h4⟩ := Go.of_bind h1
    refine ⟨k, by rw [← hK]; exact Top.truV rfl g1.sub (RV.top g1 p1) h3, ?_⟩
    cases k with
    | true =>
      refine ⟨G1, e1, g1, Go.bind0 (Go.later back_v s1 h4) fun d e2 v H2 G2 g2 s2 p2 h5 => ?_⟩
      obtain ⟨G3, g3, s3, d3, u3⟩ := RV.give g2 p2 s2
      exact h5 v H2 G3 g3 s3 (RV.den rfl d3)
    | false =>
      obtain ⟨G3, g3, s3, d3, u3⟩ := RV.give g1 p1 s1
      exact h4 u H1 G3 g3 s3 (RV.den rfl d3)) (pe_andT pa pb)
theorem se_or (hK : C.W.K = X.K) {ra rb : Env → R D} {fa fb : Bool} {rest : List PySem.Expr} (pa : PE X a (tE C fa ra)) (pb : PE X (.BoolOp .Or (b :: rest) pos) (tE C fb rb)) :
    PE X (.BoolOp .Or (a :: b :: rest) pos) (tE C false fun e => (ra e).bind fun x e => (R.of (tru x) e).bind fun t e => if t then .ok x e else (rb e).bind fun d e => .ok d e) :=
  pe_imp (by
    rintro σ H Q ⟨G, e, g, h⟩
    refine ⟨G, e, g, Go.bind0 h fun x e1 u H1 G1 g1 s1 p1 h1 => ?_⟩
    obtain ⟨k, h3, h4⟩ := Go.of_bind h1
    refine ⟨k, by rw [← hK]; exact Top.truV rfl g1.sub (RV.top g1 p1) h3, ?_⟩
    cases k with
    | false =>
      refine ⟨G1, e1, g1, Go.bind0 (Go.later back_v s1 h4) fun d e2 v H2 G2 g2 s2 p2 h5 => ?_⟩
      obtain ⟨G3, g3, s3, d3, u3⟩ := RV.give g2 p2 s2
      exact h5 v H2 G3 g3 s3 (RV.den rfl d3)
    | true =>
      obtain ⟨G3, g3, s3, d3, u3⟩ := RV.give g1 p1 s1
      exact h4 u H1 G3 g3 s3 (RV.den rfl d3)) (pe_orT pa pb)
theorem bind_ok_id {α : Type} (r : R α) : (r.bind fun d e => .ok d e) = r := by cases r <;> rfl
theorem se_not (hK : C.W.K = X.K) {r : Env → R D} {f1 : Bool} (p : PE X a (tE C f1 r)) : PE X (.UnaryOp .Not a pos) (tE C fr fun e => (r e).bind fun x e => R.of ((tru x).map fun t => .bl (!t)) e) :=
  pe_imp (by
    rintro σ H Q ⟨G, e, g, h⟩
    refine ⟨G, e, g, Go.bind back_v h fun x e1 u H1 G1 g1 s1 p1 h1 => ?_⟩
    obtain ⟨d, h3, h4⟩ := Go.of_some h1
    obtain ⟨k, h5, rfl⟩ := Option.map_eq_some_iff.mp h3
    exact ⟨k, by rw [← hK]; exact Top.truV rfl g1.sub (RV.top g1 p1) h5, h4 _ _ _ g1 Stp.refl (RV.den (Bool.and_false _) (den_bl _))⟩) (pe_notT p)
def plainTest : PySem.Expr → Bool
  | .UnaryOp .Not _ _ => false
  | .BoolOp _ _ _ => false
  | .IfExp _ _ _ _ => false
  | .Compare _ _ _ _ => false
  | _ => true
theorem plainTest_ok {ex : PySem.Expr} (h : plainTest ex = true) (env : PySem.Env) (whole : Sem Value) : isTrue ex env whole = (do let v ← whole; standAt ex.pos; holding [v] (truthy v)) := by
  cases ex with
  | UnaryOp op x p => cases op with
    | Not => cases h
    | _ => rfl
  | BoolOp _ _ _ => cases h
  | IfExp _ _ _ _ => cases h
  | Compare _ _ _ _ => cases h
  | _ => rfl
abbrev rT (r : Env → R D) : Env → R Bool := fun e => (r e).bind fun x e => R.of (tru x) e
theorem st_val (hK : C.W.K = X.K) {r : Env → R D} {f1 : Bool} (p : PE X a (tE C f1 r)) (hp : plainTest a = true) : PT X a (tT C (rT r)) :=
  pt_imp (by
    rintro σ H Q ⟨G, e, g, h⟩
    refine ⟨G, e, g, Go.bind back_t h fun x e1 u H1 G1 g1 s1 p1 h1 => ?_⟩
    obtain ⟨k, h3, h4⟩ := Go.of_some h1
    exact ⟨k, by rw [← hK]; exact Top.truV rfl g1.sub (RV.top g1 p1) h3, h4 _ _ _ g1 Stp.refl rfl⟩) (pt_truth p (plainTest_ok hp X.env))
theorem st_not {r : Env → R D} (p : PT X a (tT C (rT r))) : PT X (.UnaryOp .Not a pos) (tT C (rT fun e => (r e).bind fun x e => R.of ((tru x).map fun t => .bl (!t)) e)) :=
  pt_imp (by
    rintro σ H Q ⟨G, e, g, h⟩
    refine ⟨G, e, g, ?_⟩
    have h : Go C (pT σ) ((rT r e).bind fun t e => .ok (!t) e) σ H G e Q := by
      have e1 : ((r e).bind fun x e => R.of ((tru x).map fun t => D.bl (!t)) e).bind (fun x e => R.of (tru x) e) = (rT r e).bind fun t e => .ok (!t) e := by
        unfold rT
        rw [R_assoc, R_assoc]
        congr 1
        funext x e
        cases tru x <;> rfl
      rw [← e1]
      exact h
    exact Go.bind back_t h fun x e1 u H1 G1 g1 s1 p1 h1 => by
      cases p1
      exact h1 _ _ _ g1 Stp.refl rfl) (pt_not p)
theorem sw_and {ra rb : Env → R D} {rest : List PySem.Expr} (pa : PT X a (tT C (rT ra))) (pb : PW X (.BoolOp .And (b :: rest) pos) (tT C (rT rb))) :
    PW X (.BoolOp .And (a :: b :: rest) pos) (tT C (rT fun e => (ra e).bind fun x e => (R.of (tru x) e).bind fun t e => if t then (rb e).bind fun d e => .ok d e else .ok x e)) :=
  ⟨fun wh pins s σ H Q I h => (pw_and pa pb).run wh pins s σ H Q I (by
    obtain ⟨G, e, g, h⟩ := h
    refine ⟨G, e, g, ?_⟩
    have e1 : ((ra e).bind fun x e => (R.of (tru x) e).bind fun t e => if t then (rb e).bind fun d e => .ok d e else .ok x e).bind (fun x e => R.of (tru x) e) = (rT ra e).bind fun t e => if t then rT rb e else .ok false e := by
      unfold rT
      rw [R_assoc, R_assoc]
      congr 1
      funext x e
      cases hx : tru x with
      | none => rfl
      | some t => cases t with
        | true => exact congrArg (fun z : R D => z.bind fun x e => R.of (tru x) e) (bind_ok_id (rb e))
        | false => show R.of (tru x) e = _; rw [hx]; rfl
    have h : Go C (pT σ) ((rT ra e).bind fun t e => if t then rT rb e else .ok false e) σ H G e Q := by rw [← e1]; exact h
    exact Go.bind back_t h fun x e1 u H1 G1 g1 s1 p1 h1 => by
      cases p1
      cases x with
      | true => exact ⟨G1, e1, g1, h1⟩
      | false => exact h1 _ _ _ g1 Stp.refl rfl)⟩
theorem sw_or {ra rb : Env → R D} {rest : List PySem.Expr} (pa : PT X a (tT C (rT ra))) (pb : PW X (.BoolOp .Or (b :: rest) pos) (tT C (rT rb))) :
    PW X (.BoolOp .Or (a :: b :: rest) pos) (tT C (rT fun e => (ra e).bind fun x e => (R.of (tru x) e).bind fun t e => if t then .ok x e else (rb e).bind fun d e => .ok d e)) :=
  ⟨fun wh pins s σ H Q I h => (pw_or pa pb).run wh pins s σ H Q I (by
    obtain ⟨G, e, g, h⟩ := h
    refine ⟨G, e, g, ?_⟩
    have e1 : ((ra e).bind fun x e => (R.of (tru x) e).bind fun t e => if t then .ok x e else (rb e).bind fun d e => .ok d e).bind (fun x e => R.of (tru x) e) = (rT ra e).bind fun t e => if t then .ok true e else rT rb e := by
      unfold rT
      rw [R_assoc, R_assoc]
      congr 1
      funext x e
      cases hx : tru x with
      | none => rfl
      | some t => cases t with
        | false => exact congrArg (fun z : R D => z.bind fun x e => R.of (tru x) e) (bind_ok_id (rb e))
        | true => show R.of (tru x) e = _; rw [hx]; rfl
    have h : Go C (pT σ) ((rT ra e).bind fun t e => if t then .ok true e else rT rb e) σ H G e Q := by rw [← e1]; exact h
    exact Go.bind back_t h fun x e1 u H1 G1 g1 s1 p1 h1 => by
      cases p1
      cases x with
      | false => exact ⟨G1, e1, g1, h1⟩
      | true => exact h1 _ _ _ g1 Stp.refl rfl)⟩
theorem sw_and1 {r : Env → R D} (p : PT X a (tT C (rT r))) : PW X (.BoolOp .And [a] pos) (tT C (rT r)) := pw_and1 p
theorem sw_or1 {r : Env → R D} (p : PT X a (tT C (rT r))) : PW X (.BoolOp .Or [a] pos) (tT C (rT r)) := pw_or1 p
theorem se_ite {rc ra rb : Env → R D} {fa fb : Bool} (pc : PT X c (tT C (rT rc))) (pa : PE X a (tE C fa ra)) (pb : PE X b (tE C fb rb)) :
    PE X (.IfExp c a b pos) (tE C (fa && fb) fun e => (rc e).bind fun x e => (R.of (tru x) e).bind fun t e => if t then (ra e).bind fun d e => .ok d e else (rb e).bind fun d e => .ok d e) :=
  pe_imp (by
    rintro σ H Q ⟨G, e, g, h⟩
    have h : Go C (pV C.W (fa && fb) σ) ((rT rc e).bind fun t e => if t then (ra e).bind fun d e => .ok d e else (rb e).bind fun d e => .ok d e) σ H G e Q := by
      unfold rT; rw [R_assoc]; exact h
    refine ⟨G, e, g, Go.bind back_v h fun t e1 u H1 G1 g1 s1 p1 h1 => ?_⟩
    cases p1
    have fin : ∀ {f1 : Bool} {d : D} {e2 : Env} {v : V} {H2 G2 : Hp}, ((fa && fb) = true → f1 = true) → Gd C.W C.π σ H2 G2 e2 → Stp σ H1 G1 e1 σ H2 G2 e2 → RV C.W f1 σ H1 e1 σ H2 G2 e2 d v → Go C (pV C.W (fa && fb) σ) (.ok d e2) σ H1 G1 e1 Q → Q v H2 := by
      intro f1 d e2 v H2 G2 hf g2 s2 p2 h2
      cases hb : isBox d with
      | false => exact h2 v H2 G2 g2 s2 (RV.den (by rw [hb, Bool.and_false]) (RV.toDen (by rw [hb, Bool.and_false]) p2))
      | true =>
        cases hc : (fa && fb) with
        | true =>
          rw [hf hc] at p2
          exact h2 v H2 G2 g2 s2 (by rw [hc]; exact p2)
        | false =>
          obtain ⟨G3, g3, s3, d3, u3⟩ := RV.give g2 p2 s2
          exact h2 v H2 G3 g3 s3 (by rw [hc]; exact RV.den rfl d3)
    cases t with
    | true => exact ⟨G1, e1, g1, Go.bind0 h1 fun d e2 v H2 G2 g2 s2 p2 h2 => fin (fun z => (Bool.and_eq_true_iff.mp z).1) g2 s2 p2 h2⟩
    | false => exact ⟨G1, e1, g1, Go.bind0 h1 fun d e2 v H2 G2 g2 s2 p2 h2 => fin (fun z => (Bool.and_eq_true_iff.mp z).2) g2 s2 p2 h2⟩) (pe_ifExp pc pa pb)
theorem se_chain (hK : C.W.K = X.K) (hu : X.A.units + 100 < cLine) {o1 o2 : CmpO} {ra rb rc : Env → R AV} (pa : PE X a (tA C ra)) (pb : PE X b (tA C rb)) (pc : PE X c (tA C rc)) (hm : lastMarks [cmpOf o1, cmpOf o2] [b, c] = false) :
    PE X (.Compare a [cmpOf o1, cmpOf o2] [b, c] pos) (tE C fr fun e => (ra e).bind fun x e => (rb e).bind fun y e => (R.of ((resL e [x, y]).bind fun ds => match ds with
    | [p, q] => cmpD o1 p q
    | _ => none) e).bind fun t e => if t then (rc e).bind fun z e => R.of ((resL e [y, z]).bind fun ds => match ds with
      | [p, q] => (cmpD o2 p q).map .bl
      | _ => none) e else .ok (.bl false) e) :=
  pe_imp (by
    rintro σ H Q ⟨G, e, g, h⟩
    refine Go.two back_v g h fun x y e2 u v H2 G2 g2 ax ay h2 => ?_
    obtain ⟨k, h3, h4⟩ := Go.of_bind h2
    obtain ⟨p, q, h5, h6, h7⟩ := resL_two h3
    refine ⟨G2, p, q, k, g2.sub, AvD.top g2 ax h5, AvD.top g2 ay h6, h7, k, rfl, ?_⟩
    cases k with
    | false => exact h4 _ _ _ g2 Stp.refl (RV.den (Bool.and_false _) (den_bl _))
    | true =>
      refine ⟨G2, e2, g2, Go.bind back_v h4 fun z e3 w H3 G3 g3 s3 p3 h5 => ?_⟩
      obtain ⟨d, h6, h7⟩ := Go.of_some h5
      obtain ⟨p, q, h8, h9, h10⟩ := resL_two h6
      obtain ⟨k, h11, rfl⟩ := Option.map_eq_some_iff.mp h10
      exact ⟨G3, p, q, k, g3.sub, AvD.top g3 (AvD.mono s3.g ay) h8, AvD.top g3 p3 h9, h11, h7 _ _ _ g3 Stp.refl (RV.den (Bool.and_false _) (den_bl k))⟩) (pe_chain (cmp_ok hK hu o1) (cmp_ok hK hu o2) pa pb pc hm)
theorem st_chain (hK : C.W.K = X.K) (hu : X.A.units + 100 < cLine) {o1 o2 : CmpO} {ra rb rc : Env → R AV} (pa : PE X a (tA C ra)) (pb : PE X b (tA C rb)) (pc : PE X c (tA C rc)) (hm : lastMarks [cmpOf o1, cmpOf o2] [b, c] = false) :
    PT X (.Compare a [cmpOf o1, cmpOf o2] [b, c] pos) (tT C (rT fun e => (ra e).bind fun x e => (rb e).bind fun y e => (R.of ((resL e [x, y]).bind fun ds => match ds with
    | [p, q] => cmpD o1 p q
    | _ => none) e).bind fun t e => if t then (rc e).bind fun z e => R.of ((resL e [y, z]).bind fun ds => match ds with
      | [p, q] => (cmpD o2 p q).map D.bl
      | _ => none) e else .ok (D.bl false) e)) :=
  pt_imp (by
    rintro σ H Q ⟨G, e, g, h⟩
    unfold rT at h
    rw [R_assoc] at h
    simp only [R_assoc] at h
    refine Go.two back_t g h fun x y e2 u v H2 G2 g2 ax ay h2 => ?_
    obtain ⟨k, h3, h4⟩ := Go.of_bind h2
    obtain ⟨p, q, h5, h6, h7⟩ := resL_two h3
    refine ⟨G2, p, q, k, g2.sub, AvD.top g2 ax h5, AvD.top g2 ay h6, h7, k, rfl, ?_⟩
    cases k with
    | false => exact ⟨false, rfl, h4 _ _ _ g2 Stp.refl rfl⟩
    | true =>
      have h4 : Go C (pT σ) (((rc e2).bind fun z e => R.of ((resL e [y, z]).bind fun ds => match ds with
        | [p, q] => (cmpD o2 p q).map D.bl
        | _ => none) e).bind fun x e => R.of (tru x) e) σ H2 G2 e2 Q := h4
      rw [R_assoc] at h4
      refine ⟨G2, e2, g2, Go.bind back_t h4 fun z e3 w H3 G3 g3 s3 p3 h5 => ?_⟩
      obtain ⟨d, h6, h7⟩ := Go.of_bind h5
      obtain ⟨p, q, h8, h9, h10⟩ := resL_two h6
      obtain ⟨k, h11, rfl⟩ := Option.map_eq_some_iff.mp h10
      exact ⟨G3, p, q, k, g3.sub, AvD.top g3 (AvD.mono s3.g ay) h8, AvD.top g3 p3 h9, h11, k, rfl, h7 _ _ _ g3 Stp.refl rfl⟩) (pt_chain (cmp_ok hK hu o1) (cmp_ok hK hu o2) pa pb pc hm)
theorem sas_nil : PA X [] (tAs C fun e => .ok [] e) := pa_imp (by
  rintro σ H Q ⟨G, e, g, h⟩
  exact h [] H G g Stp.refl rfl) pa_nil
theorem sas_cons {es : List PySem.Expr} {ra : Env → R AV} {rs : Env → R (List AV)} (pa : PE X a (tA C ra)) (ps : PA X es (tAs C rs)) (hs : starEach (a :: es) X.env = (false, eval a X.env) :: starEach es X.env) :
    PA X (a :: es) (tAs C fun e => (ra e).bind fun x e => (rs e).bind fun l e => .ok (x :: l) e) := pa_imp (by
  rintro σ H Q ⟨G, e, g, h⟩
  exact ⟨G, e, g, Go.bind back_as h fun x e1 u H1 G1 g1 s1 p1 h1 => ⟨G1, e1, g1, Go.bind back_as h1 fun l e2 vs H2 G2 g2 s2 p2 h2 => h2 _ _ _ g2 Stp.refl ⟨u, vs, rfl, AvD.mono s2.g p1, p2⟩⟩⟩) (pa_cons pa ps hs)
theorem se_tup {x1 : Nat} {es : List PySem.Expr} {rs : Env → R (List AV)} (ps : PA X es (tAs C rs)) : PE X (.Tuple es x1 pos) (tE C fr fun e => (rs e).bind fun l e => R.of ((valsL l).bind fun ds => if ds.length ≤ lim then some (.tup ds) else none) e) :=
  pe_imp (by
    rintro σ H Q ⟨G, e, g, h⟩
    refine ⟨G, e, g, Go.bind back_v h fun l e1 vs H1 G1 g1 s1 p1 h1 => ?_⟩
    obtain ⟨d, h3, h4⟩ := Go.of_some h1
    obtain ⟨ds, h5, h6⟩ := Option.bind_eq_some_iff.mp h3
    have hd := AvL.den p1 h5
    split at h6
    · rename_i hl
      cases h6
      exact ⟨by rw [hd.length, ← lim_eq]; exact hl, (OpQ.fin (fl := true) g1 (fun _ => rfl) h4).new_tup hd⟩
    · cases h6) (pe_tup ps)
theorem se_lst {es : List PySem.Expr} {rs : Env → R (List AV)} (ps : PA X es (tAs C rs)) : PE X (.List es pos) (tE C true fun e => (rs e).bind fun l e => R.of ((valsL l).bind fun ds => if ds.length ≤ lim then some (.lst ds) else none) e) :=
  pe_imp (by
    rintro σ H Q ⟨G, e, g, h⟩
    refine ⟨G, e, g, Go.bind back_v h fun l e1 vs H1 G1 g1 s1 p1 h1 => ?_⟩
    obtain ⟨d, h3, h4⟩ := Go.of_some h1
    obtain ⟨ds, h5, h6⟩ := Option.bind_eq_some_iff.mp h3
    have hd := AvL.den p1 h5
    split at h6
    · rename_i hl
      cases h6
      exact ⟨by rw [hd.length, ← lim_eq]; exact hl, (OpQ.fin (fl := true) g1 (fun _ => rfl) h4).new_lst hd⟩
    · cases h6) (pe_lst ps)
theorem se_idx (hK : C.W.K = X.K) (hu : X.A.units + 100 < cLine) {ra rb : Env → R AV} (pa : PE X a (tA C ra)) (pb : PE X b (tA C rb)) (hx : PlainIx b) : PE X (.Subscript a b pos) (tE C false fun e => (ra e).bind fun x e => (rb e).bind fun y e => R.of ((resL e [x, y]).bind fun ds => match ds with
    | [p, q] => idxD p q
    | _ => none) e) :=
  pe_imp (by
    rintro σ H Q ⟨G, e, g, h⟩
    refine Go.two back_v g h fun x y e2 u v H2 G2 g2 ax ay h2 => ?_
    obtain ⟨d, h3, h4⟩ := Go.of_some h2
    obtain ⟨p, q, h5, h6, h7⟩ := resL_two h3
    exact ⟨G2, p, q, d, g2.sub, AvD.top g2 ax h5, AvD.top g2 ay h6, h7, OpQ.fin (fr := false) (fl := false) g2 (fun z => z) h4⟩) (pe_ix (idx_ok hK hu) pa pb hx)
end
end TI
set_option Elab.async false
set_option linter.all false
set_option maxRecDepth 100000
set_option maxHeartbeats 1000000
namespace TI
open PySem PySem.Spec L2
abbrev pO (σ : L2.St) : Hp → Env → Option Int → Option Int → Hp → Hp → Env → Prop := fun _ _ a b _ _ _ => b = a
def tO (C : Cfg) (r : Env → R (Option Int)) : L2.St → Hp → (Option Int → Hp → Prop) → Prop := tG C pO r
abbrev pU (σ : L2.St) : Hp → Env → Unit → Unit → Hp → Hp → Env → Prop := fun _ _ _ _ _ _ _ => True
theorem back_o {σ : L2.St} : Back σ (pO σ) := ⟨fun _ _ _ _ _ _ _ _ _ _ _ _ p => p⟩
section
variable {C : Cfg} {X : Cx} {a b c : PySem.Expr} {pos : Pos} {fr : Bool}
theorem so_none : PO X none (tO C fun e => .ok none e) := ⟨fun pins s σ H Q I hq => po_none.run pins s σ H Q I (by
  obtain ⟨G, e, g, h⟩ := hq
  exact h _ _ _ g Stp.refl rfl)⟩
theorem so_some {r : Env → R AV} (p : PE X a (tA C r)) : PO X (some a) (tO C fun e => (r e).bind fun x e => match x with
    | .v (.int i) => .ok (some i) e
    | _ => .bad) := ⟨fun pins s σ H Q I hq => (po_some p).run pins s σ H Q I (by
  obtain ⟨G, e, g, h⟩ := hq
  refine ⟨G, e, g, Go.bind back_o h fun x e1 u H1 G1 g1 s1 p1 h1 => ?_⟩
  split at h1
  · rename_i i
    have p1 : Den C.W G1 (.int i) u := p1
    simp only [Den] at p1
    subst p1
    exact ⟨i, rfl, h1 _ _ _ g1 Stp.refl rfl⟩
  · exact h1.elim)⟩
theorem se_slc (hK : C.W.K = X.K) {lo hi : Option PySem.Expr} {p2 : Pos} {ra : Env → R AV} {rl rh : Env → R (Option Int)} (pa : PE X a (tA C ra)) (pl : PO X lo (tO C rl)) (ph : PO X hi (tO C rh)) :
    PE X (.Subscript a (.Slice lo hi none p2) pos) (tE C true fun e => (ra e).bind fun x e => (rl e).bind fun i e => (rh e).bind fun j e => R.of ((res e x).bind fun p => cutD p i j) e) :=
  pe_imp (by
    rintro σ H Q ⟨G, e, g, h⟩
    refine ⟨G, e, g, Go.bind back_v h fun x e1 u H1 G1 g1 s1 p1 h1 => ⟨G1, e1, g1, Go.bind back_v h1 fun i e2 i' H2 G2 g2 s2 p2 h2 => ⟨G2, e2, g2, Go.bind back_v h2 fun j e3 j' H3 G3 g3 s3 p3 h3 => ?_⟩⟩⟩
    cases p2; cases p3
    obtain ⟨d, h4, h5⟩ := Go.of_some h3
    obtain ⟨p, h6, h7⟩ := Option.bind_eq_some_iff.mp h4
    exact ⟨G3, p, d, g3.sub, AvD.top g3 (AvD.mono s3.g (AvD.mono s2.g p1)) h6, h7, OpQ.fin g3 (fun z => (Bool.and_eq_true_iff.mp z).2) h5⟩) (pe_slice (cut_ok hK) pa pl ph)
def rRev (W : Wd) : V → Hp → VK → Prop := fun x H Q => ∃ G p d, Sub G H ∧ Top W H G p x ∧ revD p = some d ∧ OpQ W (isBox d) H G d Q
theorem rev_ok {W : Wd} : RevR X (rRev W) := by
  intro pins s σ H x v vl vu vs sl Q I rx hs pl pu ps h
  obtain ⟨G, p, d, sub, tp, e, k⟩ := h
  cases p with
  | lst l =>
    obtain ⟨a, xs, rfl, hH, hl⟩ := tp.lst
    cases (show some (D.lst l.reverse) = some d from e)
    exact rev_list pins s σ H _ v vl vu vs sl Q I rx hs pl pu ps ⟨a, xs, rfl, SqL.of hH, k.new_lst hl.rev⟩
  | str l =>
    cases tp.str
    simp only [revD] at e
    split at e
    · rename_i hz
      cases e
      refine rev_str pins s σ H _ v vl vu vs sl Q I rx hs pl pu ps ⟨_, rfl, by rw [encS_len, ← lim_eq]; exact hz, ?_⟩
      refine k.of rfl ?_
      have e1 : (⟨(encS l).cps.toList.reverse.toArray⟩ : Str) = encS l.reverse := by simp [encS]
      rw [e1]; exact den_str _
    · cases e
  | _ => cases e
theorem se_rev {k : Nat} {p1 p2 p3 : Pos} {ra : Env → R AV} (pa : PE X a (tA C ra)) :
    PE X (.Subscript a (.Slice none none (some (.UnaryOp .USub (.Constant (.int 1) k p1) p2)) p3) pos) (tE C true fun e => (ra e).bind fun x e => R.of ((res e x).bind revD) e) :=
  pe_imp (by
    rintro σ H Q ⟨G, e, g, h⟩
    refine ⟨G, e, g, Go.bind back_v h fun x e1 u H1 G1 g1 s1 p1 h1 => ?_⟩
    obtain ⟨d, h4, h5⟩ := Go.of_some h1
    obtain ⟨p, h6, h7⟩ := Option.bind_eq_some_iff.mp h4
    exact ⟨G1, p, d, g1.sub, AvD.top g1 p1 h6, h7, OpQ.fin g1 (fun z => (Bool.and_eq_true_iff.mp z).2) h5⟩) (pe_rev rev_ok pa)
theorem se_bfR {f : BF} {rs : Env → R (List AV)} {ex : PySem.Expr} (p : PE X ex (tCB (rCall C.W (bfFr f) (bfD f)) (tAs C rs))) :
    PE X ex (tE C (bfFr f) fun e => (rs e).bind fun l e => R.of ((resL e l).bind (bfD f)) e) :=
  pe_imp (by
    rintro σ H Q ⟨G, e, g, h⟩
    refine ⟨G, e, g, Go.bind back_v h fun l e1 vs H1 G1 g1 s1 p1 h1 => ?_⟩
    obtain ⟨d, h3, h4⟩ := Go.of_some h1
    obtain ⟨ds, h5, h6⟩ := Option.bind_eq_some_iff.mp h3
    exact ⟨G1, ds, d, g1.sub, AvL.top g1 p1 h5, h6, OpQ.fin g1 (fun z => (Bool.and_eq_true_iff.mp z).1) h4⟩) p
theorem se_bf (hK : C.W.K = X.K) (hc : X.calm = true) (hg : X.A.guards = some []) (hu : X.A.units + 100 < cLine) {f : BF} (hf : bfSet f = false) {es : List PySem.Expr} {rs : Env → R (List AV)} {ex : PySem.Expr} (p : ∀ {r : List V → Hp → VK → Prop} {t : TA}, CallR X (bfV f) r → PA X es t → PE X ex (tCB r t)) (ps : PA X es (tAs C rs)) :
    PE X ex (tE C (bfFr f) fun e => (rs e).bind fun l e => R.of ((resL e l).bind (bfD f)) e) := se_bfR (p (call_ok hK hc hg hu f hf) ps)
theorem bm_ok {W : Wd} (m : BM) (p : List Char) : MtR X ("str." ++ (match m with
    | .join => "join" | .count => "count" | .index => "index" | .upper => "upper" | .lower => "lower")) (rMeth W (bmD m)) := by
  cases m with
  | join => exact meth_join
  | count => exact meth_count
  | index => exact meth_index
  | upper => exact meth_upper
  | lower => exact meth_lower
theorem strOf_eq {x : AV} {p : List Char} (h : strOf x = some p) : x = .v (.str p) := by
  cases x with
  | v d => cases d with
    | str y => cases h; rfl
    | _ => cases h
  | o i => cases h
theorem se_bm {m : BM} {es : List PySem.Expr} {ra : Env → R AV} {rs : Env → R (List AV)} {ex : PySem.Expr} (p : ∀ {r : V → List V → Hp → VK → Prop} {to : TE} {t : TA}, MtR X ("str." ++ (match m with
    | .join => "join" | .count => "count" | .index => "index" | .upper => "upper" | .lower => "lower")) r → PE X a to → PA X es t → PE X ex (tBM X.K "str" r to t)) (pa : PE X a (tA C ra)) (ps : PA X es (tAs C rs)) :
    PE X ex (tE C false fun e => (ra e).bind fun x e => (R.of (strOf x) e).bind fun p e => (rs e).bind fun l e => R.of ((resL e l).bind (bmD m (.str p))) e) :=
  pe_imp (by
    rintro σ H Q ⟨G, e, g, h⟩
    refine ⟨G, e, g, Go.bind back_v h fun x e1 u H1 G1 g1 s1 p1 h1 => ?_⟩
    obtain ⟨z, h2, h3⟩ := Go.of_bind h1
    cases strOf_eq h2
    have p1 : Den C.W G1 (.str z) u := p1
    simp only [Den] at p1
    subst p1
    refine ⟨rfl, G1, e1, g1, Go.bind back_v h3 fun l e2 vs H2 G2 g2 s2 p2 h4 => ?_⟩
    obtain ⟨d, h5, h6⟩ := Go.of_some h4
    obtain ⟨ds, h7, h8⟩ := Option.bind_eq_some_iff.mp h5
    exact ⟨G2, .str z, ds, d, g2.sub, Den.top g2.sub (den_str z), AvL.top g2 p2 h7, h8, OpQ.fin (fr := false) (fl := false) g2 (fun z => z) h6⟩) (p (bm_ok (W := C.W) m []) pa ps)
def tyOfD (W : Wd) : D → Value
  | .non => .type "NoneType" | .bl _ => .type "bool" | .int _ => .type "int" | .str _ => .type "str"
  | .lst _ => .type "list" | .tup _ => .type "tuple" | .dk _ => .type "dict" | .dt _ => .type "dict"
  | .ins c _ => .ref (W.cls c) | .scr _ => .none
def askV (W : Wd) : Ty → V
  | .int => .ty "int" | .bool => .ty "bool" | .str => .ty "str" | .tuple => .ty "tuple" | .list => .ty "list" | .dict => .ty "dict" | .cls c => .ref (W.cls c)
def askU (W : Wd) : Ty → Value
  | .int => .type "int" | .bool => .type "bool" | .str => .type "str" | .tuple => .type "tuple" | .list => .type "list" | .dict => .type "dict" | .cls c => .ref (W.cls c)
theorem ask_cls {W : Wd} (t : Ty) : ClsV (askV W t) (askU W t) := by
  cases t with
  | cls c => exact .own _
  | _ => exact .ty _
structure ClsF (W : Wd) (K : PySem.W.Frag) (c : Nat) : Prop where
  cl : Cls K (W.cls c)
  ha : PySem.W.findIn K (.ref (W.cls c)) "__class__" = some (some (.builtin "object.__class__"))
  hn : PySem.W.specialIn K (.builtin "object.__class__") "__get__" = some (some (.builtin "getset_descriptor.__get__"))
  ht : PySem.W.takesIn K (.builtin "object.__class__") = some true
  hm : PySem.W.mroIn K (W.cls c) (.type "object") = some true
theorem tyX_of {W : Wd} {H G : Hp} {Φ : Fns} (hc : ∀ c, c < Φ.ncls → ClsF W W.K c) (sub : Sub G H) {d : D} {x : V} (h : Top W H G d x) (ok : isiOk Φ d = true) : TyX W.K H x (tyOfD W d) := by
  cases d with
  | non => cases h.non; exact .base .non
  | bl b => cases h.bl; exact .base (.bl _)
  | int b => cases h.int; exact .base (.int _)
  | str b => cases h.str; exact .base (.str _)
  | lst l => obtain ⟨a, vs, rfl, hH, _⟩ := h.lst; exact .base (.lst hH)
  | tup l =>
    obtain ⟨a, vs, rfl, hH, _, _⟩ := h.tup
    rcases sub.sqT hH with (hH | ⟨o, hH⟩) | hH
    · exact .base (.tup hH)
    · exact .fTuple hH
    · obtain ⟨o, its, n, e, c, _⟩ := hH
      exact .kTuple e c
  | dk l => obtain ⟨a, vs, rfl, hH, _⟩ := h.dk; exact .base (.dK hH)
  | dt l => obtain ⟨a, vs, rfl, hH, _⟩ := h.dt; exact .base (.dT hH)
  | ins c fs =>
    have h : Top W H G (.ins c fs) x := h
    simp only [Top] at h
    obtain ⟨a, dx, fv, rfl, hH, _⟩ := h
    have f := hc c (of_decide_eq_true ok)
    exact .base (.ins hH f.cl f.ha f.hn f.ht f.hm)
  | scr l => cases ok
def KitF (W : Wd) (Φ : Fns) (t : Ty) : Prop := ∀ d, isiOk Φ d = true → PySem.W.kitOne W.K (tyOfD W d) (askU W t) = some (tyD t d)
theorem se_isi1 (hK : C.W.K = X.K) {Φ : Fns} (hc : ∀ c, c < Φ.ncls → ClsF C.W C.W.K c) {t : Ty} (hk : KitF C.W Φ t) {ty : PySem.Expr} {ex : PySem.Expr} {ra : Env → R AV}
    (p : ∀ {r : List V → Hp → VK → Prop} {ta tb : TE}, CallR X (.builtin "isinstance") r → PE X a ta → PE X ty tb → PE X ex (tCB r (tCons ta (tCons tb tNil)))) (pa : PE X a (tA C ra)) (pt : PE X ty (tC (askV C.W t))) :
    PE X ex (tE C fr fun e => (ra e).bind fun x e => R.of ((res e x).bind fun d => if isiOk Φ d then some (.bl ([t].any fun t => tyD t d)) else none) e) :=
  pe_imp (by
    rintro σ H Q ⟨G, e, g, h⟩
    refine ⟨G, e, g, Go.bind back_v h fun x e1 u H1 G1 g1 s1 p1 h1 => ?_⟩
    obtain ⟨d, h3, h4⟩ := Go.of_some h1
    obtain ⟨p, h5, h6⟩ := Option.bind_eq_some_iff.mp h3
    split at h6
    · rename_i ok
      cases h6
      have tp := AvD.top g1 p1 h5
      refine ⟨u, askV C.W t, tyOfD C.W p, askU C.W t, tyD t p, rfl, ask_cls t, hK ▸ tyX_of hc g1.sub tp ok, hK ▸ hk p ok, ?_⟩
      have e1 : ([t].any fun t => tyD t p) = tyD t p := by simp
      rw [e1] at h4
      exact h4 _ _ _ g1 Stp.refl (RV.den (Bool.and_false _) (den_bl _))
    · cases h6) (p call_isi pa pt)
def tAsk (W : Wd) (ts : List Ty) : TA := fun _ H Q => Q (ts.map (askV W)) H
theorem pa_ask_nil {W : Wd} : PA X [] (tAsk W []) := pa_imp (fun _ _ _ h => h) pa_nil
theorem pa_ask_cons {W : Wd} {t : Ty} {ts : List Ty} {es : List PySem.Expr} (p : PE X a (tC (askV W t))) (ps : PA X es (tAsk W ts)) (hs : starEach (a :: es) X.env = (false, eval a X.env) :: starEach es X.env) : PA X (a :: es) (tAsk W (t :: ts)) :=
  pa_imp (fun _ _ _ h => h) (pa_cons p ps hs)
theorem kitAny_of {W : Wd} {Φ : Fns} {d : D} (ok : isiOk Φ d = true) : ∀ {ts : List Ty}, (∀ t ∈ ts, KitF W Φ t) → PySem.W.kitAny W.K (tyOfD W d) (ts.map (askU W)) = some (ts.any fun t => tyD t d)
  | [], _ => rfl
  | t :: ts, h => by
    have h1 := h t List.mem_cons_self d ok
    have h2 := kitAny_of ok (ts := ts) fun t' z => h t' (List.mem_cons_of_mem _ z)
    show PySem.W.kitAny W.K (tyOfD W d) (askU W t :: ts.map (askU W)) = _
    unfold PySem.W.kitAny
    rw [h1]
    cases q : tyD t d with
    | true => simp [q]
    | false => simpa [q] using h2
theorem paired_ask {W : Wd} : ∀ ts : List Ty, Paired ClsV (ts.map (askV W)) (ts.map (askU W))
  | [] => .nil
  | t :: ts => .cons (ask_cls t) (paired_ask ts)
theorem se_isiT (hK : C.W.K = X.K) {Φ : Fns} (hc : ∀ c, c < Φ.ncls → ClsF C.W C.W.K c) {ts : List Ty} (hk : ∀ t ∈ ts, KitF C.W Φ t) (hl : ts.length ≤ 1000) {es : List PySem.Expr} {x1 : Nat} {tpos : Pos} {ex : PySem.Expr} {ra : Env → R AV}
    (p : ∀ {r : List V → Hp → VK → Prop} {ta tb : TE}, CallR X (.builtin "isinstance") r → PE X a ta → PE X (.Tuple es x1 tpos) tb → PE X ex (tCB r (tCons ta (tCons tb tNil)))) (pa : PE X a (tA C ra)) (pt : PA X es (tAsk C.W ts)) :
    PE X ex (tE C fr fun e => (ra e).bind fun x e => R.of ((res e x).bind fun d => if isiOk Φ d then some (.bl (ts.any fun t => tyD t d)) else none) e) :=
  pe_imp (by
    rintro σ H Q ⟨G, e, g, h⟩
    refine ⟨G, e, g, Go.bind back_v h fun x e1 u H1 G1 g1 s1 p1 h1 => ?_⟩
    obtain ⟨d, h3, h4⟩ := Go.of_some h1
    obtain ⟨p, h5, h6⟩ := Option.bind_eq_some_iff.mp h3
    split at h6
    · rename_i ok
      cases h6
      refine ⟨by rw [List.length_map]; exact Nat.le_trans hl (by rw [sizeLine_eq]; decide), fun q hq => ?_⟩
      have g2 := g1.lay hq (.tup (ts.map (askV C.W)))
      have tp := AvD.top g2 p1 h5
      exact ⟨u, q, ts.map (askV C.W), tyOfD C.W p, ts.map (askU C.W), _, rfl, upd_same, paired_ask ts, hK ▸ tyX_of hc g2.sub tp ok, hK ▸ kitAny_of ok hk, h4 _ _ _ g2 (Stp.lay hq _) (RV.den (Bool.and_false _) (den_bl _))⟩
    · cases h6) (p call_isiT pa (pe_tup pt))
end
end TI
set_option Elab.async false
set_option linter.all false
set_option maxRecDepth 100000
set_option maxHeartbeats 1000000
namespace TI
open PySem PySem.Spec L2
section
variable {W : Wd} {π : Nat → Option Addr} {σ : L2.St} {H G : Hp} {e : Env}
theorem own_set {i : Nat} {d d' : D} {b : Addr} (he : e[i]? = some (.own d)) (h : ownA σ (e.set i (.own d')) b) : ownA σ e b := by
  obtain ⟨j, x, h1, h2⟩ := h
  rcases get_set_some h1 with ⟨y, z⟩ | ⟨_, z⟩
  · subst y; exact ⟨i, d, he, h2⟩
  · exact ⟨j, x, z, h2⟩
theorem Gd.put (g : Gd W π σ H G e) {i : Nat} {d d' : D} {a : Addr} {o : HO} (he : e[i]? = some (.own d)) (h1 : σ[i]? = some (some (.ref a))) (hd : OwnT W (upd H a o) G d' a) : Gd W π σ (upd H a o) G (e.set i (.own d')) := by
  have ga : G a = none := (g.owned ⟨i, d, he, h1⟩).1
  exact {
    len := by rw [List.length_set]; exact g.len
    sub := fun b u q => by
      have hb : b ≠ a := fun z => by subst z; rw [ga] at q; cases q
      rw [upd_ne hb]; exact g.sub b u q
    val := fun j x h => by
      rcases get_set_some h with ⟨_, z⟩ | ⟨_, z⟩
      · cases z
      · exact g.val j x z
    own := fun j x h => by
      rcases get_set_some h with ⟨y, z⟩ | ⟨y, z⟩
      · cases z; subst y; exact ⟨a, h1, ga, hd⟩
      · obtain ⟨b, h3, h4, h5⟩ := g.own j x z
        have hb : b ≠ a := fun w => by subst w; exact y (g.dis i j d x b he z h1 h3)
        exact ⟨b, h3, h4, h5.keep (upd_ne hb) (Sub.refl _)⟩
    dis := fun j k x y b h h' => by
      rcases get_set_some h with ⟨p, z⟩ | ⟨p, z⟩
      · rcases get_set_some h' with ⟨p', z'⟩ | ⟨p', z'⟩
        · exact fun _ _ => p.symm.trans p'
        · exact fun q q' => g.dis j k d y b (p ▸ he) z' q q'
      · rcases get_set_some h' with ⟨p', z'⟩ | ⟨p', z'⟩
        · exact fun q q' => g.dis j k x d b z (p' ▸ he) q q'
        · exact fun q q' => g.dis j k x y b z z' q q'
    pin := fun j x b h h' => by
      rcases get_set_some h' with ⟨y, z⟩ | ⟨_, z⟩
      · exact g.pin j d b h (y ▸ he)
      · exact g.pin j x b h z }
theorem Stp.put {i : Nat} {d d' : D} {a : Addr} {o : HO} (he : e[i]? = some (.own d)) (h1 : σ[i]? = some (some (.ref a))) : Stp σ H G e σ (upd H a o) G (e.set i (.own d')) where
  g := Sub.refl _
  n := fun b h => .inl h
  k := fun b u hb hn => by
    have z : b ≠ a := fun z => by subst z; exact hn ⟨i, d, he, h1⟩
    rw [upd_ne z]; exact hb
  p := fun b hb => by
    by_cases z : b = a
    · subst z; rw [upd_same]; exact fun w => nomatch w
    · rw [upd_ne z]; exact hb
  o := fun b h => .inl (own_set he h)
end
def rMu (m : MM) (W : Wd) : V → List V → Hp → VK → Prop := fun x xs H Q => ∃ (a : Addr) (G : Hp) (l : List D) (ds : List D) (y : D) (l' : List D), x = .ref a ∧ OwnT W H G (.lst l) a ∧ Sub G H ∧ G a = none ∧
  (if muOwn m then TopL W H G ds xs ∧ (∀ b, xs = [.ref b] → b ≠ a) else DenL W G ds xs) ∧ muD m (.lst l) ds = some (y, .lst l') ∧ ∀ v vs, Den W G y v → DenL W G l' vs → Q v (upd H a (.lst vs))
def mmN : MM → Str
  | .append => "append" | .pop => "pop" | .popat => "pop" | .extend => "extend"
theorem muD_lst {m : MM} {x : D} {ds : List D} {y d' : D} (h : muD m x ds = some (y, d')) : ∃ l', d' = .lst l' := by
  unfold muD at h
  cases m <;> dsimp only at h <;> (repeat' (first | cases h; fail | split at h)) <;> first | (cases h; exact ⟨_, rfl⟩) | (simp at h; obtain ⟨_, _, _, rfl⟩ := h; exact ⟨_, rfl⟩) | cases h
section
variable {W : Wd} {X : Cx}
theorem mu_append : MtM X "list.append" (rMu .append W) := by
  intro pins s σ H x xs v us Q I rx rs h
  obtain ⟨a, G, l, ds, y, l', rfl, ho, sub, ga, hd, hm, q⟩ := h
  obtain ⟨vs, hH, hl⟩ := ho
  have hd : DenL W G ds xs := hd
  cases ds with
  | nil => cases hm
  | cons z r0 => cases r0 with
  | cons _ _ => cases hm
  | nil =>
    simp only [muD] at hm
    split at hm
    · rename_i hz
      cases hm
      obtain ⟨u, r, rfl, h1, h2⟩ := (show ∃ v r, xs = v :: r ∧ Den W G z v ∧ DenL W G [] r by simpa only [DenL] using hd)
      cases (show r = [] by simpa only [DenL] using h2)
      exact mt_append pins s σ H _ _ v us Q I rx rs ⟨a, vs, u, rfl, rfl, hH, by rw [hl.length, ← lim_eq]; exact hz, q _ _ den_non (hl.append (.one h1))⟩
    · cases hm
theorem mu_extend : MtM X "list.extend" (rMu .extend W) := by
  intro pins s σ H x xs v us Q I rx rs h
  obtain ⟨a, G, l, ds, y, l', rfl, ho, sub, ga, hd, hm, q⟩ := h
  obtain ⟨vs, hH, hl⟩ := ho
  have hd : TopL W H G ds xs ∧ (∀ b, xs = [.ref b] → b ≠ a) := hd
  unfold muD at hm
  dsimp only at hm
  split at hm
  · rename_i z
    split at hm
    · rename_i r
      split at hm
      · rename_i hz
        cases hm
        obtain ⟨w, rfl, h1⟩ := TopL.one hd.1
        obtain ⟨b, zs, rfl, h2, h3⟩ := h1.lst
        exact mt_extend pins s σ H _ _ v us Q I rx rs ⟨a, b, vs, zs, rfl, rfl, hH, h2, by rw [hl.length, h3.length, ← lim_eq]; exact hz, q _ _ den_non (hl.append h3)⟩
      · cases hm
    · cases hm
  · cases hm
theorem mu_pop : MtM X "list.pop" (rMu .pop W) := by
  intro pins s σ H x xs v us Q I rx rs h
  obtain ⟨a, G, l, ds, y, l', rfl, ho, sub, ga, hd, hm, q⟩ := h
  obtain ⟨vs, hH, hl⟩ := ho
  have hd : DenL W G ds xs := hd
  unfold muD at hm
  dsimp only at hm
  split at hm
  · cases (show xs = [] by simpa only [DenL] using hd)
    obtain ⟨z, h1, h2⟩ := Option.map_eq_some_iff.mp hm
    cases h2
    rw [List.getLast?_eq_getElem?] at h1
    obtain ⟨w, h3, h4⟩ := hl.get h1
    exact mt_pop pins s σ H _ _ v us Q I rx rs ⟨a, vs, w, rfl, rfl, hH, by rw [hl.length]; exact h3, q _ _ h4 hl.dropLast⟩
  · cases hm
theorem mu_popat : MtM X "list.pop" (rMu .popat W) := by
  intro pins s σ H x xs v us Q I rx rs h
  obtain ⟨a, G, l, ds, y, l', rfl, ho, sub, ga, hd, hm, q⟩ := h
  obtain ⟨vs, hH, hl⟩ := ho
  have hd : DenL W G ds xs := hd
  unfold muD at hm
  dsimp only at hm
  split at hm
  · rename_i z
    split at hm
    · rename_i i
      split at hm
      · rename_i hz
        obtain ⟨z, h1, h2⟩ := Option.map_eq_some_iff.mp hm
        cases h2
        obtain ⟨u, r, rfl, h5, h6⟩ := (show ∃ v r, xs = v :: r ∧ Den W G (.int i) v ∧ DenL W G [] r by simpa only [DenL] using hd)
        cases (show r = [] by simpa only [DenL] using h6)
        simp only [Den] at h5
        subst h5
        obtain ⟨w, h3, h4⟩ := hl.get h1
        have hlt : i.toNat < vs.length := by
          rcases Nat.lt_or_ge i.toNat vs.length with z | z
          · exact z
          · rw [List.getElem?_eq_none z] at h3; cases h3
        refine mt_popAt pins s σ H _ _ v us Q I rx rs ⟨a, vs, i, i.toNat, w, rfl, rfl, hH, by omega, by omega, ?_, h3, q _ _ h4 (hl.eraseIdx _)⟩
        show (if (0 ≤ (if i < 0 then i + (vs.length : Int) else i)) && ((if i < 0 then i + (vs.length : Int) else i) < (vs.length : Int)) then some (if i < 0 then i + (vs.length : Int) else i).toNat else none) = _
        rw [if_neg (by omega : ¬ i < 0)]
        rw [if_pos (by simp; omega)]
      · cases hm
    · cases hm
  · cases hm
theorem mu_ok (m : MM) : MtM X ("list." ++ (match m with
    | .append => "append" | .pop => "pop" | .popat => "pop" | .extend => "extend")) (rMu m W) := by
  cases m with
  | append => exact mu_append
  | pop => exact mu_pop
  | popat => exact mu_popat
  | extend => exact mu_extend
end
section
variable {C : Cfg} {X : Cx} {a b c : PySem.Expr} {pos : Pos} {fr : Bool}
theorem lstAt_eq {e : Env} {i : Nat} (h : lstAt e i = true) : ∃ l, e[i]? = some (.own (.lst l)) := by
  unfold lstAt at h
  split at h
  · rename_i l hl; exact ⟨l, hl⟩
  · cases h
theorem mu_core {m : MM} {i : Nat} {σ : L2.St} {H G : Hp} {e : Env} {l : List AV} {vs : List V} {a : Addr} {Q : VK} (g : Gd C.W C.π σ H G e) (hl : AvL C.W σ G l vs) (h1 : σ[i]? = some (some (.ref a)))
    (h : Go C (pV C.W false σ) (muR m i l e) σ H G e Q) : rMu m C.W (.ref a) vs H Q := by
  unfold muR at h
  split at h
  · rename_i d he
    obtain ⟨b, h2, ga, ho⟩ := g.own i d he
    rw [h1] at h2; cases h2
    split at h
    · rename_i ds hds
      split at h
      · exact h.elim
      · rename_i hix
        split at h
        · rename_i y d' hm
          obtain ⟨l0, rfl⟩ : ∃ l0, d = .lst l0 := by
            unfold muD at hm
            cases m <;> dsimp only at hm <;> (repeat' (first | cases hm; fail | split at hm)) <;> first | exact ⟨_, rfl⟩ | cases hm
          obtain ⟨l', rfl⟩ := muD_lst hm
          refine ⟨a, G, l0, ds, y, l', rfl, ho, g.sub, ga, ?_, hm, fun v ws hv hw => h v _ G (g.put he h1 ⟨ws, upd_same, hw⟩) (Stp.put he h1) (RV.den rfl hv)⟩
          cases hmo : muOwn m with
          | false =>
            rw [hmo] at hds
            exact AvL.den hl hds
          | true =>
            rw [hmo] at hds
            refine ⟨AvL.top g hl hds, fun b hb z => ?_⟩
            subst z
            subst hb
            cases l with
            | nil => cases (show ([V.ref b] : List V) = [] from hl)
            | cons x r =>
              obtain ⟨v, w, e1, p, q⟩ := hl
              cases e1
              cases r with
              | cons _ _ => obtain ⟨_, _, e2, _⟩ := q; cases e2
              | nil =>
                cases x with
                | v d =>
                  have p : Den C.W G d (.ref b) := p
                  cases ds with
                  | nil => simp only [resL, res] at hds; cases hds
                  | cons d1 ds1 =>
                    simp only [resL, res, if_true] at hds
                    cases hds
                    cases m with
                    | extend =>
                      cases d with
                      | lst l =>
                        simp only [Den] at p
                        obtain ⟨a', vs', e3, e4, _⟩ := p
                        cases e3
                        rw [ga] at e4; cases e4
                      | _ => cases hm
                    | _ => cases hmo
                | o j =>
                  have p : σ[j]? = some (some (.ref b)) := p
                  have hj : j ≠ i := fun z => hix (by subst z; rfl)
                  cases m with
                  | extend =>
                    simp only [resL, res, if_true] at hds
                    cases hej : e[j]? with
                    | none => rw [hej] at hds; cases hds
                    | some s => cases s with
                      | own d1 => exact hj (g.dis j i d1 _ b hej he p h1)
                      | un => rw [hej] at hds; cases hds
                      | val d1 =>
                        rw [hej] at hds
                        cases hds
                        obtain ⟨v, e5, e6⟩ := g.val j d1 hej
                        rw [p] at e5; cases e5
                        cases d1 with
                        | lst l =>
                          simp only [Den] at e6
                          obtain ⟨a', vs', e3, e4, _⟩ := e6
                          cases e3
                          rw [ga] at e4; cases e4
                        | _ => cases hm
                  | _ => cases hmo
        · exact h.elim
    · exact h.elim
  · exact h.elim
theorem se_mu {m : MM} {i : Nat} {es : List PySem.Expr} {rs : Env → R (List AV)} {ex : PySem.Expr} (p : ∀ {r : V → List V → Hp → VK → Prop} {to : TE} {t : TA}, MtM X ("list." ++ (match m with
    | .append => "append" | .pop => "pop" | .popat => "pop" | .extend => "extend")) r → PE X a to → PA X es t → PE X ex (tBM X.K "list" r to t)) (pa : PE X a (tVar i)) (ps : PA X es (tAs C rs)) :
    PE X ex (tE C false fun e => if lstAt e i then (rs e).bind fun l e => muR m i l e else .bad) :=
  pe_imp (by
    rintro σ H Q ⟨G, e, g, h⟩
    dsimp only at h
    cases hb : lstAt e i with
    | false => rw [hb] at h; exact h.elim
    | true =>
    rw [hb] at h
    obtain ⟨l0, he⟩ := lstAt_eq hb
    obtain ⟨b, h1, ga, ho⟩ := g.own i _ he
    obtain ⟨vs, hH, _⟩ := ho
    exact ⟨.ref b, h1, .inl ⟨rfl, vs, SqL.of hH⟩, G, e, g, Go.bind back_v h fun l e1 vs H1 G1 g1 s1 p1 h2 => mu_core g1 p1 h1 h2⟩) (p (mu_ok (W := C.W) m) pa ps)
theorem se_mu0 {m : MM} {i : Nat} {ex : PySem.Expr} (p : ∀ {r : V → List V → Hp → VK → Prop} {to : TE}, MtM X ("list." ++ (match m with
    | .append => "append" | .pop => "pop" | .popat => "pop" | .extend => "extend")) r → PE X a to → PE X ex (tBM0 X.K "list" r to)) (pa : PE X a (tVar i)) :
    PE X ex (tE C false fun e => if lstAt e i then (R.ok [] e).bind fun l e => muR m i l e else .bad) :=
  pe_imp (by
    rintro σ H Q ⟨G, e, g, h⟩
    dsimp only at h
    cases hb : lstAt e i with
    | false => rw [hb] at h; exact h.elim
    | true =>
    rw [hb] at h
    obtain ⟨l0, he⟩ := lstAt_eq hb
    obtain ⟨b, h1, ga, ho⟩ := g.own i _ he
    obtain ⟨vs, hH, _⟩ := ho
    exact ⟨.ref b, h1, .inl ⟨rfl, vs, SqL.of hH⟩, mu_core g (show AvL C.W σ G [] [] from rfl) h1 h⟩) (p (mu_ok (W := C.W) m) pa)
end
end TI
set_option Elab.async false
set_option linter.all false
set_option maxRecDepth 100000
set_option maxHeartbeats 1000000
namespace TI
open PySem PySem.Spec L2
def noPin : Nat → Option Addr := fun _ => none
def spF (W : Wd) (Φ : Fns) (f : Nat) : Sp := fun vs H Q E => ∃ G as, Gd W noPin (vs.map some) H G as ∧ match Φ.fn f as with
  | .ok d outs => ∀ v H' G', Gd W noPin (vs.map some) H' G' (putS as outs) → Stp (vs.map some) H G as (vs.map some) H' G' (putS as outs) → RV W (Φ.fresh f) (vs.map some) H as (vs.map some) H' G' (putS as outs) d v → Q v H'
  | .exc x outs => ∀ cls dd H' G', Xv W x cls dd H' G' → Gd W noPin (vs.map some) H' G' (putS as outs) → Stp (vs.map some) H G as (vs.map some) H' G' (putS as outs) → E cls dd H'
  | .bad => False
section
variable {W : Wd} {π : Nat → Option Addr} {σ : L2.St} {H G H' G' : Hp} {e : Env}
theorem slots_len : ∀ {l : List AV} {vs : List V} {as : List Slot}, AvL W σ G l vs → slotsL e l = some as → as.length = vs.length
  | [], vs, as, h, r => by cases r; cases (show vs = [] from h); rfl
  | a :: l, vs, as, ⟨v, w, e1, p, q⟩, r => by
    subst e1
    cases a with
    | v d =>
      simp only [slotsL, Option.map_eq_some_iff] at r
      obtain ⟨r', h1, rfl⟩ := r
      simp [slots_len q h1]
    | o i =>
      simp only [slotsL] at r
      split at r
      · obtain ⟨r', h1, rfl⟩ := Option.map_eq_some_iff.mp r
        simp [slots_len q h1]
      · cases r
theorem slots_val : ∀ {l : List AV} {vs : List V} {as : List Slot}, AvL W σ G l vs → slotsL e l = some as → ∀ (i : Nat) (d : D), as[i]? = some (.val d) → ∃ v, vs[i]? = some v ∧ Den W G d v
  | [], vs, as, h, r, i, d, hi => by cases r; simp at hi
  | a :: l, vs, as, ⟨v, w, e1, p, q⟩, r, i, d, hi => by
    subst e1
    cases a with
    | v x =>
      simp only [slotsL, Option.map_eq_some_iff] at r
      obtain ⟨r', h1, rfl⟩ := r
      cases i with
      | zero => simp at hi; subst hi; exact ⟨v, rfl, p⟩
      | succ i => simpa using slots_val q h1 i d (by simpa using hi)
    | o j =>
      simp only [slotsL] at r
      split at r
      · obtain ⟨r', h1, rfl⟩ := Option.map_eq_some_iff.mp r
        cases i with
        | zero => simp at hi
        | succ i => simpa using slots_val q h1 i d (by simpa using hi)
      · cases r
theorem slots_own : ∀ {l : List AV} {vs : List V} {as : List Slot}, AvL W σ G l vs → slotsL e l = some as → ∀ (i : Nat) (d : D), as[i]? = some (.own d) → ∃ v j, vs[i]? = some v ∧ l[i]? = some (.o j) ∧ e[j]? = some (.own d) ∧ σ[j]? = some (some v)
  | [], vs, as, h, r, i, d, hi => by cases r; simp at hi
  | a :: l, vs, as, ⟨v, w, e1, p, q⟩, r, i, d, hi => by
    subst e1
    cases a with
    | v x =>
      simp only [slotsL, Option.map_eq_some_iff] at r
      obtain ⟨r', h1, rfl⟩ := r
      cases i with
      | zero => simp at hi
      | succ i => simpa using slots_own q h1 i d (by simpa using hi)
    | o j =>
      simp only [slotsL] at r
      split at r
      · rename_i x hx
        obtain ⟨r', h1, rfl⟩ := Option.map_eq_some_iff.mp r
        cases i with
        | zero => simp at hi; subst hi; exact ⟨v, j, rfl, rfl, hx, p⟩
        | succ i => simpa using slots_own q h1 i d (by simpa using hi)
      · cases r
theorem ownIx_mem : ∀ {l : List AV} {i j : Nat}, l[i]? = some (.o j) → j ∈ ownIx l
  | [], i, j, h => by simp at h
  | a :: l, 0, j, h => by
    simp at h; subst h; simp [ownIx]
  | a :: l, i + 1, j, h => by
    have := ownIx_mem (l := l) (i := i) (j := j) (by simpa using h)
    cases a <;> simp [ownIx, this]
theorem ownIx_inj : ∀ {l : List AV} {i k j : Nat}, nodupB (ownIx l) = true → l[i]? = some (.o j) → l[k]? = some (.o j) → i = k
  | [], i, k, j, n, h, h' => by simp at h
  | a :: l, 0, 0, j, n, h, h' => rfl
  | a :: l, i + 1, k + 1, j, n, h, h' => by
    have n' : nodupB (ownIx l) = true := by
      cases a with
      | v d => exact n
      | o x => exact (Bool.and_eq_true_iff.mp n).2
    exact congrArg (· + 1) (ownIx_inj (l := l) (i := i) (k := k) (j := j) n' (by simpa using h) (by simpa using h'))
  | a :: l, 0, k + 1, j, n, h, h' => by
    simp at h; subst h
    have h1 := ownIx_mem (l := l) (i := k) (j := j) (by simpa using h')
    have h2 := (Bool.and_eq_true_iff.mp n).1
    simp at h2
    exact absurd h1 h2
  | a :: l, i + 1, 0, j, n, h, h' => by
    simp at h'; subst h'
    have h1 := ownIx_mem (l := l) (i := i) (j := j) (by simpa using h)
    have h2 := (Bool.and_eq_true_iff.mp n).1
    simp at h2
    exact absurd h1 h2
theorem map_some {vs : List V} {i : Nat} {v : V} (h : vs[i]? = some v) : (vs.map some)[i]? = some (some v) := by rw [List.getElem?_map, h]; rfl
theorem of_map_some {vs : List V} {i : Nat} {v : V} (h : (vs.map some)[i]? = some (some v)) : vs[i]? = some v := by
  rw [List.getElem?_map] at h
  cases q : vs[i]? with
  | none => rw [q] at h; cases h
  | some w => rw [q] at h; cases h; rfl
theorem gd_args (g : Gd W π σ H G e) {l : List AV} {vs : List V} {as : List Slot} (hl : AvL W σ G l vs) (hs : slotsL e l = some as) (hn : nodupB (ownIx l) = true) : Gd W noPin (vs.map some) H G as where
  len := by rw [List.length_map]; exact (slots_len hl hs).symm
  sub := g.sub
  val := fun i d h => by
    obtain ⟨v, h1, h2⟩ := slots_val hl hs i d h
    exact ⟨v, map_some h1, h2⟩
  own := fun i d h => by
    obtain ⟨v, j, h1, h2, h3, h4⟩ := slots_own hl hs i d h
    obtain ⟨a, h5, h6, h7⟩ := g.own j d h3
    rw [h4] at h5; cases h5
    exact ⟨a, map_some h1, h6, h7⟩
  dis := fun i k d d' a h h' q q' => by
    obtain ⟨v, j, h1, h2, h3, h4⟩ := slots_own hl hs i d h
    obtain ⟨v', j', h1', h2', h3', h4'⟩ := slots_own hl hs k d' h'
    have e1 := of_map_some q
    have e2 := of_map_some q'
    rw [h1] at e1; cases e1
    rw [h1'] at e2; cases e2
    have := g.dis j j' d d' a h3 h3' h4 h4'
    subst this
    exact ownIx_inj hn h2 h2'
  pin := fun i d a h _ => nomatch h
theorem own_arg {l : List AV} {vs : List V} {as : List Slot} (hl : AvL W σ G l vs) (hs : slotsL e l = some as) {b : Addr} (h : ownA (vs.map some) as b) : ∃ (i j : Nat) (d : D), as[i]? = some (.own d) ∧ vs[i]? = some (.ref b) ∧ l[i]? = some (.o j) ∧ e[j]? = some (.own d) ∧ σ[j]? = some (some (.ref b)) := by
  obtain ⟨i, d, h1, h2⟩ := h
  obtain ⟨v, j, h3, h4, h5, h6⟩ := slots_own hl hs i d h1
  have e1 := of_map_some h2
  rw [h3] at e1; cases e1
  exact ⟨i, j, d, h1, h3, h4, h5, h6⟩
theorem putS_len : ∀ (as : List Slot) (ds : List D), (putS as ds).length = as.length
  | [], ds => by cases ds <;> rfl
  | s :: r, ds => by
    cases s with
    | own x => cases ds with
      | nil => simp [putS, putS_len r []]
      | cons d ds => simp [putS, putS_len r ds]
    | un => simp [putS, putS_len r ds]
    | val x => simp [putS, putS_len r ds]
theorem putS_own : ∀ (as : List Slot) (ds : List D) (i : Nat) (d : D), (putS as ds)[i]? = some (.own d) → ∃ d0, as[i]? = some (.own d0)
  | [], ds, i, d, h => by cases ds <;> simp [putS] at h
  | s :: r, ds, 0, d, h => by
    cases s with
    | own x => exact ⟨x, rfl⟩
    | un => simp [putS] at h
    | val x => simp [putS] at h
  | s :: r, ds, i + 1, d, h => by
    cases s with
    | own x => cases ds with
      | nil => simpa using putS_own r [] i d (by simpa [putS] using h)
      | cons y ds => simpa using putS_own r ds i d (by simpa [putS] using h)
    | un => simpa using putS_own r ds i d (by simpa [putS] using h)
    | val x => simpa using putS_own r ds i d (by simpa [putS] using h)
theorem putS_own' : ∀ (as : List Slot) (ds : List D) (i : Nat) (d0 : D), as[i]? = some (.own d0) → ∃ d, (putS as ds)[i]? = some (.own d)
  | [], ds, i, d, h => by simp at h
  | s :: r, ds, 0, d, h => by
    simp at h; subst h
    cases ds with
    | nil => exact ⟨d, rfl⟩
    | cons y ds => exact ⟨y, rfl⟩
  | s :: r, ds, i + 1, d, h => by
    cases s with
    | own x => cases ds with
      | nil => simpa [putS] using putS_own' r [] i d (by simpa using h)
      | cons y ds => simpa [putS] using putS_own' r ds i d (by simpa using h)
    | un => simpa [putS] using putS_own' r ds i d (by simpa using h)
    | val x => simpa [putS] using putS_own' r ds i d (by simpa using h)
theorem putS_val : ∀ (as : List Slot) (ds : List D) (i : Nat) (d : D), (putS as ds)[i]? = some (.val d) → as[i]? = some (.val d)
  | [], ds, i, d, h => by cases ds <;> simp [putS] at h
  | s :: r, ds, 0, d, h => by
    cases s with
    | own x => cases ds <;> simp [putS] at h
    | un => simp [putS] at h
    | val x => simpa [putS] using h
  | s :: r, ds, i + 1, d, h => by
    cases s with
    | own x => cases ds with
      | nil => simpa using putS_val r [] i d (by simpa [putS] using h)
      | cons y ds => simpa using putS_val r ds i d (by simpa [putS] using h)
    | un => simpa using putS_val r ds i d (by simpa [putS] using h)
    | val x => simpa using putS_val r ds i d (by simpa [putS] using h)
theorem putOuts_get : ∀ {l : List AV} {as : List Slot} {outs : List D} {e e0 : Env} {j : Nat} {s : Slot}, slotsL e0 l = some as → outs.length = (ownIx l).length → (putOuts e (ownIx l) outs)[j]? = some s →
    (∃ (i : Nat) (d : D), l[i]? = some (.o j) ∧ (putS as outs)[i]? = some (.own d) ∧ s = .own d) ∨ (j ∉ ownIx l ∧ e[j]? = some s)
  | [], as, outs, e, e0, j, s, hs, hl, h => .inr ⟨by simp [ownIx], by cases outs <;> exact h⟩
  | a :: l, as, outs, e, e0, j, s, hs, hl, h => by
    cases a with
    | v d =>
      simp only [slotsL, Option.map_eq_some_iff] at hs
      obtain ⟨r, h1, rfl⟩ := hs
      rcases putOuts_get (l := l) (as := r) h1 hl (show (putOuts e (ownIx l) outs)[j]? = some s from h) with ⟨i, x, p, q, w⟩ | q
      · exact .inl ⟨i + 1, x, by simpa using p, by simpa [putS] using q, w⟩
      · exact .inr q
    | o k =>
      simp only [slotsL] at hs
      split at hs
      · rename_i x hx
        obtain ⟨r, h1, rfl⟩ := Option.map_eq_some_iff.mp hs
        cases outs with
        | nil => simp [ownIx] at hl
        | cons d ds =>
          rcases putOuts_get (l := l) (as := r) h1 (by simpa [ownIx] using hl) (show (putOuts (e.set k (.own d)) (ownIx l) ds)[j]? = some s from h) with ⟨i, x, p, q, w⟩ | ⟨n, q⟩
          · exact .inl ⟨i + 1, x, by simpa using p, by simpa [putS] using q, w⟩
          · rcases get_set_some q with ⟨z, w⟩ | ⟨z, w⟩
            · subst z; exact .inl ⟨0, d, rfl, rfl, w⟩
            · refine .inr ⟨?_, w⟩
              simp only [ownIx, List.mem_cons, not_or]
              exact ⟨fun y => z y.symm, n⟩
      · cases hs
theorem putOuts_len : ∀ (is : List Nat) (ds : List D) (e : Env), (putOuts e is ds).length = e.length
  | [], ds, e => rfl
  | i :: is, [], e => rfl
  | i :: is, d :: ds, e => by rw [show putOuts e (i :: is) (d :: ds) = putOuts (e.set i (.own d)) is ds from rfl, putOuts_len is ds, List.length_set]
theorem gd_after (g : Gd W π σ H G e) {l : List AV} {vs : List V} {as : List Slot} {outs : List D} (hl : AvL W σ G l vs) (hs : slotsL e l = some as) (hn : nodupB (ownIx l) = true) (ho : outs.length = (ownIx l).length)
    (g' : Gd W noPin (vs.map some) H' G' (putS as outs)) (s' : Stp (vs.map some) H G as (vs.map some) H' G' (putS as outs)) : Gd W π σ H' G' (putOuts e (ownIx l) outs) ∧ Stp σ H G e σ H' G' (putOuts e (ownIx l) outs) := by
  have lent : ∀ {j : Nat} {d : D}, (∃ (i : Nat), l[i]? = some (.o j) ∧ (putS as outs)[i]? = some (.own d)) → ∃ (i : Nat) (a : Addr) (d0 : D), l[i]? = some (.o j) ∧ as[i]? = some (.own d0) ∧ e[j]? = some (.own d0) ∧ σ[j]? = some (some (.ref a)) ∧ vs[i]? = some (.ref a) ∧ G' a = none ∧ OwnT W H' G' d a := by
    rintro j d ⟨i, h1, h2⟩
    obtain ⟨a, h3, h4, h5⟩ := g'.own i d h2
    obtain ⟨d0, h6⟩ := putS_own as outs i d h2
    obtain ⟨v, j', h7, h8, h9, h10⟩ := slots_own hl hs i d0 h6
    rw [h1] at h8; cases h8
    have e1 := of_map_some h3
    rw [h7] at e1; cases e1
    exact ⟨i, a, d0, h1, h6, h9, h10, h7, h4, h5⟩
  have keep : ∀ {j : Nat} {d : D} {a : Addr}, j ∉ ownIx l → e[j]? = some (.own d) → σ[j]? = some (some (.ref a)) → ¬ ownA (vs.map some) as a := by
    intro j d a hj he hσ hA
    obtain ⟨i, j', d', h1, h2, h3, h4, h5⟩ := own_arg hl hs hA
    have := g.dis j j' d d' a he h4 hσ h5
    subst this
    exact hj (ownIx_mem h3)
  have other : ∀ {j : Nat} {d : D}, j ∉ ownIx l → e[j]? = some (.own d) → ∃ a, σ[j]? = some (some (.ref a)) ∧ G' a = none ∧ OwnT W H' G' d a := by
    intro j d hj he
    obtain ⟨a, h1, h2, h3⟩ := g.own j d he
    have hA := keep hj he h1
    obtain ⟨o, ho⟩ := h3.some
    refine ⟨a, h1, ?_, h3.keep (by rw [ho]; exact s'.k a o ho hA) s'.g⟩
    refine Classical.byContradiction fun z => ?_
    rcases s'.n a z with h | h | h
    · exact h h2
    · rw [h] at ho; cases ho
    · exact hA h
  have gg : Gd W π σ H' G' (putOuts e (ownIx l) outs) := {
    len := by rw [putOuts_len]; exact g.len
    sub := g'.sub
    val := fun j d h => by
      rcases putOuts_get hs ho h with ⟨i, x, _, _, w⟩ | ⟨_, w⟩
      · cases w
      · obtain ⟨v, h1, h2⟩ := g.val j d w
        exact ⟨v, h1, Den.mono s'.g d v h2⟩
    own := fun j d h => by
      rcases putOuts_get hs ho h with ⟨i, x, p, q, w⟩ | ⟨hj, w⟩
      · cases w
        obtain ⟨_, a, _, _, _, _, h4, _, h5, h6⟩ := lent ⟨i, p, q⟩
        exact ⟨a, h4, h5, h6⟩
      · exact other hj w
    dis := fun j k d d' a h h' q q' => by
      have f : ∀ {j : Nat} {d : D}, (putOuts e (ownIx l) outs)[j]? = some (.own d) → ∃ d0, e[j]? = some (.own d0) := by
        intro j d h
        rcases putOuts_get hs ho h with ⟨i, x, p, q, w⟩ | ⟨hj, w⟩
        · cases w
          obtain ⟨_, a, d0, _, _, h3, _⟩ := lent ⟨i, p, q⟩
          exact ⟨d0, h3⟩
        · exact ⟨d, w⟩
      obtain ⟨d1, h1⟩ := f h
      obtain ⟨d2, h2⟩ := f h'
      exact g.dis j k d1 d2 a h1 h2 q q'
    pin := fun j d a h h' => by
      rcases putOuts_get hs ho h' with ⟨i, x, p, q, w⟩ | ⟨hj, w⟩
      · cases w
        obtain ⟨_, b, d0, _, _, h3, _⟩ := lent ⟨i, p, q⟩
        exact g.pin j d0 a h h3
      · exact g.pin j d a h w }
  have toE : ∀ {b : Addr}, ownA (vs.map some) as b → ownA σ e b := fun {b} h => by
    obtain ⟨i, j, d, h1, h2, h3, h4, h5⟩ := own_arg hl hs h
    exact ⟨j, d, h4, h5⟩
  refine ⟨gg, s'.g, fun b h => ?_, fun b o h hn => s'.k b o h fun z => hn (toE z), s'.p, fun b h => .inl ?_⟩
  · rcases s'.n b h with h | h | h
    · exact .inl h
    · exact .inr (.inl h)
    · exact .inr (.inr (toE h))
  · obtain ⟨j, d, h1, h2⟩ := h
    rcases putOuts_get hs ho h1 with ⟨i, x, p, q, w⟩ | ⟨hj, w⟩
    · cases w
      obtain ⟨_, b', d0, _, _, h3, _⟩ := lent ⟨i, p, q⟩
      exact ⟨j, d0, h3, h2⟩
    · exact ⟨j, d, w, h2⟩
theorem rv_after (g : Gd W π σ H G e) {fr : Bool} {l : List AV} {vs : List V} {as : List Slot} {outs : List D} {d : D} {v : V} (hl : AvL W σ G l vs) (hs : slotsL e l = some as) (ho : outs.length = (ownIx l).length)
    (g' : Gd W noPin (vs.map some) H' G' (putS as outs)) (r : RV W fr (vs.map some) H as (vs.map some) H' G' (putS as outs) d v) : RV W fr σ H e σ H' G' (putOuts e (ownIx l) outs) d v := by
  unfold RV at r ⊢
  split
  · rename_i h
    rw [if_pos h] at r
    obtain ⟨a, rfl, h0, h1, h2, h3⟩ := r
    have hn : H a = none := by
      rcases h0 with h0 | h0
      · exact h0
      · obtain ⟨i, d0, h4, h5⟩ := h0
        obtain ⟨d1, h6⟩ := putS_own' as outs i d0 h4
        exact absurd ⟨i, d1, h6, h5⟩ h3
    refine ⟨a, rfl, .inl hn, h1, h2, ?_⟩
    rintro ⟨j, x, h4, h5⟩
    have : ∃ d0, e[j]? = some (.own d0) := by
      rcases putOuts_get hs ho h4 with ⟨i, y, p, q, w⟩ | ⟨hj, w⟩
      · obtain ⟨d0, h6⟩ := putS_own as outs i y q
        obtain ⟨_, j', _, h8, h9, _⟩ := slots_own hl hs i d0 h6
        rw [p] at h8; cases h8
        exact ⟨d0, h9⟩
      · exact ⟨x, w⟩
    obtain ⟨d0, h6⟩ := this
    obtain ⟨b, h7, h8, h9⟩ := g.own j d0 h6
    rw [h5] at h7; cases h7
    exact h9.there hn
  · rename_i h
    rw [if_neg h] at r
    exact r
end
section
variable {C : Cfg} {X : Cx} {a b c : PySem.Expr} {pos : Pos} {fr : Bool}
theorem call_core {Φ : Fns} {f : Nat} {σ : L2.St} {H G : Hp} {e : Env} {l : List AV} {vs : List V} {Q : VK} (g : Gd C.W C.π σ H G e) (hl : AvL C.W σ G l vs)
    (h : Go C (pV C.W (Φ.fresh f) σ) (callR Φ f l e) σ H G e Q) : spF C.W Φ f vs H Q (WE C.Z σ) := by
  unfold callR at h
  split at h
  · rename_i as hs
    split at h
    · rename_i hn
      refine ⟨G, as, gd_args g hl hs hn, ?_⟩
      cases hf : Φ.fn f as with
      | ok d outs =>
        rw [hf] at h
        dsimp only at h ⊢
        split at h
        · rename_i ho
          intro v H' G' g' s' r
          obtain ⟨g2, s2⟩ := gd_after g hl hs hn ho g' s'
          exact h v H' G' g2 s2 (rv_after g hl hs ho g' r)
        · exact h.elim
      | exc x outs =>
        rw [hf] at h
        dsimp only at h ⊢
        split at h
        · rename_i ho
          intro cls dd H' G' xv g' s'
          obtain ⟨g2, s2⟩ := gd_after g hl hs hn ho g' s'
          exact h cls dd H' G' xv g2 s2
        · exact h.elim
      | bad => rw [hf] at h; exact h.elim
    · exact h.elim
  · exact h.elim
theorem se_call {Φ : Fns} {f : Nat} {es : List PySem.Expr} {rs : Env → R (List AV)} {ex : PySem.Expr} (p : ∀ {t : TA}, PA X es t → PE X ex (tCallS (spF C.W Φ f) (WE C.Z) t)) (ps : PA X es (tAs C rs)) :
    PE X ex (tE C (Φ.fresh f) fun e => (rs e).bind fun l e => callR Φ f l e) :=
  pe_imp (by
    rintro σ H Q ⟨G, e, g, h⟩
    exact ⟨G, e, g, Go.bind back_v h fun l e1 vs H1 G1 g1 s1 p1 h1 => call_core g1 p1 h1⟩) (p ps)
end
end TI
set_option Elab.async false
set_option linter.all false
set_option maxRecDepth 100000
set_option maxHeartbeats 1000000
namespace TI
open PySem PySem.Spec L2
def Gs (C : Cfg) (fr : Bool) (r : RS) (σ : L2.St) (H G : Hp) (e : Env) (D : Ends) : Prop := match r with
  | .nx e' => ∀ σ' H' G', Gd C.W C.π σ' H' G' e' → Stp σ H G e σ' H' G' e' → D.nx σ' H'
  | .rt d e' => ∀ v σ' H' G', Gd C.W C.π σ' H' G' e' → Stp σ H G e σ' H' G' e' → RV C.W fr σ H e σ' H' G' e' d v → D.rt v H'
  | .exc x e' => ∀ cls dd σ' H' G', Xv C.W x cls dd H' G' → Gd C.W C.π σ' H' G' e' → Stp σ H G e σ' H' G' e' → C.Z cls dd σ' H'
  | .bad => False
def tS (C : Cfg) (fr : Bool) (r : Env → RS) : TS := fun D σ H => ∃ G e, Gd C.W C.π σ H G e ∧ Gs C fr (r e) σ H G e D
section
variable {C : Cfg} {fr : Bool} {σ σ1 : L2.St} {H G H1 G1 : Hp} {e e1 : Env} {Dn : Ends}
theorem Gs.later {r : RS} (s : Stp σ H G e σ1 H1 G1 e1) (h : Gs C fr r σ H G e Dn) : Gs C fr r σ1 H1 G1 e1 Dn := by
  cases r with
  | nx e' => exact fun σ' H' G' g' s' => h σ' H' G' g' (s.trans s')
  | rt d e' => exact fun v σ' H' G' g' s' r => h v σ' H' G' g' (s.trans s') (RV.back s r)
  | exc x e' => exact fun cls dd σ' H' G' xv g' s' => h cls dd σ' H' G' xv g' (s.trans s')
  | bad => exact h
theorem Gs.of0 {α β : Type} {P1 : Hp → Env → α → β → Hp → Hp → Env → Prop} {r : R α} {f : α → Env → RS} {Q1 : β → Hp → Prop} (h : Gs C fr (RS.of r f) σ H G e Dn)
    (step : ∀ a e1 b H1 G1, Gd C.W C.π σ H1 G1 e1 → Stp σ H G e σ H1 G1 e1 → P1 H e a b H1 G1 e1 → Gs C fr (f a e1) σ H G e Dn → Q1 b H1) : Go C P1 r σ H G e Q1 := by
  cases r with
  | ok a e' => exact fun b H' G' g' s' p => step a e' b H' G' g' s' p h
  | exc x e' => exact fun cls dd H' G' xv g' s' => h cls dd σ H' G' xv g' s'
  | bad => exact h
theorem Gs.of00 {α β : Type} {P1 : Hp → Env → α → β → Hp → Hp → Env → Prop} {r : R α} {f : α → Env → RS} {Q1 : β → Hp → Prop} (h : Gs C fr (RS.of r f) σ H G e Dn) (s1 : Stp σ H G e σ H1 G1 e1)
    (step : ∀ a e2 b H2 G2, Gd C.W C.π σ H2 G2 e2 → Stp σ H1 G1 e1 σ H2 G2 e2 → P1 H1 e1 a b H2 G2 e2 → Gs C fr (f a e2) σ H G e Dn → Q1 b H2) : Go C P1 r σ H1 G1 e1 Q1 := by
  cases r with
  | ok a e' => exact fun b H' G' g' s' p => step a e' b H' G' g' s' p h
  | exc x e' => exact fun cls dd H' G' xv g' s' => h cls dd σ H' G' xv g' (s1.trans s')
  | bad => exact h
theorem Gs.of {α β : Type} {P1 : Hp → Env → α → β → Hp → Hp → Env → Prop} {r : R α} {f : α → Env → RS} {Q1 : β → Hp → Prop} (h : Gs C fr (RS.of r f) σ H G e Dn)
    (step : ∀ a e1 b H1 G1, Gd C.W C.π σ H1 G1 e1 → Stp σ H G e σ H1 G1 e1 → P1 H e a b H1 G1 e1 → Gs C fr (f a e1) σ H1 G1 e1 Dn → Q1 b H1) : Go C P1 r σ H G e Q1 :=
  Gs.of0 h fun a e1 b H1 G1 g1 s1 p1 h1 => step a e1 b H1 G1 g1 s1 p1 (Gs.later s1 h1)
theorem Gs.bind {r : RS} {f : Env → RS} (h : Gs C fr (r.bind f) σ H G e Dn) : Gs C fr r σ H G e { Dn with nx := tS C fr f Dn } := by
  cases r with
  | nx e' => exact fun σ' H' G' g' s' => ⟨G', e', g', Gs.later s' h⟩
  | rt d e' => exact h
  | exc x e' => exact h
  | bad => exact h
theorem Gs.mono {r : RS} {D' : Ends} (h : Gs C fr r σ H G e Dn) (h1 : ∀ σ' H', Dn.nx σ' H' → D'.nx σ' H') (h2 : ∀ v H', Dn.rt v H' → D'.rt v H') : Gs C fr r σ H G e D' := by
  cases r with
  | nx e' => exact fun σ' H' G' g' s' => h1 _ _ (h σ' H' G' g' s')
  | rt d e' => exact fun v σ' H' G' g' s' r => h2 _ _ (h v σ' H' G' g' s' r)
  | exc x e' => exact h
  | bad => exact h
theorem Gs.of_some {α : Type} {o : Option α} {f : α → Env → RS} {e2 : Env} (h : Gs C fr (RS.of (R.of o e2) f) σ H G e Dn) : ∃ a, o = some a ∧ Gs C fr (f a e2) σ H G e Dn := by
  cases o with
  | none => exact h.elim
  | some a => exact ⟨a, rfl, h⟩
theorem get_set_st {s : L2.St} {i j : Nat} {v : Option V} {w : Option V} (h : (s.set i v)[j]? = some w) : (i = j ∧ w = v) ∨ (i ≠ j ∧ s[j]? = some w) := by
  rw [List.getElem?_set] at h
  by_cases hij : i = j
  · subst hij
    rw [if_pos rfl] at h
    split at h
    · cases h; exact .inl ⟨rfl, rfl⟩
    · cases h
  · rw [if_neg hij] at h; exact .inr ⟨hij, h⟩
theorem set_st_ne {s : L2.St} {i j : Nat} {v : Option V} (h : i ≠ j) : (s.set i v)[j]? = s[j]? := by rw [List.getElem?_set_ne h]
theorem set_st_eq {s : L2.St} {i : Nat} {v : Option V} (h : i < s.length) : (s.set i v)[i]? = some v := by rw [List.getElem?_set_self h]
variable {W : Wd} {π : Nat → Option Addr}
theorem gd_setv (g : Gd W π σ H G e) (i : Nat) {d : D} {v : V} (hd : Den W G d v) : Gd W π (σ.set i (some v)) H G (e.set i (.val d)) where
  len := by rw [List.length_set, List.length_set]; exact g.len
  sub := g.sub
  val := fun j x h => by
    rcases get_set_some h with ⟨y, z⟩ | ⟨y, z⟩
    · cases z; subst y
      have hl : i < σ.length := by rw [g.len]; have := lt_of_get h; rw [List.length_set] at this; exact this
      exact ⟨v, set_st_eq hl, hd⟩
    · obtain ⟨u, h1, h2⟩ := g.val j x z
      exact ⟨u, by rw [set_st_ne y]; exact h1, h2⟩
  own := fun j x h => by
    rcases get_set_some h with ⟨y, z⟩ | ⟨y, z⟩
    · cases z
    · obtain ⟨u, h1, h2⟩ := g.own j x z
      exact ⟨u, by rw [set_st_ne y]; exact h1, h2⟩
  dis := fun j k x y b h h' q q' => by
    rcases get_set_some h with ⟨_, z⟩ | ⟨n, z⟩
    · cases z
    · rcases get_set_some h' with ⟨_, z'⟩ | ⟨n', z'⟩
      · cases z'
      · rw [set_st_ne n] at q; rw [set_st_ne n'] at q'
        exact g.dis j k x y b z z' q q'
  pin := fun j x b h h' => by
    rcases get_set_some h' with ⟨_, z⟩ | ⟨n, z⟩
    · cases z
    · rw [set_st_ne n]; exact g.pin j x b h z
theorem own_setv {i : Nat} {d : D} {v : V} {b : Addr} (h : ownA (σ.set i (some v)) (e.set i (.val d)) b) : ownA σ e b := by
  obtain ⟨j, x, h1, h2⟩ := h
  rcases get_set_some h1 with ⟨_, z⟩ | ⟨n, z⟩
  · cases z
  · rw [set_st_ne n] at h2; exact ⟨j, x, z, h2⟩
theorem gd_seto (g : Gd W π σ H G e) {i : Nat} (hp : π i = none) {d : D} {a : Addr} (ga : G a = none) (ho : OwnT W H G d a) (hn : ¬ ownA σ e a) : Gd W π (σ.set i (some (.ref a))) H G (e.set i (.own d)) where
  len := by rw [List.length_set, List.length_set]; exact g.len
  sub := g.sub
  val := fun j x h => by
    rcases get_set_some h with ⟨y, z⟩ | ⟨y, z⟩
    · cases z
    · obtain ⟨u, h1, h2⟩ := g.val j x z
      exact ⟨u, by rw [set_st_ne y]; exact h1, h2⟩
  own := fun j x h => by
    rcases get_set_some h with ⟨y, z⟩ | ⟨y, z⟩
    · cases z; subst y
      have hl : i < σ.length := by rw [g.len]; have := lt_of_get h; rw [List.length_set] at this; exact this
      exact ⟨a, set_st_eq hl, ga, ho⟩
    · obtain ⟨u, h1, h2⟩ := g.own j x z
      exact ⟨u, by rw [set_st_ne y]; exact h1, h2⟩
  dis := fun j k x y b h h' q q' => by
    rcases get_set_some h with ⟨p, z⟩ | ⟨n, z⟩
    · rcases get_set_some h' with ⟨p', z'⟩ | ⟨n', z'⟩
      · exact p.symm.trans p'
      · rw [set_st_ne n'] at q'
        rcases get_set_st q with ⟨_, w⟩ | ⟨w, _⟩
        · cases w; exact absurd ⟨k, y, z', q'⟩ hn
        · exact absurd p w
    · rcases get_set_some h' with ⟨p', z'⟩ | ⟨n', z'⟩
      · rw [set_st_ne n] at q
        rcases get_set_st q' with ⟨_, w⟩ | ⟨w, _⟩
        · cases w; exact absurd ⟨j, x, z, q⟩ hn
        · exact absurd p' w
      · rw [set_st_ne n] at q; rw [set_st_ne n'] at q'
        exact g.dis j k x y b z z' q q'
  pin := fun j x b h h' => by
    rcases get_set_some h' with ⟨p, z⟩ | ⟨n, z⟩
    · subst p; rw [hp] at h; cases h
    · rw [set_st_ne n]; exact g.pin j x b h z
theorem own_seto {i : Nat} {d : D} {a b : Addr} (h : ownA (σ.set i (some (.ref a))) (e.set i (.own d)) b) : ownA σ e b ∨ b = a := by
  obtain ⟨j, x, h1, h2⟩ := h
  rcases get_set_some h1 with ⟨p, z⟩ | ⟨n, z⟩
  · rcases get_set_st h2 with ⟨_, w⟩ | ⟨w, _⟩
    · cases w; exact .inr rfl
    · exact absurd p w
  · rw [set_st_ne n] at h2; exact .inl ⟨j, x, z, h2⟩
theorem gd_take {σ₀ : L2.St} {H₀ G₀ : Hp} {e₀ : Env} (g : Gd W π σ H G e) (s : Stp σ₀ H₀ G₀ e₀ σ H G e) {i : Nat} {o : Bool} {d : D} {v : V} (r : RV W fr σ₀ H₀ e₀ σ H G e d v) (ho : o = true → π i = none ∧ (fr && isBox d) = true) :
    ∃ G2, Gd W π (σ.set i (some v)) H G2 (e.set i (mk o d)) ∧ Stp σ₀ H₀ G₀ e₀ (σ.set i (some v)) H G2 (e.set i (mk o d)) ∧ (∀ b, G2 b ≠ none → G b ≠ none ∨ ((fr && isBox d) = true ∧ v = .ref b)) ∧
      (∀ b, ownA (σ.set i (some v)) (e.set i (mk o d)) b → ownA σ e b ∨ ((fr && isBox d) = true ∧ v = .ref b)) ∧ Sub G G2 := by
  cases o with
  | true =>
    obtain ⟨hp, hf⟩ := ho rfl
    obtain ⟨a, rfl, h0, h1, h2, h3⟩ := RV.toNew hf r
    refine ⟨G, gd_seto g hp h1 h2 h3, ⟨s.g, s.n, s.k, s.p, fun b h => ?_⟩, fun b h => .inl h, fun b h => ?_, Sub.refl _⟩
    · rcases own_seto h with h | h
      · exact s.o b h
      · subst h; exact h0.symm
    · rcases own_seto h with h | h
      · exact .inl h
      · subst h; exact .inr ⟨hf, rfl⟩
  | false =>
    cases hf : (fr && isBox d) with
    | false =>
      have hd := RV.toDen hf r
      exact ⟨G, gd_setv g i hd, ⟨s.g, s.n, s.k, s.p, fun b h => s.o b (own_setv h)⟩, fun b h => .inl h, fun b h => .inl (own_setv h), Sub.refl _⟩
    | true =>
      obtain ⟨a, rfl, h0, h1, h2, h3⟩ := RV.toNew hf r
      obtain ⟨u, hu⟩ := h2.some
      have g1 := g.grow h1 h3
      have hd : Den W (add G H a) d (.ref a) := h2.den hu (add_sub h1) (by rw [add_same]; exact hu)
      have s1 := s.grow h1 h0
      refine ⟨add G H a, gd_setv g1 i hd, ⟨s1.g, s1.n, s1.k, s1.p, fun b h => s1.o b (own_setv h)⟩, fun b h => ?_, fun b h => .inl (own_setv h), add_sub h1⟩
      by_cases z : b = a
      · subst z; exact .inr ⟨rfl, rfl⟩
      · rw [add_ne z] at h; exact .inl h
end
section
variable {C : Cfg} {X : Cx} {a b c : PySem.Expr} {pos : Pos} {fr : Bool}
theorem ss_set {i : Nat} {o : Bool} {f1 : Bool} {st : Stmt} {r : Env → R D} (p : ∀ {te : TE}, PE X a te → PS X st (tAsg te (gName i))) (pa : PE X a (tE C f1 r)) (ho : o = true → C.π i = none ∧ f1 = true) :
    PS X st (tS C fr fun e => RS.of (r e) fun d e => if (!o || isBox d) then .nx (e.set i (mk o d)) else .bad) :=
  ps_imp (by
    rintro Dn σ H ⟨G, e, g, h⟩
    refine ⟨G, e, g, Gs.of0 h fun d e1 v H1 G1 g1 s1 p1 h1 => ?_⟩
    split at h1
    · rename_i hb
      obtain ⟨G2, g2, s2, _⟩ := gd_take (i := i) (o := o) g1 s1 p1 fun z => ⟨(ho z).1, by rw [(ho z).2]; rw [z] at hb; simpa using hb⟩
      exact h1 _ _ _ g2 s2
    · exact h1.elim) (p pa)
theorem ss_expr {f1 : Bool} {r : Env → R D} (pa : PE X a (tE C f1 r)) (hs : swapsWith a none pos.line X.env = pure false) : PS X (.Expr a pos) (tS C fr fun e => RS.of (r e) fun _ e => .nx e) :=
  ps_imp (by
    rintro Dn σ H ⟨G, e, g, h⟩
    exact ⟨G, e, g, Gs.of0 h fun d e1 v H1 G1 g1 s1 p1 h1 => h1 _ _ _ g1 s1⟩) (ps_expr pa hs)
theorem ss_ret {f1 : Bool} {r : Env → R D} (pa : PE X a (tE C f1 r)) (hf : fr = true → f1 = true) : PS X (.Return (some a) pos) (tS C fr fun e => RS.of (r e) fun d e => .rt d e) :=
  ps_imp (by
    rintro Dn σ H ⟨G, e, g, h⟩
    refine ⟨G, e, g, Gs.of0 h fun d e1 v H1 G1 g1 s1 p1 h1 => ?_⟩
    cases fr with
    | true =>
      rw [hf rfl] at p1
      exact h1 v σ H1 G1 g1 s1 p1
    | false =>
      obtain ⟨G2, g2, s2, d2, _⟩ := RV.give g1 p1 s1
      exact h1 v σ H1 G2 g2 s2 (RV.den rfl d2)) (ps_ret pa)
theorem ss_retN : PS X (.Return none pos) (tS C fr fun e => .rt .non e) :=
  ps_imp (by
    rintro Dn σ H ⟨G, e, g, h⟩
    exact h .non σ H G g Stp.refl (RV.den (Bool.and_false _) den_non)) ps_retN
theorem ss_pass : PS X (.Pass pos) (tS C fr fun e => .nx e) :=
  ps_imp (by
    rintro Dn σ H ⟨G, e, g, h⟩
    exact h σ H G g Stp.refl) ps_pass
theorem ss_doc {x : Str} {j : Nat} {p2 : Pos} : PS X (.Expr (.Constant (.str x) j p2) pos) (tS C fr fun e => .nx e) :=
  ps_imp (by
    rintro Dn σ H ⟨G, e, g, h⟩
    exact h σ H G g Stp.refl) ps_doc
theorem ss_dead {st : Stmt} : PS X st (tS C fr fun _ => .bad) :=
  ps_imp (by
    rintro Dn σ H ⟨G, e, g, h⟩
    exact h) (ps_never (st := st))
theorem sss_nil : PSs X [] (tS C fr fun e => .nx e) :=
  pss_imp (by
    rintro Dn σ H ⟨G, e, g, h⟩
    exact h σ H G g Stp.refl) pss_nil
theorem sss_cons {st : Stmt} {sts : List Stmt} {r rs : Env → RS} (p : PS X st (tS C fr r)) (ps : PSs X sts (tS C fr rs)) : PSs X (st :: sts) (tS C fr fun e => (r e).bind rs) :=
  pss_imp (by
    rintro Dn σ H ⟨G, e, g, h⟩
    exact ⟨G, e, g, Gs.bind h⟩) (pss_cons p ps)
theorem ss_if {r : Env → R D} {ra rb : Env → RS} {sa sb : List Stmt} (pc : PT X c (tT C (rT r))) (pa : PSs X sa (tS C fr ra)) (pb : PSs X sb (tS C fr rb)) :
    PS X (.If c sa sb pos) (tS C fr fun e => RS.of (r e) fun x e => RS.of (R.of (tru x) e) fun t e => if t then ra e else rb e) :=
  ps_imp (by
    rintro Dn σ H ⟨G, e, g, h⟩
    have h : Gs C fr (RS.of (rT r e) fun t e => if t then ra e else rb e) σ H G e Dn := by
      unfold rT
      dsimp only at h
      cases q : r e with
      | ok x e' => rw [q] at h; exact h
      | exc x e' => rw [q] at h; exact h
      | bad => rw [q] at h; exact h
    refine ⟨G, e, g, Gs.of h fun t e1 u H1 G1 g1 s1 p1 h1 => ?_⟩
    cases p1
    cases t with
    | true => exact ⟨G1, e1, g1, h1⟩
    | false => exact ⟨G1, e1, g1, h1⟩) (ps_if pc pa pb)
theorem ss_while {r : Env → R D} {rb : Env → RS} {sb : List Stmt} (hp : PassesOwn (model X.prog X.w) X.A X.env X.xe) (pc : PT X c (tT C (rT r))) (pb : PSs X sb (tS C fr rb)) :
    PS X (.While c sb [] pos) (tS C fr fun e => loopW fuel (rT r) rb e) :=
  ps_imp (by
    rintro Dn σ H ⟨G, e, g, h⟩
    refine ⟨fun m σ1 H1 => ∃ G1 e1, Gd C.W C.π σ1 H1 G1 e1 ∧ Gs C fr (loopW m (rT r) rb e1) σ1 H1 G1 e1 Dn, ⟨fuel, G, e, g, h⟩, ?_⟩
    rintro m σ1 H1 ⟨G1, e1, g1, h1⟩
    cases m with
    | zero => exact h1.elim
    | succ m =>
      refine ⟨G1, e1, g1, Gs.of (show Gs C fr (RS.of (rT r e1) fun t e => if t then (rb e).bind (loopW m (rT r) rb) else .nx e) σ1 H1 G1 e1 Dn from h1) fun t e2 u H2 G2 g2 s2 p2 h2 => ?_⟩
      cases p2
      cases t with
      | true =>
        rw [if_pos rfl] at h2 ⊢
        exact ⟨_, fun σ' H' n => ⟨m, Nat.lt_succ_self m, n⟩, G2, e2, g2, Gs.mono (Gs.bind h2) (fun _ _ z => z) fun _ _ z => z⟩
      | false =>
        rw [if_neg Bool.false_ne_true] at h2 ⊢
        exact h2 _ _ _ g2 Stp.refl) (ps_while hp pc pb)
theorem rv_step {W : Wd} {σ : L2.St} {H G H2 G2 H₀ : Hp} {e e2 e₀ : Env} {x : D} {u : V} (p : RV W fr σ H₀ e₀ σ H G e x u) (s : Stp σ H G e σ H2 G2 e2) : RV W fr σ H₀ e₀ σ H2 G2 e2 x u := by
  unfold RV at p ⊢
  split
  · rename_i z; rw [if_pos z] at p; exact FrV.step p s
  · rename_i z; rw [if_neg z] at p; exact Den.mono s.g x u p
theorem rv_ne {W : Wd} {fa fb : Bool} {σ : L2.St} {H1 G1 H2 G2 H₀ : Hp} {e1 e2 e₀ : Env} {x y : D} {u v : V} (p1 : RV W fa σ H₀ e₀ σ H1 G1 e1 x u) (p2 : RV W fb σ H1 e1 σ H2 G2 e2 y v) (h1 : (fa && isBox x) = true) (h2 : (fb && isBox y) = true) : u ≠ v := by
  obtain ⟨a, rfl, _, _, q1, q2⟩ := RV.toNew h1 p1
  obtain ⟨b, rfl, q3, _⟩ := RV.toNew h2 p2
  intro z
  cases z
  rcases q3 with q3 | q3
  · exact q1.there q3
  · exact q2 q3
theorem rv_skip {W : Wd} {fa fb : Bool} {σ₀ σ σ' : L2.St} {H G G' H₀ : Hp} {e e' e₀ : Env} {x y : D} {u v : V} (p : RV W fb σ₀ H₀ e₀ σ H G e y v) (ne : (fa && isBox x) = true → (fb && isBox y) = true → u ≠ v)
    (n : ∀ b, G' b ≠ none → G b ≠ none ∨ ((fa && isBox x) = true ∧ u = .ref b)) (o : ∀ b, ownA σ' e' b → ownA σ e b ∨ ((fa && isBox x) = true ∧ u = .ref b)) (s : Sub G G') : RV W fb σ₀ H₀ e₀ σ' H G' e' y v := by
  unfold RV at p ⊢
  split
  · rename_i z
    rw [if_pos z] at p
    obtain ⟨b, rfl, h0, h1, h2, h3⟩ := p
    refine ⟨b, rfl, h0, ?_, h2.keep rfl s, fun w => ?_⟩
    · refine Classical.byContradiction fun w => ?_
      rcases n b w with w | ⟨w, w'⟩
      · exact w h1
      · exact ne w z w'
    · rcases o b w with w | ⟨w, w'⟩
      · exact h3 w
      · exact ne w z w'
  · rename_i z; rw [if_neg z] at p; exact Den.mono s y v p
theorem ss_par2 {i j : Nat} {oi oj : Bool} {fa fb : Bool} {st : Stmt} {ra rb : Env → R D} (p : ∀ {ta tb : TE}, PE X a ta → PE X b tb → PS X st (tPar i j (tCons ta (tCons tb tNil)))) (pa : PE X a (tE C fa ra)) (pb : PE X b (tE C fb rb))
    (hi : oi = true → C.π i = none ∧ fa = true) (hj : oj = true → C.π j = none ∧ fb = true) :
    PS X st (tS C fr fun e => RS.of (ra e) fun x e => RS.of (rb e) fun y e => if (!oi || isBox x) && (!oj || isBox y) then .nx ((e.set i (mk oi x)).set j (mk oj y)) else .bad) :=
  ps_imp (by
    rintro Dn σ H ⟨G, e, g, h⟩
    refine ⟨G, e, g, Gs.of0 h fun x e1 u H1 G1 g1 s1 p1 h1 => ⟨G1, e1, g1, Gs.of00 h1 s1 fun y e2 v H2 G2 g2 s2 p2 h2 => ⟨u, v, rfl, ?_⟩⟩⟩
    split at h2
    · rename_i hb
      obtain ⟨hb1, hb2⟩ := Bool.and_eq_true_iff.mp hb
      have ne := rv_ne p1 p2
      obtain ⟨G3, g3, s3, n3, o3, u3⟩ := gd_take (i := i) (o := oi) g2 (s1.trans s2) (rv_step p1 s2) fun z => ⟨(hi z).1, by rw [(hi z).2]; rw [z] at hb1; simpa using hb1⟩
      obtain ⟨G4, g4, s4, _⟩ := gd_take (i := j) (o := oj) g3 s3 (rv_skip (RV.back s1 p2) ne n3 o3 u3) fun z => ⟨(hj z).1, by rw [(hj z).2]; rw [z] at hb2; simpa using hb2⟩
      exact h2 _ _ _ g4 s4
    · exact h2.elim) (p pa pb)
theorem ss_par3 {i j k : Nat} {oi oj ok : Bool} {fa fb fc : Bool} {st : Stmt} {ra rb rc : Env → R D} (p : ∀ {ta tb tc : TE}, PE X a ta → PE X b tb → PE X c tc → PS X st (tPar3 i j k (tCons ta (tCons tb (tCons tc tNil))))) (pa : PE X a (tE C fa ra)) (pb : PE X b (tE C fb rb)) (pc : PE X c (tE C fc rc))
    (hi : oi = true → C.π i = none ∧ fa = true) (hj : oj = true → C.π j = none ∧ fb = true) (hk : ok = true → C.π k = none ∧ fc = true) :
    PS X st (tS C fr fun e => RS.of (ra e) fun x e => RS.of (rb e) fun y e => RS.of (rc e) fun z e => if (!oi || isBox x) && (!oj || isBox y) && (!ok || isBox z) then .nx (((e.set i (mk oi x)).set j (mk oj y)).set k (mk ok z)) else .bad) :=
  ps_imp (by
    rintro Dn σ H ⟨G, e, g, h⟩
    refine ⟨G, e, g, Gs.of0 h fun x e1 u H1 G1 g1 s1 p1 h1 => ⟨G1, e1, g1, Gs.of00 h1 s1 fun y e2 v H2 G2 g2 s2 p2 h2 => ⟨G2, e2, g2, Gs.of00 h2 (s1.trans s2) fun z e3 w H3 G3 g3 s3 p3 h3 => ⟨u, v, w, rfl, ?_⟩⟩⟩⟩
    split at h3
    · rename_i hb
      obtain ⟨hb0, hb3⟩ := Bool.and_eq_true_iff.mp hb
      obtain ⟨hb1, hb2⟩ := Bool.and_eq_true_iff.mp hb0
      have ne12 := rv_ne p1 p2
      have ne13 := rv_ne (rv_step p1 s2) p3
      have ne23 := rv_ne p2 p3
      obtain ⟨G4, g4, s4, n4, o4, u4⟩ := gd_take (i := i) (o := oi) g3 ((s1.trans s2).trans s3) (rv_step (rv_step p1 s2) s3) fun q => ⟨(hi q).1, by rw [(hi q).2]; rw [q] at hb1; simpa using hb1⟩
      obtain ⟨G5, g5, s5, n5, o5, u5⟩ := gd_take (i := j) (o := oj) g4 s4 (rv_skip (RV.back s1 (rv_step p2 s3)) ne12 n4 o4 u4) fun q => ⟨(hj q).1, by rw [(hj q).2]; rw [q] at hb2; simpa using hb2⟩
      obtain ⟨G6, g6, s6, _⟩ := gd_take (i := k) (o := ok) g5 s5 (rv_skip (rv_skip (RV.back (s1.trans s2) p3) ne13 n4 o4 u4) ne23 n5 o5 u5) fun q => ⟨(hk q).1, by rw [(hk q).2]; rw [q] at hb3; simpa using hb3⟩
      exact h3 _ _ _ g6 s6
    · exact h3.elim) (p pa pb pc)
end
end TI
set_option Elab.async false
set_option linter.all false
set_option maxRecDepth 100000
set_option maxHeartbeats 1000000
namespace TI
open PySem PySem.Spec L2
def tgs : Tg → List Nat
  | .n i => [i]
  | .nil => []
  | .cons a b => tgs a ++ tgs b
structure Put (C : Cfg) (t : Tg) (σ σ' : L2.St) (H G : Hp) (e e' : Env) : Prop where
  g : Gd C.W C.π σ' H G e'
  o : ∀ b, ownA σ' e' b → ownA σ e b
  k : ∀ j, j ∉ tgs t → σ'[j]? = σ[j]?
def tTg (C : Cfg) (t : Tg) : TG := fun v σ H Q => ∃ G e d, Gd C.W C.π σ H G e ∧ Den C.W G d v ∧ match asg t d e with
  | some e' => ∀ σ', Put C t σ σ' H G e e' → Q σ' H
  | none => False
def tTgs (C : Cfg) (t : Tg) : TGs := fun vs σ H Q => ∃ G e l, Gd C.W C.π σ H G e ∧ DenL C.W G l vs ∧ match asg t (.tup l) e with
  | some e' => ∀ σ', Put C t σ σ' H G e e' → Q σ' H
  | none => False
theorem pg_imp {X : Cx} {tg : PySem.Expr} {t t' : TG} (h : ∀ v σ H Q, t' v σ H Q → t v σ H Q) (p : PG X tg t) : PG X tg t' := ⟨fun pins s σ H v u Q I r hq => p.run pins s σ H v u Q I r (h v σ H Q hq)⟩
theorem pgs_imp {X : Cx} {tg : List PySem.Expr} {t t' : TGs} (h : ∀ v σ H Q, t' v σ H Q → t v σ H Q) (p : PGs X tg t) : PGs X tg t' := ⟨fun pins s σ H v u Q I r hq => p.run pins s σ H v u Q I r (h v σ H Q hq)⟩
section
variable {C : Cfg} {X : Cx} {pos : Pos}
theorem sg_n {i : Nat} {ex : PySem.Expr} (p : PG X ex (gName i)) : PG X ex (tTg C (.n i)) := pg_imp (by
  rintro v σ H Q ⟨G, e, d, g, hd, h⟩
  exact h _ ⟨gd_setv g i hd, fun b z => own_setv z, fun j hj => set_st_ne fun z => hj (by simp [tgs, z])⟩) p
theorem sgs_nil : PGs X [] (tTgs C .nil) := pgs_imp (by
  rintro vs σ H Q ⟨G, e, l, g, hd, h⟩
  cases l with
  | nil => exact ⟨by simpa only [DenL] using hd, h _ ⟨g, fun b z => z, fun j _ => rfl⟩⟩
  | cons x r => exact h.elim) pgs_nil
theorem sgs_cons {a : PySem.Expr} {es : List PySem.Expr} {t u : Tg} (p : PG X a (tTg C t)) (ps : PGs X es (tTgs C u)) (hs : (assignEach (a :: es) X.env).map (·.2) = assign a X.env :: (assignEach es X.env).map (·.2)) : PGs X (a :: es) (tTgs C (.cons t u)) := pgs_imp (by
  rintro vs σ H Q ⟨G, e, l, g, hd, h⟩
  cases l with
  | nil => exact h.elim
  | cons x r =>
    simp only [DenL] at hd
    obtain ⟨v, w, rfl, h1, h2⟩ := hd
    refine ⟨v, w, rfl, G, e, x, g, h1, ?_⟩
    simp only [asg] at h
    cases q : asg t x e with
    | none => rw [q] at h; exact h.elim
    | some e1 =>
      rw [q] at h
      intro σ1 p1
      refine ⟨G, e1, r, p1.g, h2, ?_⟩
      have h : (match asg u (.tup r) e1 with
        | some e' => ∀ σ', Put C (.cons t u) σ σ' H G e e' → Q σ' H
        | none => False) := h
      cases q2 : asg u (.tup r) e1 with
      | none => rw [q2] at h; exact h.elim
      | some e2 =>
        rw [q2] at h
        intro σ2 p2
        exact h σ2 ⟨p2.g, fun b z => p1.o b (p2.o b z), fun j hj => by
          have h1 : j ∉ tgs t := fun z => hj (List.mem_append_left _ z)
          have h2 : j ∉ tgs u := fun z => hj (List.mem_append_right _ z)
          rw [p2.k j h2, p1.k j h1]⟩) (pgs_cons p ps hs)
def tgN : Tg → Nat
  | .cons _ b => tgN b + 1
  | _ => 0
def isTgs : Tg → Bool
  | .nil => true
  | .cons _ b => isTgs b
  | .n _ => false
theorem asg_len : ∀ {t : Tg} {l : List D} {e e' : Env}, isTgs t = true → asg t (.tup l) e = some e' → l.length = tgN t
  | .nil, l, e, e', _, h => by
    cases l with
    | nil => rfl
    | cons _ _ => cases h
  | .cons a b, l, e, e', n, h => by
    cases l with
    | nil => cases h
    | cons x r =>
      simp only [asg, Option.bind_eq_some_iff] at h
      obtain ⟨e1, h1, h2⟩ := h
      simp [tgN, asg_len (t := b) n h2]
  | .n i, _, _, _, n, _ => by cases n
theorem sg_tup (hK : C.W.K = X.K) (hc : X.calm = true) {es : List PySem.Expr} {k : Nat} {t : Tg} (ht : isTgs t = true) (p : PGs X es (tTgs C t)) (hn : (assignEach es X.env).length = tgN t) (hst : (assignEach es X.env).findIdx? (·.1) = none) : PG X (.Tuple es k pos) (tTg C t) := pg_imp (by
  rintro v σ H Q ⟨G, e, d, g, hd, h⟩
  obtain ⟨l, rfl⟩ : ∃ l, d = .tup l := by
    cases t with
    | n i => cases ht
    | nil => cases d with
      | tup l => exact ⟨l, rfl⟩
      | _ => exact h.elim
    | cons a b => cases d with
      | tup l => exact ⟨l, rfl⟩
      | _ => exact h.elim
  simp only [Den] at hd
  obtain ⟨a, vs, rfl, h1, _, h2⟩ := hd
  cases q : asg t (.tup l) e with
  | none => rw [q] at h; exact h.elim
  | some e' =>
    refine ⟨a, vs, rfl, by rw [← hK]; exact g.sub.sqT h1, by rw [h2.length]; exact asg_len ht q, G, e, l, g, h2, h⟩) (pg_tup hc p hn hst)
theorem ss_setT {fr f1 : Bool} {t : Tg} {tg a : PySem.Expr} {r : Env → R D} (pt : PG X tg (tTg C t)) (pa : PE X a (tE C f1 r)) (hs : swapsWithSole [tg] a pos.line X.env = pure false) (hw : swappedStores [tg] a X.env = pure none) (h1 : (assignEach [tg] X.env).map (·.2) = [assign tg X.env]) :
    PS X (.Assign [tg] a pos) (tS C fr fun e => RS.of (r e) fun d e => match asg t d e with
      | some e => .nx e
      | none => .bad) :=
  ps_imp (by
    rintro Dn σ H ⟨G, e, g, h⟩
    refine ⟨G, e, g, Gs.of0 h fun d e1 v H1 G1 g1 s1 p1 h1 => ?_⟩
    obtain ⟨G2, g2, s2, d2, _⟩ := RV.give g1 p1 s1
    refine ⟨G2, e1, d, g2, d2, ?_⟩
    cases q : asg t d e1 with
    | none => rw [q] at h1; exact h1.elim
    | some e' =>
      rw [q] at h1
      intro σ' pp
      exact h1 σ' H1 G2 pp.g ⟨s2.g, s2.n, s2.k, s2.p, fun b z => s2.o b (pp.o b z)⟩) (ps_asg pa pt hs hw h1)
end
section
variable {C : Cfg} {X : Cx} {a b c tg : PySem.Expr} {pos : Pos} {fr : Bool}
def iAny (K : PySem.W.Frag) (tl : TE) : TI := fun σ H R => tl σ H fun x H1 => (∃ a, x = .ref a ∧ (∃ xs, SqL K H1 a xs) ∧ R (Itl K a) H1) ∨ (∃ a, x = .ref a ∧ (∃ xs, SqT K H1 a xs) ∧ R (Itt K a) H1) ∨ ∃ z, x = .str z ∧ R (Its z) H1
theorem pi_any {l : PySem.Expr} {tl : TE} (hl : PE X l tl) : PI X tg l (iAny X.K tl) := by
  refine ⟨fun pins s σ H R I h => ?_⟩
  refine thn (hl.run pins s σ H _ I h) fun v s1 ⟨x, H1, I1, r1, q1⟩ => ?_
  rcases q1 with ⟨a, e, ⟨xs, hq⟩, q⟩ | ⟨a, e, ⟨xs, hq⟩, q⟩ | ⟨z, e, q⟩
  · subst e
    cases r1
    obtain ⟨its, rv, p, hz⟩ := I1.list hq
    refine wpAny_pyIter_list p.isList ?_
    refine ⟨s1.heap.objs.size, [s1.heap.objs.size], _, _, H1, rfl, I1.kept (t' := s1.toks) fun b o e => Heap.get?_push_of_some _ e, turn_list a _, ⟨_, Heap.get?_push_size _ rfl, rfl, rfl⟩, fun b hb => ?_, q⟩
    have e : b = s1.heap.objs.size := by simpa using hb
    subst e
    exact I1.fpOk (Nat.le_refl _) (I1.hok.fresh (Nat.le_refl _))
  · subst e
    cases r1
    obtain ⟨its, rv, p, hz⟩ := I1.tuple hq
    refine wpAny_pyIter_tuple (show s1.heap.IsTuple a its.toArray from p) ?_
    refine ⟨s1.heap.objs.size, [s1.heap.objs.size], _, _, H1, rfl, I1.kept (t' := s1.toks) fun b o e => Heap.get?_push_of_some _ e, turn_tuple a _, ⟨_, Heap.get?_push_size _ rfl, rfl, rfl⟩, fun b hb => ?_, q⟩
    have e : b = s1.heap.objs.size := by simpa using hb
    subst e
    exact I1.fpOk (Nat.le_refl _) (I1.hok.fresh (Nat.le_refl _))
  · subst e
    obtain ⟨t, rfl⟩ := r1
    cases ha : z.cps.all (· < 128)
    · exact wpAny_pyIter_wide ha (pi_one (tk := s1.toks) I1 _ (turn_str _ z t "str_iterator" (.inr rfl)) ⟨_, Heap.get?_push_size _ rfl, rfl, rfl⟩ q)
    · exact wpAny_pyIter_ascii ha (pi_one (tk := s1.toks) I1 _ (turn_str _ z t "str_ascii_iterator" (.inl rfl)) ⟨_, Heap.get?_push_size _ rfl, rfl, rfl⟩ q)
theorem seqOf_some {x : D} {l : List D} (h : (match x with
    | .dk l => some (l.map fun p => p.1.d)
    | .dt l => some (l.map fun p => .tup (p.1.map K.d))
    | x => itemsD x) = some l) (hb : itemsD x = none → False) : itemsD x = some l := by
  cases x <;> first | exact h | exact (hb rfl).elim
theorem wk_seq {W : Wd} {K : PySem.W.Frag} (hK : W.K = K) {G H : Hp} {d : D} {v : V} {l : List D} (sub : Sub G H) (hd : Den W G d v) (h : itemsD d = some l) {R : L2.It → Hp → Prop} (hR : ∀ J, WkD W G l J → R J H) :
    (∃ a, v = .ref a ∧ (∃ xs, SqL K H a xs) ∧ R (Itl K a) H) ∨ (∃ a, v = .ref a ∧ (∃ xs, SqT K H a xs) ∧ R (Itt K a) H) ∨ ∃ z, v = .str z ∧ R (Its z) H := by
  cases d with
  | lst l' =>
    cases h
    simp only [Den] at hd
    obtain ⟨a, vs, rfl, h1, h2⟩ := hd
    refine .inl ⟨a, rfl, ⟨vs, SqL.of (sub _ _ h1)⟩, hR _ ⟨fun i H' hi s => ?_, fun H' s => ⟨vs, SqL.of (s _ _ h1), by rw [h2.length]; exact Nat.le_refl _⟩, fun i H1 x H2 d' hi s y => ?_⟩⟩
    · have hi : i < vs.length := by rw [h2.length]; exact hi
      exact ⟨vs, vs[i], SqL.of (s _ _ h1), by simp [hi]⟩
    · obtain ⟨w, h3, h4⟩ := h2.get hi
      have := y.2 vs (SqL.of (s _ _ h1))
      rw [h3] at this; cases this
      exact .inl ⟨y.1, h4⟩
  | tup l' =>
    cases h
    simp only [Den] at hd
    obtain ⟨a, vs, rfl, h1, _, h2⟩ := hd
    have hs : ∀ H', Sub G H' → SqT K H' a vs := fun H' s => by rw [← hK]; exact s.sqT h1
    refine .inr (.inl ⟨a, rfl, ⟨vs, hs _ sub⟩, hR _ ⟨fun i H' hi s => ?_, fun H' s => ⟨vs, hs _ s, by rw [h2.length]; exact Nat.le_refl _⟩, fun i H1 x H2 d' hi s y => ?_⟩⟩)
    · have hi : i < vs.length := by rw [h2.length]; exact hi
      exact ⟨vs, vs[i], hs _ s, by simp [hi]⟩
    · obtain ⟨w, h3, h4⟩ := h2.get hi
      have := y.2 vs (hs _ s)
      rw [h3] at this; cases this
      exact .inl ⟨y.1, h4⟩
  | str l' =>
    cases h
    simp only [Den] at hd
    subst hd
    refine .inr (.inr ⟨_, rfl, hR _ ⟨fun i H' hi s => by simpa [Its, encS] using hi, fun H' s => by simp [Its, encS], fun i H1 x H2 d' hi s y => ?_⟩⟩)
    obtain ⟨e1, c, h3, rfl⟩ := y
    rw [List.getElem?_map] at hi
    obtain ⟨c', h4, rfl⟩ := Option.map_eq_some_iff.mp hi
    have h5 : (encS l').cps[i]? = some c'.toNat := by simp [encS, h4]
    rw [h5] at h3; cases h3
    refine .inl ⟨e1, ?_⟩
    simp only [Den]
    rw [encS_one]
  | _ => cases h
theorem si_seq (hK : C.W.K = X.K) {f1 : Bool} {r : Env → R D} (pa : PE X a (tE C f1 r)) : PI X tg a (tI C fun e => (r e).bind fun x e => R.of (itemsD x) e) :=
  pi_imp (by
    rintro σ H Q ⟨G, e, g, h⟩
    refine ⟨G, e, g, Go.bind0 h fun x e1 v H1 G1 g1 s1 p1 h1 => ?_⟩
    obtain ⟨l, h2, h3⟩ := Go.of_some h1
    obtain ⟨G2, g2, s2, d2, _⟩ := RV.give g1 p1 s1
    exact wk_seq hK g2.sub d2 h2 fun J hJ => h3 J H1 G2 g2 s2 hJ) (pi_any pa)
theorem wk_range {W : Wd} {G : Hp} (lo : Int) (n : Nat) : WkD W G ((List.range n).map fun i => .int (lo + (i : Nat))) (Itr lo n) where
  goes := fun i H hi _ => by simpa [Itr] using hi
  stops := fun H _ => by simp [Itr]
  yields := fun i H x H' d hi _ y => by
    rw [List.getElem?_map] at hi
    obtain ⟨j, h1, rfl⟩ := Option.map_eq_some_iff.mp hi
    have h2 : j = i := by
      have := List.getElem?_range (n := n) (i := i)
      rcases Nat.lt_or_ge i n with z | z
      · rw [List.getElem?_range z] at h1; cases h1; rfl
      · rw [List.getElem?_eq_none (by simpa using z)] at h1; cases h1
    subst h2
    obtain ⟨e1, rfl⟩ := y
    exact .inl ⟨e1, den_int _⟩
theorem si_range1 {es : List PySem.Expr} {it : PySem.Expr} {rs : Env → R (List AV)} (p : ∀ {ta : TA}, PA X es ta → PI X tg it (iRng1 ta)) (ps : PA X es (tAs C rs)) (h1 : es.length = 1) :
    PI X tg it (tI C fun e => (rs e).bind fun l e => R.of ((valsL l).bind fun ds => match ds with
      | [d] => rngD [d]
      | _ => none) e) :=
  pi_imp (by
    rintro σ H Q ⟨G, e, g, h⟩
    refine ⟨G, e, g, Go.bind back_i h fun l e1 vs H1 G1 g1 s1 p1 h1 => ?_⟩
    obtain ⟨d, h3, h4⟩ := Go.of_some h1
    obtain ⟨ds, h5, h6⟩ := Option.bind_eq_some_iff.mp h3
    have hd := AvL.den p1 h5
    split at h6
    · rename_i x
      unfold rngD at h6
      split at h6
      · rename_i j hj
        cases hj
        split at h6
        · rename_i hz
          cases h6
          have e2 := DenL.intL (l := [j]) (by simpa using hd)
          refine ⟨j, e2, hz.1, hz.2, h4 _ _ _ g1 Stp.refl ?_⟩
          have e3 : rangeD 0 j = (List.range j.toNat).map fun i => .int (0 + (i : Nat)) := by simp [rangeD]
          rw [e3]
          exact wk_range 0 j.toNat
        · cases h6
      · rename_i hj; cases hj
      · cases h6
    · cases h6) (p ps)
theorem si_range2 {es : List PySem.Expr} {it : PySem.Expr} {rs : Env → R (List AV)} (p : ∀ {ta : TA}, PA X es ta → PI X tg it (iRng2 ta)) (ps : PA X es (tAs C rs)) :
    PI X tg it (tI C fun e => (rs e).bind fun l e => R.of ((valsL l).bind fun ds => match ds with
      | [c, d] => rngD [c, d]
      | _ => none) e) :=
  pi_imp (by
    rintro σ H Q ⟨G, e, g, h⟩
    refine ⟨G, e, g, Go.bind back_i h fun l e1 vs H1 G1 g1 s1 p1 h1 => ?_⟩
    obtain ⟨d, h3, h4⟩ := Go.of_some h1
    obtain ⟨ds, h5, h6⟩ := Option.bind_eq_some_iff.mp h3
    have hd := AvL.den p1 h5
    split at h6
    · rename_i x
      unfold rngD at h6
      split at h6
      · rename_i hj; cases hj
      · rename_i i j hj
        cases hj
        split at h6
        · rename_i hz
          cases h6
          have e2 := DenL.intL (l := [i, j]) (by simpa using hd)
          refine ⟨i, j, e2, hz, h4 _ _ _ g1 Stp.refl ?_⟩
          exact wk_range i (j - i).toNat
        · cases h6
      · cases h6
    · cases h6) (p ps)
theorem WkD.mono {W : Wd} {G G1 : Hp} {l : List D} {J : L2.It} (w : WkD W G l J) (s : Sub G G1) : WkD W G1 l J where
  goes := fun i H hi s' => w.goes i H hi (s.trans s')
  stops := fun H s' => w.stops H (s.trans s')
  yields := fun i H x H' d hi s' y => by
    rcases w.yields i H x H' d hi (s.trans s') y with ⟨h1, h2⟩ | ⟨T, p, q, xv, yv, h1, h2, h3, h4, h5, h6⟩
    · exact .inl ⟨h1, Den.mono s _ _ h2⟩
    · exact .inr ⟨T, p, q, xv, yv, h1, h2, h3, h4, Den.mono s _ _ h5, Den.mono s _ _ h6⟩
theorem WkD.take {W : Wd} {π : Nat → Option Addr} {σ : L2.St} {H G : Hp} {e : Env} {l : List D} {J : L2.It} {i : Nat} {x : V} {H' : Hp} {d : D} (w : WkD W G l J) (g : Gd W π σ H G e) (hi : l[i]? = some d) (y : J.yld i H x H') :
    ∃ G2, Gd W π σ H' G2 e ∧ Stp σ H G e σ H' G2 e ∧ Den W G2 d x ∧ Sub G G2 := by
  rcases w.yields i H x H' d hi g.sub y with ⟨rfl, h2⟩ | ⟨T, p, q, xv, yv, rfl, rfl, h3, rfl, h5, h6⟩
  · exact ⟨G, g, Stp.refl, h2, Sub.refl _⟩
  · have hn : ¬ ownA σ e T := fun z => (g.owned z).2 h3
    have gT := g.nG h3
    have g1 := g.lay h3 (.tup [xv, yv])
    have s1 : Stp σ H G e σ (upd H T (.tup [xv, yv])) G e := Stp.lay h3 _
    have eT : add G (upd H T (.tup [xv, yv])) T T = some (.tup [xv, yv]) := by rw [add_same, upd_same]
    have sb := add_sub (H := upd H T (.tup [xv, yv])) gT
    exact ⟨_, g1.grow gT hn, s1.grow gT (.inl h3), den_tupT (SqT.of eT) (fun _ => eT) (.cons_ (Den.mono sb _ _ h5) (.one (Den.mono sb _ _ h6))), sb⟩
theorem ss_for {t : Tg} {it : PySem.Expr} {ri : Env → R (List D)} {rb : Env → RS} {sb : List Stmt} (hp : PassesOwn (model X.prog X.w) X.A X.env X.xe) (hc : X.calm = true) (pit : PI X tg it (tI C ri)) (pt : PG X tg (tTg C t)) (pb : PSs X sb (tS C fr rb))
    (hs : ∀ x, foldedSetIterable it X.env x = pure x) :
    PS X (.For tg it sb [] pos) (tS C fr fun e => RS.of (ri e) fun l e => loopF (fun d e => match asg t d e with
      | some e => rb e
      | none => .bad) l e) :=
  ps_imp (by
    rintro Dn σ H ⟨G, e, g, h⟩
    refine ⟨G, e, g, Gs.of h fun l e1 J H1 G1 g1 s1 p1 h1 => ?_⟩
    refine ⟨fun i m σ2 H2 => m = l.length - i ∧ i ≤ l.length ∧ ∃ G2 e2, Gd C.W C.π σ2 H2 G2 e2 ∧ Sub G1 G2 ∧ Gs C fr (loopF (fun d e => match asg t d e with
      | some e => rb e
      | none => .bad) (l.drop i) e2) σ2 H2 G2 e2 Dn, ⟨l.length, by simp, Nat.zero_le _, G1, e1, g1, Sub.refl _, h1⟩, ?_⟩
    rintro i m σ2 H2 ⟨rfl, hi, G2, e2, g2, sb2, h2⟩
    have w2 := WkD.mono p1 sb2
    by_cases hlt : i < l.length
    · refine .inr ⟨w2.goes i H2 hlt g2.sub, _, fun σ' H' z => ⟨l.length - (i + 1), by omega, rfl, hlt, z⟩, fun x H' y => ?_⟩
      have hd : l[i]? = some l[i] := by simp [hlt]
      obtain ⟨G3, g3, s3, d3, sb3⟩ := w2.take g2 hd y
      rw [List.drop_eq_getElem_cons hlt] at h2
      have h2 : Gs C fr ((match asg t l[i] e2 with
        | some e => rb e
        | none => .bad).bind (loopF (fun d e => match asg t d e with
          | some e => rb e
          | none => .bad) (l.drop (i + 1)))) σ2 H2 G2 e2 Dn := h2
      refine ⟨G3, e2, l[i], g3, d3, ?_⟩
      cases q : asg t l[i] e2 with
      | none => rw [q] at h2; exact h2.elim
      | some e3 =>
        rw [q] at h2
        intro σ3 pp
        have s3' : Stp σ2 H2 G2 e2 σ3 H' G3 e3 := ⟨s3.g, s3.n, s3.k, s3.p, fun b z => s3.o b (pp.o b z)⟩
        refine ⟨G3, e3, pp.g, ?_⟩
        have h3 : Gs C fr ((rb e3).bind _) σ3 H' G3 e3 Dn := Gs.later s3' h2
        cases q4 : rb e3 with
        | nx e4 =>
          rw [q4] at h3
          exact fun σ' H'' G' g' s' => ⟨G', e4, g', sb2.trans (sb3.trans s'.g), Gs.later s' h3⟩
        | rt d e4 => rw [q4] at h3; exact h3
        | exc x e4 => rw [q4] at h3; exact h3
        | bad => rw [q4] at h3; exact h3.elim
    · have e4 : i = l.length := by omega
      subst e4
      rw [List.drop_length] at h2
      exact .inl ⟨w2.stops H2 g2.sub, h2 _ _ _ g2 Stp.refl⟩) (ps_for hp hc pit pt pb hs)
end
end TI
set_option Elab.async false
set_option linter.all false
set_option maxRecDepth 100000
set_option maxHeartbeats 1000000
namespace TI
open PySem PySem.Spec L2
section
variable {W : Wd} {π : Nat → Option Addr} {σ : L2.St} {H G H1 G1 : Hp} {e e1 e2 : Env}
theorem wipe_len (e : Env) : ∀ vs : List Nat, (wipe e vs).length = e.length
  | [] => rfl
  | v :: vs => by rw [show wipe e (v :: vs) = (wipe e vs).set v .un from rfl, List.length_set, wipe_len e vs]
theorem wipe_get {e : Env} {j : Nat} {s : Slot} : ∀ {vs : List Nat}, (wipe e vs)[j]? = some s → (j ∈ vs ∧ s = .un) ∨ (j ∉ vs ∧ e[j]? = some s)
  | [], h => .inr ⟨by simp, h⟩
  | v :: vs, h => by
    rcases get_set_some (show ((wipe e vs).set v .un)[j]? = some s from h) with ⟨y, z⟩ | ⟨y, z⟩
    · exact .inl ⟨by simp [y], z⟩
    · rcases wipe_get z with ⟨p, q⟩ | ⟨p, q⟩
      · exact .inl ⟨by simp [p], q⟩
      · exact .inr ⟨by simp only [List.mem_cons, not_or]; exact ⟨fun w => y w.symm, p⟩, q⟩
theorem wipe_st {σ : L2.St} {j : Nat} : ∀ {vs : List Nat}, j ∉ vs → (L2.wipe σ vs)[j]? = σ[j]?
  | [], h => rfl
  | v :: vs, h => by
    simp only [List.mem_cons, not_or] at h
    show ((L2.wipe σ vs).set v none)[j]? = _
    rw [set_st_ne fun z => h.1 z.symm, wipe_st h.2]
theorem wipe_st_len (σ : L2.St) : ∀ vs : List Nat, (L2.wipe σ vs).length = σ.length
  | [] => rfl
  | v :: vs => by rw [show L2.wipe σ (v :: vs) = (L2.wipe σ vs).set v none from rfl, List.length_set, wipe_st_len σ vs]
theorem wipe_st_in {σ : L2.St} {j : Nat} : ∀ {vs : List Nat}, j ∈ vs → (L2.wipe σ vs)[j]? = if j < σ.length then some none else none
  | [], h => by cases h
  | v :: vs, h => by
    show ((L2.wipe σ vs).set v none)[j]? = _
    rw [List.getElem?_set]
    by_cases hv : v = j
    · subst hv; rw [if_pos rfl, wipe_st_len]
    · rw [if_neg hv]
      exact wipe_st_in (by rcases List.mem_cons.mp h with z | z; exact absurd z.symm hv; exact z)
theorem wipe_same {σ σ' : L2.St} {vs : List Nat} (hl : σ'.length = σ.length) (h : ∀ j, j ∉ vs → σ'[j]? = σ[j]?) : L2.wipe σ' vs = L2.wipe σ vs := by
  apply List.ext_getElem?
  intro j
  by_cases hj : j ∈ vs
  · rw [wipe_st_in hj, wipe_st_in hj, hl]
  · rw [wipe_st hj, wipe_st hj, h j hj]
theorem gd_wipe (g : Gd W π σ H G e) (vs : List Nat) : Gd W π (L2.wipe σ vs) H G (wipe e vs) where
  len := by rw [wipe_st_len, wipe_len]; exact g.len
  sub := g.sub
  val := fun j d h => by
    rcases wipe_get h with ⟨_, z⟩ | ⟨n, z⟩
    · cases z
    · rw [wipe_st n]; exact g.val j d z
  own := fun j d h => by
    rcases wipe_get h with ⟨_, z⟩ | ⟨n, z⟩
    · cases z
    · rw [wipe_st n]; exact g.own j d z
  dis := fun j k d d' a h h' q q' => by
    rcases wipe_get h with ⟨_, z⟩ | ⟨n, z⟩
    · cases z
    · rcases wipe_get h' with ⟨_, z'⟩ | ⟨n', z'⟩
      · cases z'
      · rw [wipe_st n] at q; rw [wipe_st n'] at q'
        exact g.dis j k d d' a z z' q q'
  pin := fun j d a h h' => by
    rcases wipe_get h' with ⟨_, z⟩ | ⟨n, z⟩
    · cases z
    · rw [wipe_st n]; exact g.pin j d a h z
theorem own_wipe {vs : List Nat} {b : Addr} (h : ownA (L2.wipe σ vs) (wipe e vs) b) : ownA σ e b := by
  obtain ⟨j, d, h1, h2⟩ := h
  rcases wipe_get h1 with ⟨_, z⟩ | ⟨n, z⟩
  · cases z
  · rw [wipe_st n] at h2; exact ⟨j, d, z, h2⟩
theorem wipe_wipe (σ : L2.St) (vs : List Nat) : L2.wipe (L2.wipe σ vs) vs = L2.wipe σ vs := wipe_same (wipe_st_len σ vs) fun j hj => wipe_st hj
theorem wipe_env_out {e : Env} {j : Nat} : ∀ {vs : List Nat}, j ∉ vs → (wipe e vs)[j]? = e[j]?
  | [], h => rfl
  | v :: vs, h => by
    simp only [List.mem_cons, not_or] at h
    show ((wipe e vs).set v .un)[j]? = _
    rw [List.getElem?_set_ne (fun z => h.1 z.symm), wipe_env_out h.2]
theorem wipe_env_in {e : Env} {j : Nat} : ∀ {vs : List Nat}, j ∈ vs → (wipe e vs)[j]? = if j < e.length then some .un else none
  | [], h => by cases h
  | v :: vs, h => by
    show ((wipe e vs).set v .un)[j]? = _
    rw [List.getElem?_set]
    by_cases hv : v = j
    · subst hv; rw [if_pos rfl, wipe_len]
    · rw [if_neg hv]
      exact wipe_env_in (by rcases List.mem_cons.mp h with z | z; exact absurd z.symm hv; exact z)
theorem rest_len (e1 e : Env) : ∀ vs : List Nat, (rest e1 e vs).length = e.length
  | [] => rfl
  | v :: vs => by rw [show rest e1 e (v :: vs) = (rest e1 e vs).set v (e1.getD v .un) from rfl, List.length_set, rest_len e1 e vs]
theorem rest_get {e1 e : Env} {j : Nat} {s : Slot} (hl : e.length = e1.length) : ∀ {vs : List Nat}, (rest e1 e vs)[j]? = some s → (j ∈ vs ∧ e1[j]? = some s) ∨ (j ∉ vs ∧ e[j]? = some s)
  | [], h => .inr ⟨by simp, h⟩
  | v :: vs, h => by
    have h : ((rest e1 e vs).set v (e1.getD v .un))[j]? = some s := h
    rcases get_set_some h with ⟨y, z⟩ | ⟨y, z⟩
    · subst y
      have hv : v < e1.length := by
        have := lt_of_get h
        rw [List.length_set, rest_len, hl] at this
        exact this
      refine .inl ⟨by simp, ?_⟩
      rw [z, List.getD_eq_getElem?_getD]
      rw [List.getElem?_eq_getElem hv]
      rfl
    · rcases rest_get hl z with ⟨p, q⟩ | ⟨p, q⟩
      · exact .inl ⟨by simp [p], q⟩
      · exact .inr ⟨by simp only [List.mem_cons, not_or]; exact ⟨fun w => y w.symm, p⟩, q⟩
theorem gd_rest {vs : List Nat} (g1 : Gd W π σ H1 G1 e1) (g : Gd W π (L2.wipe σ vs) H G (wipe e vs)) (s : Stp (L2.wipe σ vs) H1 G1 (wipe e1 vs) (L2.wipe σ vs) H G (wipe e vs)) :
    Gd W π σ H G (rest e1 e vs) ∧ Stp σ H1 G1 e1 σ H G (rest e1 e vs) ∧ ∀ b, ownA σ (rest e1 e vs) b → ownA σ e1 b ∨ ownA (L2.wipe σ vs) (wipe e vs) b := by
  have hl : e.length = e1.length := by
    have a1 := g1.len
    have a2 := g.len
    rw [wipe_st_len, wipe_len] at a2
    omega
  have shadow : ∀ {j : Nat} {d : D} {a : Addr}, j ∈ vs → e1[j]? = some (.own d) → σ[j]? = some (some (.ref a)) → ¬ ownA (L2.wipe σ vs) (wipe e1 vs) a := by
    rintro j d a hj he hσ ⟨k, x, h1, h2⟩
    rcases wipe_get h1 with ⟨_, z⟩ | ⟨n, z⟩
    · cases z
    · rw [wipe_st n] at h2
      have := g1.dis j k d x a he z hσ h2
      subst this
      exact n hj
  have outer : ∀ {j : Nat} {x : Slot}, j ∉ vs → e[j]? = some x → (wipe e vs)[j]? = some x := fun n h => by rw [wipe_env_out n]; exact h
  have ownE : ∀ {b : Addr}, ownA σ (rest e1 e vs) b → ownA σ e1 b ∨ H1 b = none := by
    rintro b ⟨j, d, h1, h2⟩
    rcases rest_get hl h1 with ⟨hj, z⟩ | ⟨hj, z⟩
    · exact .inl ⟨j, d, z, h2⟩
    · rcases s.o b ⟨j, d, outer hj z, by rw [wipe_st hj]; exact h2⟩ with w | w
      · exact .inl (own_wipe w)
      · exact .inr w
  refine ⟨{
    len := by rw [rest_len, hl]; exact g1.len
    sub := g.sub
    val := fun j d h => by
      rcases rest_get hl h with ⟨hj, z⟩ | ⟨hj, z⟩
      · obtain ⟨v, h1, h2⟩ := g1.val j d z
        exact ⟨v, h1, Den.mono s.g d v h2⟩
      · obtain ⟨v, h1, h2⟩ := g.val j d (outer hj z)
        rw [wipe_st hj] at h1
        exact ⟨v, h1, h2⟩
    own := fun j d h => by
      rcases rest_get hl h with ⟨hj, z⟩ | ⟨hj, z⟩
      · obtain ⟨a, h1, h2, h3⟩ := g1.own j d z
        have hn := shadow hj z h1
        obtain ⟨o, ho⟩ := h3.some
        refine ⟨a, h1, ?_, h3.keep (by rw [ho]; exact s.k a o ho hn) s.g⟩
        refine Classical.byContradiction fun w => ?_
        rcases s.n a w with q | q | q
        · exact q h2
        · rw [q] at ho; cases ho
        · exact hn q
      · obtain ⟨a, h1, h2⟩ := g.own j d (outer hj z)
        rw [wipe_st hj] at h1
        exact ⟨a, h1, h2⟩
    dis := fun j k d d' a h h' q q' => by
      have mix : ∀ {j k : Nat} {d d' : D}, j ∈ vs → e1[j]? = some (.own d) → k ∉ vs → e[k]? = some (.own d') → σ[j]? = some (some (.ref a)) → σ[k]? = some (some (.ref a)) → False := by
        intro j k d d' hj z hk z' q q'
        rcases s.o a ⟨k, d', outer hk z', by rw [wipe_st hk]; exact q'⟩ with w | w
        · exact shadow hj z q w
        · obtain ⟨b, h1, _, h3⟩ := g1.own j d z
          rw [q] at h1; cases h1
          exact h3.there w
      rcases rest_get hl h with ⟨hj, z⟩ | ⟨hj, z⟩
      · rcases rest_get hl h' with ⟨hk, z'⟩ | ⟨hk, z'⟩
        · exact g1.dis j k d d' a z z' q q'
        · exact (mix hj z hk z' q q').elim
      · rcases rest_get hl h' with ⟨hk, z'⟩ | ⟨hk, z'⟩
        · exact (mix hk z' hj z q' q).elim
        · exact g.dis j k d d' a (outer hj z) (outer hk z') (by rw [wipe_st hj]; exact q) (by rw [wipe_st hk]; exact q')
    pin := fun j d a h h' => by
      rcases rest_get hl h' with ⟨hj, z⟩ | ⟨hj, z⟩
      · exact g1.pin j d a h z
      · have := g.pin j d a h (outer hj z)
        rw [wipe_st hj] at this
        exact this }, ⟨s.g, fun b h => ?_, fun b o h hn => s.k b o h fun z => hn (own_wipe z), s.p, fun b h => ownE h⟩, ?_⟩
  · rcases s.n b h with q | q | q
    · exact .inl q
    · exact .inr (.inl q)
    · exact .inr (.inr (own_wipe q))
  · rintro b ⟨j, d, h1, h2⟩
    rcases rest_get hl h1 with ⟨hj, z⟩ | ⟨hj, z⟩
    · exact .inl ⟨j, d, z, h2⟩
    · exact .inr ⟨j, d, outer hj z, by rw [wipe_st hj]; exact h2⟩
theorem gd_acc (g : Gd W π σ H G e) {D : Addr} (hG : G D = none) (hn : ¬ ownA σ e D) (o : HO) : Gd W π σ (upd H D o) G e where
  len := g.len
  sub := fun b u q => by
    have hb : b ≠ D := fun z => by subst z; rw [hG] at q; cases q
    rw [upd_ne hb]; exact g.sub b u q
  val := g.val
  own := fun j d h => by
    obtain ⟨b, h1, h2, h3⟩ := g.own j d h
    have hb : b ≠ D := fun z => by subst z; exact hn ⟨j, d, h, h1⟩
    exact ⟨b, h1, h2, h3.keep (upd_ne hb) (Sub.refl _)⟩
  dis := g.dis
  pin := g.pin
theorem stp_acc {σ0 : L2.St} {H0 G0 : Hp} {e0 : Env} (s : Stp σ0 H0 G0 e0 σ H G e) {D : Addr} (hD : H0 D = none) (o : HO) : Stp σ0 H0 G0 e0 σ (upd H D o) G e where
  g := s.g
  n := s.n
  k := fun b u h hn => by
    have hb : b ≠ D := fun z => by subst z; rw [hD] at h; cases h
    rw [upd_ne hb]; exact s.k b u h hn
  p := fun b h => by
    have hb : b ≠ D := fun z => by subst z; exact h hD
    rw [upd_ne hb]; exact s.p b h
  o := s.o
theorem stp_wipe {σ0 : L2.St} {H0 G0 : Hp} {e0 : Env} (s : Stp σ0 H0 G0 e0 σ H G e) (vs : List Nat) : Stp σ0 H0 G0 e0 (L2.wipe σ vs) H G (wipe e vs) := ⟨s.g, s.n, s.k, s.p, fun b h => s.o b (own_wipe h)⟩
end
theorem asg_length : ∀ {t : Tg} {d : D} {e e' : Env}, asg t d e = some e' → e'.length = e.length
  | .n i, d, e, e', h => by cases h; rw [List.length_set]
  | .nil, d, e, e', h => by
    cases d with
    | tup l => cases l with
      | nil => cases h; rfl
      | cons _ _ => cases h
    | _ => cases h
  | .cons a b, d, e, e', h => by
    cases d with
    | tup l => cases l with
      | nil => cases h
      | cons x r =>
        simp only [asg, Option.bind_eq_some_iff] at h
        obtain ⟨e1, h1, h2⟩ := h
        rw [asg_length (t := b) h2, asg_length (t := a) h1]
    | _ => cases h
def turnR (t : Tg) (own : List Nat) (rc re : Env → R D) (d : D) (e' : Env) : R (Option D) := R.noX ((R.of (asg t d (wipe e' own)) e').bind fun e₁ _ => (rT rc e₁).bind fun b e₂ => if b then (re e₂).bind fun y e₃ => .ok (some y) e₃ else .ok none e₂)
def finR (e : Env) (own : List Nat) (r : List D) (e' : Env) : R D := if r.length ≤ lim then .ok (.lst r) (rest e e' own) else .bad
theorem turn_cases {t : Tg} {own : List Nat} {rc re : Env → R D} {d : D} {e' e4 : Env} {o : Option D} (h : turnR t own rc re d e' = .ok o e4) : ∃ e₁ b e₂, asg t d (wipe e' own) = some e₁ ∧ rT rc e₁ = .ok b e₂ ∧
    ((b = true ∧ ∃ y, re e₂ = .ok y e4 ∧ o = some y) ∨ (b = false ∧ e4 = e₂ ∧ o = none)) := by
  unfold turnR at h
  cases h1 : asg t d (wipe e' own) with
  | none => rw [h1] at h; cases h
  | some e₁ =>
    rw [h1] at h
    cases h2 : rT rc e₁ with
    | ok b e₂ =>
      refine ⟨e₁, b, e₂, rfl, h2, ?_⟩
      rw [R.of_some, R.bind_ok, h2, R.bind_ok] at h
      cases b with
      | true =>
        rw [if_pos rfl] at h
        cases h3 : re e₂ with
        | ok y e₃ => rw [h3] at h; cases h; exact .inl ⟨rfl, y, rfl, rfl⟩
        | exc x e₃ => rw [h3] at h; cases h
        | bad => rw [h3] at h; cases h
      | false =>
        rw [if_neg Bool.false_ne_true] at h
        cases h
        exact .inr ⟨rfl, rfl, rfl⟩
    | exc x e₂ => rw [R.of_some, R.bind_ok, h2] at h; cases h
    | bad => rw [R.of_some, R.bind_ok, h2] at h; cases h
theorem noX_cases {α : Type} (r : R α) : (∃ a e, r.noX = .ok a e ∧ r = .ok a e) ∨ r.noX = .bad := by
  cases r with
  | ok a e => exact .inl ⟨a, e, rfl, rfl⟩
  | exc x e => exact .inr rfl
  | bad => exact .inr rfl
def compK (f : D → Env → R (Option D)) (fin : List D → Env → R D) (l acc : List D) (e : Env) : R D := (compL f l e).bind fun r e' => fin (acc ++ r) e'
theorem compK_nil {f : D → Env → R (Option D)} {fin : List D → Env → R D} {acc : List D} {e : Env} : compK f fin [] acc e = fin acc e := by
  show fin (acc ++ []) e = _
  rw [List.append_nil]
theorem compK_cons {f : D → Env → R (Option D)} {fin : List D → Env → R D} {d : D} {l acc : List D} {e : Env} : compK f fin (d :: l) acc e = (f d e).bind fun o e' => compK f fin l (acc ++ o.toList) e' := by
  unfold compK
  show ((f d e).bind fun o e => (compL f l e).bind fun r e => R.ok (match o with
    | some y => y :: r
    | none => r) e).bind _ = _
  cases f d e with
  | ok o e' =>
    show ((compL f l e').bind fun r e => R.ok (match o with
      | some y => y :: r
      | none => r) e).bind (fun r e' => fin (acc ++ r) e') = (compL f l e').bind fun r e' => fin (acc ++ o.toList ++ r) e'
    cases compL f l e' with
    | ok r e'' => cases o <;> simp
    | exc x e'' => rfl
    | bad => rfl
  | exc x e' => rfl
  | bad => rfl
theorem compK_len {f : D → Env → R (Option D)} {e0 : Env} {own : List Nat} : ∀ {l acc : List D} {e : Env}, (∀ d e, (∃ o e', f d e = .ok o e') ∨ f d e = .bad) → compK f (finR e0 own) l acc e ≠ .bad → acc.length ≤ lim
  | [], acc, e, hf, h => by
    rw [compK_nil] at h
    unfold finR at h
    split at h
    · assumption
    · exact absurd rfl h
  | d :: l, acc, e, hf, h => by
    rw [compK_cons] at h
    rcases hf d e with ⟨o, e', q⟩ | q
    · rw [q, R.bind_ok] at h
      have := compK_len (l := l) hf h
      rw [List.length_append] at this
      omega
    · rw [q] at h; exact absurd rfl h
theorem turn_noX {t : Tg} {own : List Nat} {rc re : Env → R D} (d : D) (e : Env) : (∃ o e', turnR t own rc re d e = .ok o e') ∨ turnR t own rc re d e = .bad := by
  rcases noX_cases ((R.of (asg t d (wipe e own)) e).bind fun e₁ _ => (rT rc e₁).bind fun b e₂ => if b then (re e₂).bind fun y e₃ => .ok (some y) e₃ else .ok none e₂) with ⟨o, e', h, _⟩ | h
  · exact .inl ⟨o, e', h⟩
  · exact .inr h
abbrev Cfg.nox (C : Cfg) : Cfg := { C with Z := fun _ _ _ _ => False }
theorem lc_imp {C : Cfg} {t : Tg} {own : List Nat} {ri : Env → R (List D)} {rc re : Env → R D} {fe : Bool} (ht : ∀ j ∈ tgs t, j ∈ own) (σ : L2.St) (H : Hp) (Q : VK)
    (h : tE C true (fun e => (ri e).bind fun items e => (compL (turnR t own rc re) items e).bind fun r e' => finR e own r e') σ H Q) :
    tLc (tI C ri) (tTg C.nox t) (tT C.nox (rT rc)) (tE C.nox fe re) own σ H Q := by
  obtain ⟨G, e, g, h⟩ := h
  refine ⟨G, e, g, Go.bind back_v h fun items e1 J H1 G1 g1 s1 w1 h1 D hD => ?_⟩
  have h1 : Go C (pV C.W true σ) (compK (turnR t own rc re) (finR e1 own) items [] e1) σ H1 G1 e1 Q := h1
  have nb : compK (turnR t own rc re) (finR e1 own) items [] e1 ≠ .bad := fun z => by rw [z] at h1; exact h1
  refine ⟨fun i m H2 => m = items.length - i ∧ i ≤ items.length ∧ ∃ G2 e2 acc accD, H2 D = some (.lst acc) ∧ DenL C.W G2 accD acc ∧ G2 D = none ∧ ¬ ownA (L2.wipe σ own) (wipe e2 own) D ∧
    Gd C.W C.π (L2.wipe σ own) H2 G2 (wipe e2 own) ∧ Stp (L2.wipe σ own) H1 G1 (wipe e1 own) (L2.wipe σ own) H2 G2 (wipe e2 own) ∧ compK (turnR t own rc re) (finR e1 own) (items.drop i) accD e2 = compK (turnR t own rc re) (finR e1 own) items [] e1,
    ⟨items.length, by simp, Nat.zero_le _, G1, e1, [], [], upd_same, .nil_, g1.nG hD, fun z => (g1.owned (own_wipe z)).2 hD, ?_, ?_, rfl⟩, ?_⟩
  · exact (gd_wipe g1 own).lay hD _
  · exact Stp.lay hD _
  rintro i m H2 ⟨rfl, hi, G2, e2, acc, accD, hD2, hacc, hG2, hn2, g2, s2, hk⟩
  have w2 := WkD.mono w1 s2.g
  by_cases hlt : i < items.length
  · refine .inr ⟨w2.goes i H2 hlt g2.sub, _, fun H' z => ⟨items.length - (i + 1), by omega, rfl, hlt, z⟩, fun x H' y => ?_⟩
    have hd : items[i]? = some items[i] := by simp [hlt]
    obtain ⟨G3, g3, s3, d3, sb3⟩ := w2.take g2 hd y
    rw [List.drop_eq_getElem_cons hlt, compK_cons] at hk
    obtain ⟨o, e4, ho⟩ : ∃ o e4, turnR t own rc re items[i] e2 = .ok o e4 := by
      rcases turn_noX (t := t) (own := own) (rc := rc) (re := re) items[i] e2 with q | ho
      · exact q
      · rw [ho] at hk; exact absurd hk.symm nb
    rw [ho, R.bind_ok] at hk
    have hlen : (accD ++ o.toList).length ≤ lim := compK_len turn_noX (by rw [hk]; exact nb)
    obtain ⟨e₁, b, e₂, q1, q2, q3⟩ := turn_cases ho
    refine ⟨G3, wipe e2 own, items[i], g3, d3, ?_⟩
    rw [q1]
    intro σ2 pp
    have l2 : σ2.length = σ.length := by
      have a1 := pp.g.len
      have a2 := g2.len
      have a3 : e₁.length = (wipe e2 own).length := asg_length q1
      rw [wipe_st_len] at a2
      omega
    have hw : L2.wipe σ2 own = L2.wipe σ own := by
      rw [← wipe_wipe σ own]
      exact wipe_same (by rw [wipe_st_len]; exact l2) fun j hj => pp.k j fun z => hj (ht j z)
    refine ⟨hw, G3, e₁, pp.g, ?_⟩
    have s3' : Stp (L2.wipe σ own) H2 G2 (wipe e2 own) σ2 H' G3 e₁ := ⟨s3.g, s3.n, s3.k, s3.p, fun b z => s3.o b (pp.o b z)⟩
    have fin : ∀ {H4 G4 : Hp} {e5 : Env}, Gd C.W C.π σ2 H4 G4 e5 → Stp (L2.wipe σ own) H2 G2 (wipe e2 own) σ2 H4 G4 e5 →
        H4 D = some (.lst acc) ∧ G4 D = none ∧ ¬ ownA (L2.wipe σ own) (wipe e5 own) D ∧ Gd C.W C.π (L2.wipe σ own) H4 G4 (wipe e5 own) ∧ Stp (L2.wipe σ own) H1 G1 (wipe e1 own) (L2.wipe σ own) H4 G4 (wipe e5 own) := by
      intro H4 G4 e5 g4 s4
      have gw := gd_wipe g4 own
      have sw := stp_wipe (s2.trans s4) own
      rw [hw] at gw sw
      refine ⟨s4.k D _ hD2 hn2, ?_, fun z => ?_, gw, sw⟩
      · refine Classical.byContradiction fun z => ?_
        rcases s4.n D z with q | q | q
        · exact q hG2
        · rw [hD2] at q; cases q
        · exact hn2 q
      · have z' : ownA σ2 e5 D := own_wipe (by rw [hw]; exact z)
        rcases s4.o D z' with q | q
        · exact hn2 q
        · rw [hD2] at q; cases q
    rw [q2]
    intro b' H3 G4 g4 s4 hb
    cases hb
    rcases q3 with ⟨rfl, yv, q4, rfl⟩ | ⟨rfl, rfl, rfl⟩
    · rw [if_pos rfl]
      refine ⟨G4, e₂, g4, ?_⟩
      rw [q4]
      intro v H4 G5 g5 s5 rv
      obtain ⟨G6, g6, s6, d6, sb6⟩ := RV.give g5 rv s5
      obtain ⟨f1, f2, f3, f4, f5⟩ := fin g6 ((s3'.trans s4).trans s6)
      have hacc6 : DenL C.W G6 accD acc := hacc.mono ((s3'.trans s4).trans s6).g
      refine ⟨acc, f1, ?_, G6, e4, acc ++ [v], accD ++ [yv], upd_same, hacc6.append (.one d6), f2, f3, gd_acc f4 f2 f3 _, stp_acc f5 hD _, ?_⟩
      · rw [hacc.length, ← lim_eq]
        simp at hlen
        omega
      · simpa using hk
    · rw [if_neg Bool.false_ne_true]
      obtain ⟨f1, f2, f3, f4, f5⟩ := fin g4 (s3'.trans s4)
      exact ⟨G4, e4, acc, accD, f1, hacc.mono (s3'.trans s4).g, f2, f3, f4, f5, by simpa using hk⟩
  · have e4 : i = items.length := by omega
    subst e4
    refine .inl ⟨w2.stops H2 g2.sub, ?_⟩
    rw [List.drop_length, compK_nil] at hk
    rw [← hk] at h1
    unfold finR at h1
    split at h1
    · obtain ⟨gg, ss, oo⟩ := gd_rest g1 g2 s2
      refine h1 _ H2 G2 gg ss (RV.new rfl ⟨D, rfl, .inl hD, hG2, ⟨acc, hD2, hacc⟩, fun z => ?_⟩)
      rcases oo D z with q | q
      · exact (g1.owned q).2 hD
      · exact hn2 q
    · exact h1.elim
end TI
set_option Elab.async false
set_option linter.all false
set_option maxRecDepth 100000
set_option maxHeartbeats 4000000
namespace TI
open PySem PySem.Spec L2
structure FnG (P : Program) (w : World) (K : PySem.W.Frag) (mg : Str → Option Value) (base : Heap) (CX : CXT) (k : Nat) (f : Addr) (fd : FuncData) (ps : List Str) (sp : Sp) : Prop where
  size : ∀ {vs : List V} {H : Hp} {Q : VK} {E : XK}, sp vs H Q E → vs.length = ps.length
  go : ∀ {A : Around} {outer : List PySem.Env} {s : Shared} {H : Hp} {args : Args} {us : List Value} {vs : List V} {Q : VK} {E : XK}, Room k A → A.guards = some [] → Env0 P w K mg base A outer s H →
    BindsTo s fd args (ps.zip us) → Vals vs us → sp vs H Q E → codeAny (model P w) A (.call (.ref f) args) (CR CX outer P w H s Q E) s
section
variable {P : Program} {w : World} {K : PySem.W.Frag} {mg : Str → Option Value} {base : Heap} {CX : CXT}
theorem fng_end {N : List Str} {qual : Str} {scope : PySem.Scope} {f : Addr} {cdv : Value} {A : Around} {outer : List PySem.Env} {s s' : Shared} {H : Hp} {E : XK} {Q : VK} {fl : Flow}
    (h : SP (cxOf CX P w K mg base N qual scope f cdv A outer s H E) [] { nx := fun _ H' => Q .non H', rt := Q } fl s') :
    CR CX outer P w H s Q E (.ok (.ret (match fl with | .ret v => v | _ => .none))) s' := by
  have out : ∀ {σ' : L2.St} {H' : Hp} {v : V} {u : Value}, Inv (cxOf CX P w K mg base N qual scope f cdv A outer s H E) [] σ' H' s' → RelV v u → Q v H' → CE outer P w H s Q u s' :=
    fun J rv q => ⟨_, _, J.os, J.bare, J.base, J.hok, rv, q⟩
  match fl, h with
  | .ret u, ⟨v, σ', H', J, rv, q⟩ => exact out J rv q
  | .next, ⟨σ', H', J, q⟩ => exact out (v := .non) (u := .none) J rfl q
  | .brk, ⟨_, _, _, q⟩ => exact q.elim
  | .cont, ⟨_, _, _, q⟩ => exact q.elim
theorem fng_of {x qual : Str} {params : Arguments} {body : List Stmt} {scope : PySem.Scope} {f : Addr} {fd : FuncData} {dvs : List V} {kws : List (Str × V)} {N ps : List Str} {k : Nat} {sp : Sp} (F : FunD K x qual params body scope dvs kws f fd) (S : FnScope N ps scope)
    (size : ∀ {vs : List V} {H : Hp} {Q : VK} {E : XK}, sp vs H Q E → vs.length = ps.length)
    (hb : ∀ (cdv : Value) (A : Around) (outer : List PySem.Env) (s : Shared) (H : Hp) (vs : List V) (Q : VK) (E : XK), Room k (A.deeper (PyProof.Rows.envOfC qual scope s.heap.objs.size f cdv)) → (A.deeper (PyProof.Rows.envOfC qual scope s.heap.objs.size f cdv)).guards = some [] → sp vs H Q E →
      ∃ t, PSs (cxOf CX P w K mg base N qual scope f cdv A outer s H E) body t ∧ t { nx := fun _ H' => Q .non H', rt := Q } (L2.start N vs) H) : FnG P w K mg base CX (k + 1) f fd ps sp where
  size := size
  go := by
    intro A outer s H args us vs Q E room gd e0 bt rv hsp
    obtain ⟨oc, od, dV, kV, doc, pm, an, cdv, ct, osl, rfl, lk, code, -, -⟩ := F.ex
    have hold : ∀ b o, base.get? b = some o → s.heap.get? b = some o := fun b o e => (e0.bs b o e).1
    have kin : K.In s.heap := e0.mod.kin.keeps hold
    have names : ∀ y ∈ ps.zip us, scope.names.lookup y.1 = some .local ∨ (scope.names.lookup y.1 = some .cell ∧ ((cellsFrom (s.heap.objs.size + 1) scope.names []).lookup y.1).isSome = true) := by
      rintro ⟨n, v⟩ hy
      exact (S.par n (List.of_mem_zip hy).1).imp_right fun q => ⟨q, PySem.W.cellsFrom_some _ _ _ (.inl q)⟩
    apply codeAny_call_function room.depth (kin _ _ lk) rfl S.co S.gen rfl (PySem.W.codeRec_of kin code)
    apply bt
    apply wpAny_newFunctionEnv_cells S.kind names
    rintro env rfl s1 x
    refine ⟨(e0.mod.nolimit.keeps hold).keeps x.toInCall.keep, codeAny_func ?_⟩
    obtain ⟨t, pt, ht⟩ := hb cdv A outer s H vs Q E (room.deeper _) gd hsp
    exact wpAny_mono (pt.run [] s1 _ H _ (inv_start S room.hd e0 (size hsp) rv x) ht) (fun fl s' h => by cases fl <;> exact fng_end h) fun e s' h => h
end
section
variable {X : Cx} {CX : CXT} {k : Nat} {f : Addr} {fd : FuncData} {ps : List Str} {sp : Sp} {E : L2.St → XK} {x : Str} {p pos : Pos} {e : PySem.Expr} {es : List PySem.Expr} {t : TA}
theorem run_fnG {pins : List (Addr × Obj)} {σ : L2.St} {H : Hp} {s : Shared} {Q : VK} {us : List Value} {vs : List V} (F : FnG X.prog X.w X.K X.mg X.base CX k f fd ps sp) (hr : Room k X.A) (hg : X.A.guards = some []) (hb : Binds X.K fd ps [])
    (hx : PassesAt CX X σ (E σ)) (I : Inv X pins σ H s) (r : Vals vs us) (h : sp vs H Q (E σ)) : wpAny (model X.prog X.w) X.A (call (.ref f) us) (EP X pins σ Q) X.xe s := by
  have b := hb s us I.kIn (by rw [List.append_nil, ← r.length]; exact F.size h)
  rw [List.append_nil] at b
  apply wpAny_call
  apply codeAny_mono (F.go hr hg I.env0 b r h)
  rintro (e | fl) s' q
  · exact hx pins H s e s' I q
  · match fl, q with
    | .ret u, q => exact I.after q
    | .next, q => exact q.elim
    | .brk, q => exact q.elim
    | .cont, q => exact q.elim
theorem pe_callG0 (F : FnG X.prog X.w X.K X.mg X.base CX k f fd ps sp) (hr : Room k X.A) (gd : X.A.guards = some []) (hg : Gl X x) (hm : X.mg x = some (.ref f)) (hk : PySem.W.keepIn X.K (.ref f) = true) (hb : Binds X.K fd ps [])
    (hx : ∀ σ, PassesAt CX X σ (E σ)) (hdb : (x == ("__debug__" : Str)) = false) : PE X (.Call (.Name x p) [] [] pos) (tCallS sp E tNil) :=
  ⟨fun pins s σ H Q I h => wpAny_Call_Name_kw (ld_glob I hg hm (PySem.W.callWith_K0 I.kIn hk (run_fnG F hr gd hb (hx σ) I .nil h)) hdb)⟩
theorem pe_callG (F : FnG X.prog X.w X.K X.mg X.base CX k f fd ps sp) (hr : Room k X.A) (gd : X.A.guards = some []) (hg : Gl X x) (hm : X.mg x = some (.ref f)) (hk : PySem.W.keepIn X.K (.ref f) = true) (hb : Binds X.K fd ps [])
    (hx : ∀ σ, PassesAt CX X σ (E σ)) (ha : PA X (e :: es) t) (hdb : (x == ("__debug__" : Str)) = false) (st : starEach (e :: es) X.env = (false, eval e X.env) :: starEach es X.env) (pl : (backTo pos (starEach es X.env)).any (·.1) = false) :
    PE X (.Call (.Name x p) (e :: es) [] pos) (tCallS sp E t) :=
  ⟨fun pins s σ H Q I h => wpAny_Call_Name_kw (ld_glob I hg hm (PySem.W.callWith_K (h₀ := X.base) I.ok.mod.kin hk (thn (ha.run pos pins s σ H _ I h) fun us s1 ⟨vs, H1, I1, r, q⟩ => ⟨I1.kIn, run_fnG F hr gd hb (hx σ) I1 r q⟩) st pl) hdb)⟩
end
end TI
set_option Elab.async false
set_option linter.all false
set_option maxRecDepth 100000
set_option maxHeartbeats 4000000
namespace TI
open PySem PySem.Spec L2
section
variable {P : Program} {w : World} {α : Type} [DecidableEq α] {knd : PySem.KeyKind P w α}
inductive Ks (knd : PySem.KeyKind P w α) : List α → List (Int × Value) → Prop where
  | nil : Ks knd [] []
  | cons {k : α} {e : Int × Value} {ks : List α} {es : List (Int × Value)} : knd.is k e.2 = true → e.1 = knd.hash k → e.2.scannable = true → Ks knd ks es → Ks knd (k :: ks) (e :: es)
theorem Ks.elems {ks : List α} {es : List (Int × Value)} (h : Ks knd ks es) : ElemsOf knd es := by
  induction h with
  | nil => exact fun e he => nomatch he
  | cons a b c _ ih =>
    intro x hx
    rcases List.mem_cons.mp hx with rfl | hx
    · exact ⟨⟨_, a, b⟩, c⟩
    · exact ih x hx
theorem Ks.mem {ks : List α} {es : List (Int × Value)} (h : Ks knd ks es) (k : α) : k ∈ ks ↔ ∃ e ∈ es, knd.is k e.2 = true := by
  induction h with
  | nil => simp
  | cons a b c _ ih =>
    rename_i j e ks es _
    rw [List.mem_cons, ih]
    constructor
    · rintro (rfl | ⟨x, h1, h2⟩)
      · exact ⟨_, List.mem_cons_self, a⟩
      · exact ⟨x, List.mem_cons_of_mem _ h1, h2⟩
    · rintro ⟨x, h1, h2⟩
      rcases List.mem_cons.mp h1 with rfl | h1
      · exact .inl (knd.inj _ _ _ h2 a)
      · exact .inr ⟨x, h1, h2⟩
theorem Ks.perm {es es' : List (Int × Value)} (p : es'.Perm es) : ∀ {ks : List α}, Ks knd ks es → ∃ ks', ks'.Perm ks ∧ Ks knd ks' es' := by
  induction p with
  | nil => intro ks h; exact ⟨ks, .refl _, h⟩
  | cons x _ ih =>
    intro ks h
    cases h with
    | cons a b c r =>
      obtain ⟨ks', p', r'⟩ := ih r
      exact ⟨_, p'.cons _, .cons a b c r'⟩
  | swap x y l =>
    intro ks h
    cases h with
    | cons a b c r => cases r with
      | cons a' b' c' r => exact ⟨_, List.Perm.swap .., .cons a' b' c' (.cons a b c r)⟩
  | trans _ _ i1 i2 =>
    intro ks h
    obtain ⟨k1, p1, r1⟩ := i2 h
    obtain ⟨k2, p2, r2⟩ := i1 r1
    exact ⟨k2, p2.trans p1, r2⟩
def GSet (knd : PySem.KeyKind P w α) (h : Heap) (a : Addr) (ks : List α) : Prop :=
  ∃ o es ep t ls, h.get? a = some o ∧ o.ExactSet ∧ o.data = .set es ep t ∧ Ks knd ls es.toList ∧ ls.Perm ks ∧ ks.Nodup ∧ es.size < scanBound ∧ t.fits es.size = true ∧ Ris t.place.toList ∧ (w.params.followText "set-order" = true ∨ t.led = true)
theorem GSet.at {h h' : Heap} {a : Addr} {ks : List α} (g : GSet knd h a ks) (k : ∀ o, h.get? a = some o → h'.get? a = some o) : GSet knd h' a ks := by
  obtain ⟨o, es, ep, t, ls, ho, r⟩ := g
  exact ⟨o, es, ep, t, ls, k o ho, r⟩
variable {A : Around} {E : Value → Shared → Prop} {s : Shared} {a : Addr}
theorem gset_tail {gv : Bool → Sem Unit} (hg : ∀ (b : Bool) (s1 : Shared) (R : Unit → Shared → Prop), R () s1 → wpAny (model P w) A (gv b) R E s1)
    {o : Obj} {es es1 : Array (Int × Value)} {ep : Nat} {t t1 : SetTable} {ls ks : List α} (ho : s.heap.get? a = some o) (hx : o.ExactSet) (hd : o.data = .set es ep t)
    (hk : Ks knd ls es1.toList) (hp : ls.Perm ks) (nd : ks.Nodup) (hb : es1.size < scanBound) (hf : t1.fits es1.size = true) (hr : Ris t1.place.toList) (hl : w.params.followText "set-order" = true ∨ t1.led = true) {dm : Bool} {R : Option Bool → Shared → Prop}
    (hR : ∀ h', Heap.SameBut a s.heap h' → GSet knd h' a ks → R (some true) { s with heap := h' }) :
    wpAny (model P w) A (do
        storeSet a es1 t1
        if (!dm && t1.tooFull) = true then do
            gv (relayAll t1 es1 (SetTable.grown es1.size)).2.2
            storeSet a (relayAll t1 es1 (SetTable.grown es1.size)).1 (relayAll t1 es1 (SetTable.grown es1.size)).2.1
            pure (some true)
          else pure (some true)) R E s := by
  have at1 := store_at (es' := es1) (t' := t1) ho hd
  have same := Heap.SameBut.update s.heap a (Obj.putSet es1 t1)
  apply wpAny_bind
  refine wpAny_storeSet_of ho hd ?_ (fits_of_scanBound hb)
  by_cases full : (!dm && t1.tooFull) = true
  · rw [if_pos full]
    have p2 := relayAll_perm t1 es1 (SetTable.grown es1.size)
    have f2 := relayAll_fits t1 es1 (SetTable.grown es1.size)
    have r2 := relayAll_ris t1 es1 (SetTable.grown es1.size)
    have l2 := relayAll_led t1 es1 (SetTable.grown es1.size)
    revert p2 f2 r2 l2
    generalize relayAll t1 es1 (SetTable.grown es1.size) = Z
    obtain ⟨es2, t2, gave⟩ := Z
    intro p2 f2 r2 l2
    dsimp only at p2 f2 r2 l2 ⊢
    have e2 : es2.size = es1.size := by simpa using p2.length_eq
    have b2 : es2.size < scanBound := by omega
    refine wpAny_bind (hg _ _ _ (wpAny_bind (wpAny_storeSet_of at1 rfl ?_ (fits_of_scanBound b2))))
    obtain ⟨l3, p3, k3⟩ := hk.perm p2
    refine wpAny_pure (hR _ (same.trans (Heap.SameBut.update _ a _)) ⟨_, es2, _, t2, l3, store_at (es' := es2) (t' := t2) at1 rfl, hx, rfl, k3, p3.trans hp, nd, b2, by rw [e2] at f2 ⊢; exact f2, r2, ?_⟩)
    rw [l2]
    exact hl
  · rw [if_neg full]
    exact wpAny_pure (hR _ same ⟨_, es1, _, t1, ls, at1, hx, rfl, hk, hp, nd, hb, hf, hr, hl⟩)
theorem gset_add {ks : List α} {k : α} {x : Value} {Q : Bool → Shared → Prop} (hk : knd.is k x = true) (sc : x.scannable = true) (g : GSet knd s.heap a ks) (room : ks.length + 1 < scanBound)
    (hQ : ∀ h', Heap.SameBut a s.heap h' → GSet knd h' a (if k ∈ ks then ks else ks ++ [k]) → ∀ b, Q b { s with heap := h' }) : wpAny (model P w) A (setAddHashed a x (knd.hash k)) Q E s := by
  obtain ⟨o, es, ep, t, ls, ho, hx, hd, hks, hp, nd, hb, hf, hr, hl⟩ := g
  have el := hks.elems
  have sz : es.size = ks.length := by
    have : ∀ {ls : List α} {es : List (Int × Value)}, Ks knd ls es → es.length = ls.length := by
      intro ls es h
      induction h with
      | nil => rfl
      | cons _ _ _ _ ih => simp [ih]
    rw [← hp.length_eq, ← this hks, Array.length_toList]
  unfold setAddHashed setAddHashedIn
  apply wpAny_holding
  apply wpAny_bind
  refine wpAny_setState_of ho hd hf ?_
  dsimp only
  rw [byScan_of sc hb el]
  simp only [↓reduceIte]
  unfold setAddByScan
  apply wpAny_bind
  apply wpAny_bind
  refine wpAny_rule ?_
  apply wpAny_bind
  refine wpAny_setScan_of hk ho hd hf el ?_
  cases hfi : List.findIdx? (fun e => knd.is k e.2) es.toList with
  | some j =>
    dsimp only
    obtain ⟨hj, pj, -⟩ := List.findIdx?_eq_some_iff_getElem.mp hfi
    have hin : k ∈ ks := hp.mem_iff.mp ((hks.mem k).mpr ⟨_, List.getElem_mem hj, pj⟩)
    have q := hQ s.heap (Heap.SameBut.refl a s.heap) (by rw [if_pos hin]; exact ⟨o, es, ep, t, ls, ho, hx, hd, hks, hp, nd, hb, hf, hr, hl⟩)
    exact wpAny_pure (wpAny_pure (q _))
  | none =>
    dsimp only
    have hout : k ∉ ks := fun z => by
      obtain ⟨e, he, q⟩ := (hks.mem k).mp (hp.mem_iff.mpr z)
      have := List.findIdx?_eq_none_iff.mp hfi e he
      rw [q] at this
      cases this
    have p1 := layNew_perm t es (knd.hash k) x
    have f1 := layNew_fits t es (knd.hash k) x
    have r1 := layNew_ris t es (knd.hash k) x hr
    have l1 := layNew_led t es (knd.hash k) x
    revert p1 f1 r1 l1
    generalize layNew t es (knd.hash k) x = Z
    obtain ⟨es1, t1, dm, gave⟩ := Z
    intro p1 f1 r1 l1
    dsimp only at p1 f1 r1 l1 ⊢
    rw [Array.toList_push] at p1
    obtain ⟨l2, p2, k2⟩ := (Ks.cons hk rfl sc hks).perm (p1.trans (List.perm_append_singleton (knd.hash k, x) es.toList))
    have p3 : l2.Perm (ks ++ [k]) := p2.trans ((hp.cons k).trans (List.perm_append_singleton k ks).symm)
    have nd3 : (ks ++ [k]).Nodup := (List.perm_append_singleton k ks).nodup_iff.mpr (List.nodup_cons.mpr ⟨hout, nd⟩)
    have b1 : es1.size < scanBound := by
      have := p1.length_eq
      simp only [Array.length_toList, List.length_append, List.length_cons, List.length_nil] at this
      omega
    have led1 : w.params.followText "set-order" = true ∨ t1.led = true := by rw [l1]; exact hl
    have fin : ∀ h', Heap.SameBut a s.heap h' → GSet knd h' a (ks ++ [k]) → ∀ b, Q b { s with heap := h' } := fun h' sb r => hQ h' sb (by rw [if_neg hout]; exact r)
    have gw : ∀ (b : Bool) (s1 : Shared) (R : Unit → Shared → Prop), R () s1 → wpAny (model P w) A (match b with | true => rule "set.scan.the-table-gave-way" | false => pure ()) R E s1 :=
      fun b s1 R q => by
        cases b
        · exact wpAny_pure q
        · exact wpAny_rule q
    apply wpAny_bind
    refine gw _ _ _ ?_
    split
    · apply wpAny_bind
      rw [hashByValue_scannable 8 sc]
      refine wpAny_pure ?_
      refine gset_tail (knd := knd) (ls := l2) (ks := ks ++ [k]) gw ho hx hd k2 p3 nd3 b1 ?_ ?_ ?_ ?_
      · first
          | exact f1
          | (split
             · exact f1
             · exact SetTable.fits_plain_off f1)
      · first
          | exact r1
          | (split <;> exact r1)
      · first
          | exact led1
          | (split <;> exact led1)
      · intro h' sb r
        exact wpAny_pure (fin h' sb r _)
    · refine wpAny_bind (wpAny_pure ?_)
      simp only [↓reduceIte]
      refine gset_tail (knd := knd) (ls := l2) (ks := ks ++ [k]) gw ho hx hd k2 p3 nd3 b1 f1 r1 led1 ?_
      intro h' sb r
      exact wpAny_pure (fin h' sb r _)
end
end TI
set_option Elab.async false
set_option linter.all false
set_option maxRecDepth 100000
set_option maxHeartbeats 4000000
namespace TI
open PySem PySem.Spec L2
def metK {α : Type} [DecidableEq α] (val : Nat → α) : Nat → List α
  | 0 => []
  | n + 1 => addK (metK val n) (val n)
theorem metK_len {α : Type} [DecidableEq α] (val : Nat → α) : ∀ n, (metK val n).length ≤ n
  | 0 => Nat.le_refl _
  | n + 1 => by
    have := metK_len val n
    show (addK _ _).length ≤ _
    unfold addK
    split
    · omega
    · rw [List.length_append]; simp; omega
theorem metK_take {α : Type} [DecidableEq α] {val : Nat → α} {l : List α} (h : ∀ i x, l[i]? = some x → val i = x) : ∀ n, n ≤ l.length → metK val n = uniqK (l.take n)
  | 0, _ => by simp [metK, uniqK]
  | n + 1, hn => by
    have hx : l[n]? = some l[n] := List.getElem?_eq_getElem hn
    rw [metK, metK_take h n (by omega), h n _ hx]
    unfold uniqK
    rw [List.take_succ, hx, List.foldl_append]
    rfl
theorem metK_all {α : Type} [DecidableEq α] {val : Nat → α} {l : List α} (h : ∀ i x, l[i]? = some x → val i = x) : metK val l.length = uniqK l := by
  rw [metK_take h _ (Nat.le_refl _), List.take_length]
section
variable {P : Program} {w : World} {α : Type} [DecidableEq α] {knd : PySem.KeyKind P w α} {A : Around} {R : Result → Shared → Prop}
theorem set_loop {I : Addr} {fp wr : List Addr} {Gn : Array GenState → Array GenState → Prop} {n : Nat} {Pv : Nat → Value → Prop} {St : Nat → Shared → Prop} (Wk : WalksS P w A.in1 I fp wr Gn n Pv St) {S : Addr} (hS : S ∉ fp)
    (val : Nat → α) (hv : ∀ i v, Pv i v → knd.is (val i) v = true ∧ v.scannable = true) (room : n + 1 < scanBound) : ∀ (left i : Nat) (s : Shared), i + left = n → St i s → GSet knd s.heap S (metK val i) →
      (∀ s', Moved (S :: wr) Gn s s' → GSet knd s'.heap S (metK val n) → R (.ok (.ret .none)) s') → codeAny (model P w) A (.builtin "set.update.loop" ⟨[.ref S, .ref I], []⟩) R s
  | 0, i, s, hi, st, g, hR => by
    cases (show i = n from hi)
    refine codeAny_builtin PyProof.Rows.F.entry_set_update_loop ?_
    rw [Around.under_plainId PyProof.Rows.F.plain_set_update_loop _]
    show wpAny _ A.in1 (pyNext (.ref I) >>= _) _ _ s
    apply wpAny_bind
    refine Wk.done s _ _ st fun s' m => ?_
    show wpAny _ A.in1 (ret Value.none) _ _ s'
    exact wpAny_pure (hR s' (m.mono fun b hb => List.mem_cons_of_mem _ hb) (g.at fun o e => m.heap S o (fun z => hS (Wk.sub _ z)) e))
  | left + 1, i, s, hi, st, g, hR => by
    refine codeAny_builtin PyProof.Rows.F.entry_set_update_loop ?_
    rw [Around.under_plainId PyProof.Rows.F.plain_set_update_loop _]
    show wpAny _ A.in1 (pyNext (.ref I) >>= _) _ _ s
    apply wpAny_bind
    refine Wk.item i s _ _ (by omega) st fun v s' pv st' m => ?_
    obtain ⟨hk, sc⟩ := hv i v pv
    have g' : GSet knd s'.heap S (metK val i) := g.at fun o e => m.heap S o (fun z => hS (Wk.sub _ z)) e
    show wpAny _ A.in1 (holding [v] (setAdd S v) >>= _) _ _ s'
    apply wpAny_bind
    apply wpAny_holding
    unfold setAdd
    apply wpAny_holding
    apply wpAny_bind
    refine knd.pyHash hk ?_
    have few : (metK val i).length + 1 < scanBound := by have := metK_len val i; omega
    refine gset_add (s := { s' with toks := s'.toks + 1 }) hk sc g' few fun h' sb g2 b => ?_
    refine wpAny_pure ⟨plainId_quiet PyProof.Rows.F.plain_set_update_loop _, ?_⟩
    have oth : ∀ b o, b ≠ S → s'.heap.get? b = some o → h'.get? b = some o := fun b o hb e => by rw [sb.2 b hb]; exact e
    refine set_loop Wk hS val hv room left (i + 1) _ (by omega) (Wk.frame _ s' _ _ st' (Nat.le_succ _) fun b hb o e => oth b o (fun z => hS (z ▸ hb)) e) g2 fun s'' m2 g3 => ?_
    refine hR s'' (Moved.trans Wk.gtrans ?_ m2) g3
    exact (m.mono fun b hb => List.mem_cons_of_mem _ hb).then_heap (Nat.le_succ _) fun b o hb e => oth b o (fun z => hb (z ▸ List.mem_cons_self)) e
end
theorem gset_fresh {P : Program} {w : World} {α : Type} [DecidableEq α] {knd : PySem.KeyKind P w α} {h : Heap} :
    GSet knd (h.push { cls := .type "set", dict := none, data := .set #[] 0 (.fresh 0 0 (!w.params.followText "set-order")) }) h.objs.size [] := by
  refine ⟨_, #[], 0, _, [], Heap.get?_push_size _ rfl, ⟨rfl, rfl, rfl⟩, rfl, .nil, .refl _, .nil, by decide, by rfl, List.Pairwise.nil, ?_⟩
  show _ ∨ (!w.params.followText "set-order") = true
  cases w.params.followText "set-order"
  · exact .inr rfl
  · exact .inl rfl
theorem set_new1 {P : Program} {w : World} {A : Around} {E : Value → Shared → Prop} {s : Shared} {Q : Value → Shared → Prop} (a : Value)
    (h : Q (.ref s.heap.objs.size) { s with heap := s.heap.push { cls := .type "set", dict := none, data := .set #[] 0 (.fresh 0 0 (!w.params.followText "set-order")) } }) :
    codeAny (model P w) A (.call (.builtin "set.__new__") ⟨[.type "set", a], []⟩) (wants Q E) s := by
  apply codeAny_of_tree
  show wpAny _ A.in1 (do checkBuiltinCall "set.__new__" ⟨[.type "set", a], []⟩; again (.builtin "set.__new__" ⟨[.type "set", a], []⟩)) _ _ s
  apply wpAny_bind
  refine wpAny_of_eq (F.newCall_set_1 a) (wpAny_pure ⟨plainId_quiet F.plain_set_new _, codeAny_builtin F.entry_set_new ?_⟩)
  rw [Around.under_plainId F.plain_set_new _]
  unfold Builtin.«set.__new__» Builtin.Frozenset.newClass
  have subs := sub_set_self
  obtain ⟨hp, g, d, tk, os⟩ := s
  dsimp only
  wp_walk
  refine wpAny_askSetting (wpAny_pure ?_)
  dsimp only
  simp only [newObj]
  refine wpAny_bind (wpAny_alloc (wpAny_pure ?_))
  exact wpAny_pure h
section
variable {P : Program} {w : World} {α : Type} [DecidableEq α] {knd : PySem.KeyKind P w α} {A : Around} {E : Value → Shared → Prop} {s : Shared} {Q : Value → Shared → Prop}
structure Src (knd : PySem.KeyKind P w α) (s : Shared) (v : Value) (T : String) (val : Nat → α) (n : Nat) : Prop where
  ty : ∀ s1 : Shared, (∀ b o, s.heap.get? b = some o → s1.heap.get? b = some o) → s1.TypeIs v T
  s1 : isSubtype (.type T) (.type "set") = pure false
  s2 : isSubtype (.type T) (.type "frozenset") = pure false
  nd : (Value.type T == Value.type "dict") = false
  it : ∀ (A : Around) (E : Value → Shared → Prop) (s1 : Shared) (R : Value → Shared → Prop), A.handled = none → (∀ b o, s.heap.get? b = some o → s1.heap.get? b = some o) → s.heap.objs.size ≤ s1.heap.objs.size →
    (∀ (o : Obj) (fp wr : List Addr) (Gn : Array GenState → Array GenState → Prop) (Pv : Nat → Value → Prop) (St : Nat → Shared → Prop), (∀ b ∈ fp, b < s.heap.objs.size ∨ b = s1.heap.objs.size) → (∀ b ∈ wr, b = s1.heap.objs.size) → (∀ a b, Gn a b → b = a) →
      (∀ A' : Around, A'.handled = none → WalksS P w A' s1.heap.objs.size fp wr Gn n Pv St) → (∀ i v, Pv i v → knd.is (val i) v = true ∧ v.scannable = true) → St 0 { s1 with heap := s1.heap.push o } → R (.ref s1.heap.objs.size) { s1 with heap := s1.heap.push o }) →
    wpAny (model P w) A (pyIter v) R E s1
theorem call_set (hh : A.handled = none) {v : Value} {T : String} {val : Nat → α} {n : Nat} (sr : Src knd s v T val n) (room : n + 1 < scanBound)
    (h : ∀ (h' : Heap) (tk : Nat), GSet knd h' s.heap.objs.size (metK val n) → (∀ b o, s.heap.get? b = some o → h'.get? b = some o) → Q (.ref s.heap.objs.size) { s with heap := h', toks := tk }) :
    wpAny (model P w) A (call (.type "set") [v]) Q E s := by
  obtain ⟨c, tl, hmro⟩ := F.called_set.mro
  have hmade := F.called_set.made
  have hsub := F.called_set.sub
  refine wpAny_call (codeAny_of_tree ?_)
  show wpAny _ _ (callAny (.type "set") _) _ _ _
  refine wpAny_pure ⟨Code.quiet_builtin _ (by decide +kernel), codeAny_builtin F.entry_type_call ?_⟩
  rw [Around.under_plain (weight_type_call_type "set" [v] []) rfl]
  have h1 := F.called_set.notType
  have h2 := F.called_set.canCreate
  have hct := F.typeCall_set_1 v
  repeat (any_goals (first | assumption | wp_step))
  refine codeAny_mono (set_new1 v (E := E) (Q := fun obj s1 => obj = .ref s.heap.objs.size ∧ s1 = { s with heap := s.heap.push { cls := .type "set", dict := none, data := .set #[] 0 (.fresh 0 0 (!w.params.followText "set-order")) } }) ⟨rfl, rfl⟩) fun r s1 hr => ?_
  cases r with
  | error e => exact hr
  | ok fl =>
    cases fl with
    | ret obj =>
      obtain ⟨rfl, rfl⟩ := hr
      have hS : (s.heap.push { cls := .type "set", dict := none, data := .set #[] 0 (.fresh 0 0 (!w.params.followText "set-order")) }).get? s.heap.objs.size = some { cls := .type "set", dict := none, data := .set #[] 0 (.fresh 0 0 (!w.params.followText "set-order")) } := Heap.get?_push_size _ rfl
      have hT : Shared.TypeIs { s with heap := s.heap.push { cls := .type "set", dict := none, data := .set #[] 0 (.fresh 0 0 (!w.params.followText "set-order")) } } (.ref s.heap.objs.size) "set" := ⟨_, hS, rfl⟩
      have kp : ∀ b o, s.heap.get? b = some o → (s.heap.push { cls := .type "set", dict := none, data := .set #[] 0 (.fresh 0 0 (!w.params.followText "set-order")) }).get? b = some o := fun b o e => Heap.get?_push_of_some _ e
      have hli := F.called_set.init.lookup
      have hbi := F.called_set.init.bind (.ref s.heap.objs.size)
      repeat (any_goals (first | assumption | wp_step))
      refine codeAny_mono (codeAny_call_builtin (R := wants (fun r s2 => r = .none ∧ ∃ h' tk, s2 = { s with heap := h', toks := tk } ∧ GSet knd h' s.heap.objs.size (metK val n) ∧ (∀ b o, s.heap.get? b = some o → h'.get? b = some o)) E)
        F.called_set.init.plain F.entry_set_init (check_set_init_1 hT ?_)) fun r2 s2 hr2 => ?_
      · have tv := sr.ty { s with heap := s.heap.push { cls := .type "set", dict := none, data := .set #[] 0 (.fresh 0 0 (!w.params.followText "set-order")) } } kp
        have hs1 := sr.s1
        have hs2 := sr.s2
        have hnd := sr.nd
        unfold Builtin.«set.__init__» noKeywords Builtin.Frozenset.updateFrom
        generalize hPI : pyIter = PI
        wp_walk
        subst hPI
        refine sr.it _ _ _ _ (by simp [hh]) kp (by show _ ≤ (s.heap.push _).objs.size; rw [Heap.size_push]; exact Nat.le_succ _) fun o fp wr Gn Pv St hfp hwr hG W hv st => ?_
        refine wpAny_bind (wpAny_runValue ?_)
        have hI : (s.heap.push { cls := .type "set", dict := none, data := .set #[] 0 (.fresh 0 0 (!w.params.followText "set-order")) }).objs.size = s.heap.objs.size + 1 := Heap.size_push ..
        have notin : s.heap.objs.size ∉ fp := fun z => by
          rcases hfp _ z with q | q
          · exact Nat.lt_irrefl _ q
          · exact absurd (q.trans hI) (Nat.ne_of_lt (Nat.lt_succ_self _))
        refine set_loop (W _ (by simp [hh])) notin val hv room n 0 _ (by omega) st ?_ ?_
        · exact gset_fresh.at fun o e => Heap.get?_push_of_some _ e
        · intro s' m g
          obtain ⟨h', g', d', tk', os'⟩ := s'
          cases hG _ _ m.gens
          cases (show d' = s.drawn from m.drawn)
          cases (show os' = s.os from m.os)
          show wpAny _ _ _ _ _ _
          refine wpAny_pure ?_
          show wpAny _ _ (ret Value.none) _ _ _
          refine wpAny_pure ⟨rfl, h', tk', rfl, g, fun b o e => ?_⟩
          have hlt : b < s.heap.objs.size := Heap.lt_size e
          refine m.heap b o (fun z => ?_) (Heap.get?_push_of_some _ (kp b o e))
          rcases List.mem_cons.mp z with z | z
          · exact Nat.ne_of_lt hlt z
          · exact Nat.ne_of_lt (Nat.lt_succ_of_lt hlt) ((hwr _ z).trans hI)
      · cases r2 with
        | error e => exact hr2
        | ok fl2 =>
          cases fl2 with
          | ret r =>
            obtain ⟨rfl, h', tk, rfl, hS', hk'⟩ := hr2
            repeat (any_goals (first | assumption | wp_step))
            exact h _ _ hS' hk'
          | _ => exact hr2.elim
    | _ => exact hr.elim
end
end TI
set_option Elab.async false
set_option linter.all false
set_option maxRecDepth 100000
set_option maxHeartbeats 4000000
namespace TI
open PySem PySem.Spec L2
theorem paired_perm {α β : Type} {F : α → β → Prop} {ys ys' : List β} (p : ys'.Perm ys) : ∀ {xs : List α}, Paired F xs ys → ∃ xs', xs'.Perm xs ∧ Paired F xs' ys' := by
  induction p with
  | nil => intro xs h; exact ⟨xs, .refl _, h⟩
  | cons x _ ih =>
    intro xs h
    cases h with
    | cons a r =>
      obtain ⟨xs', p', r'⟩ := ih r
      exact ⟨_, p'.cons _, .cons a r'⟩
  | swap x y l =>
    intro xs h
    cases h with
    | cons a r => cases r with
      | cons b r => exact ⟨_, List.Perm.swap .., .cons b (.cons a r)⟩
  | trans _ _ i1 i2 =>
    intro xs h
    obtain ⟨k1, p1, r1⟩ := i2 h
    obtain ⟨k2, p2, r2⟩ := i1 r1
    exact ⟨k2, p2.trans p1, r2⟩
theorem paired_len {α β : Type} {F : α → β → Prop} {xs : List α} {ys : List β} (h : Paired F xs ys) : ys.length = xs.length := by
  induction h with
  | nil => rfl
  | cons _ _ ih => simp [ih]
section
variable {P : Program} {w : World} {α : Type} [DecidableEq α] {knd : PySem.KeyKind P w α} {A : Around} {E : Value → Shared → Prop} {s : Shared} {a : Addr} {ks : List α}
theorem Ks.vals {ls : List α} {es : List (Int × Value)} (h : Ks knd ls es) : Paired (fun k v => knd.is k v = true) ls (es.map (·.2)) := by
  induction h with
  | nil => exact .nil
  | cons a b c _ ih => exact .cons a ih
theorem gset_len {Q : Value → Shared → Prop} (g : GSet knd s.heap a ks) (h : Q (.int (ks.length : Int) (s.toks + 1)) { s with toks := s.toks + 1 + 1 }) : wpAny (model P w) A (call (.builtin "len") [.ref a]) Q E s := by
  obtain ⟨o, es, ep, t, ls, ho, hx, hd, hks, hp, nd, hb, hf, hr, hl⟩ := g
  have sz : es.size = ks.length := by
    have := paired_len hks.vals
    rw [List.length_map, Array.length_toList] at this
    rw [this, hp.length_eq]
  exact call_len_set ho hx hd hf (by unfold scanBound at hb; omega) (by rw [sz]; exact h)
theorem gset_sorted {Q : Value → Shared → Prop} (hh : A.handled = none) (g : GSet knd s.heap a ks) (So : List α → Prop)
    (hS : ∀ (s2 : Shared) (p : Addr) (vs : List Value) (ls : List α) (Pf : PySem.Fin → Shared → Prop) (A2 : Around), ls.Perm ks → Paired (fun k v => knd.is k v = true) ls vs → vs.length ≤ sizeLine → s2.heap.get? p = some (PyProof.Rows.seqObj "list" vs.toArray 0) →
      (∀ (out : Array Value) (ls' : List α), Paired (fun k v => knd.is k v = true) ls' out.toList → ls'.Perm ls → So ls' → Pf (.done (.ret .none)) { s2 with heap := PyProof.Rows.sortedHeap s2.heap p vs out }) →
      wpAny (model P w) A2 (Builtin.«list.sort» ⟨[.ref p], []⟩) Pf E s2)
    (hQ : ∀ s' p (out : Array Value) (c : Nat) (ls : List α), (∀ b o, s.heap.get? b = some o → s'.heap.get? b = some o) → s'.gens = s.gens → s'.os = s.os → s.heap.objs.size ≤ p →
      s'.heap.get? p = some (PyProof.Rows.seqObj "list" out c) → Paired (fun k v => knd.is k v = true) ls out.toList → ls.Perm ks → So ls → Q (.ref p) s') :
    wpAny (model P w) A (call (.builtin "sorted") [.ref a]) Q E s := by
  obtain ⟨o, es, ep, t, ls, ho, hx, hd, hks, hp, nd, hb, hf, hr, hl⟩ := g
  refine Calls.call_function_entry PyProof.Rows.kind_sorted PyProof.Rows.plain_sorted PyProof.Rows.entry_sorted (PyProof.Rows.args_sorted1 _) ?_
  unfold Builtin.«sorted»
  apply wpAny_bind (m := checkCount "sorted" 1 1 _)
  refine wpAny_pure ?_
  apply wpAny_bind
  refine collect_set (A := A.in1) hh ⟨o, ho, hx.1, hd⟩ hf hb hr hl fun s1 vs k1 z1 g1 o1 pm => ?_
  obtain ⟨l1, p1, v1⟩ := paired_perm pm hks.vals
  have few : vs.length ≤ sizeLine := by
    rw [pm.length_eq, List.length_map, Array.length_toList]
    exact fits_of_scanBound hb
  apply wpAny_bind
  refine wpAny_newList ?_ few
  have at1 : (s1.heap.push (PyProof.Rows.seqObj "list" vs.toArray 0)).get? s1.heap.objs.size = some (PyProof.Rows.seqObj "list" vs.toArray 0) := Heap.get?_push_size _ rfl
  apply wpAny_bind
  apply wpAny_holding
  refine wpAny_call_entry PyProof.Rows.slot_list_sort ⟨_, at1, rfl⟩ PyProof.Rows.entry_list_sort (hS _ _ vs l1 _ _ (p1.trans hp) v1 few at1 fun out l2 v2 p2 so => ⟨_, rfl, ?_⟩) (PyProof.Rows.args_list_sort _)
  obtain ⟨c, at2⟩ := PyProof.Rows.sortedHeap_at (vs := vs) (out := out) at1
  refine wpAny_pure ⟨_, rfl, hQ _ s1.heap.objs.size out c l2 (fun b u e => ?_) g1 o1 z1 at2 v2 (p2.trans (p1.trans hp)) so⟩
  have e1 := k1 b u e
  have lt := Heap.lt_size e1
  show (PyProof.Rows.sortedHeap (s1.heap.push (PyProof.Rows.seqObj "list" vs.toArray 0)) s1.heap.objs.size vs out).get? b = some u
  rw [PyProof.Rows.sortedHeap_old (Nat.ne_of_lt lt) (by rw [Heap.size_push]; exact Nat.lt_succ_of_lt lt)]
  exact Heap.get?_push_of_some _ e1
end
section
variable {P : Program} {w : World}
theorem is_strs : ∀ {ls : List Str} {vs : List Value}, Paired (fun k v => (strKind P w).is k v = true) ls vs → PyProof.Rows.StrsAre vs ls
  | _, _, .nil => .nil
  | _, _, .cons a r => by
    obtain ⟨t, rfl⟩ := Value.isStrOf_shape a
    exact .cons _ t (is_strs r)
theorem strs_is : ∀ {ls : List Str} {vs : List Value}, PyProof.Rows.StrsAre vs ls → Paired (fun k v => (strKind P w).is k v = true) ls vs
  | _, _, .nil => .nil
  | _, _, .cons y t r => .cons (strKind_is P w y t) (strs_is r)
theorem is_ints : ∀ {ls : List Int} {vs : List Value}, Paired (fun k v => (intKind P w).is k v = true) ls vs → PyProof.Rows.IntsAre vs ls
  | _, _, .nil => .nil
  | _, _, .cons a r => by
    obtain ⟨t, rfl⟩ := Value.isInt_shape a
    exact .cons _ t (is_ints r)
theorem ints_is : ∀ {ls : List Int} {vs : List Value}, PyProof.Rows.IntsAre vs ls → Paired (fun k v => (intKind P w).is k v = true) ls vs
  | _, _, .nil => .nil
  | _, _, .cons y t r => .cons (intKind_is P w y t) (ints_is r)
variable {E : Value → Shared → Prop}
theorem sort_strs {ks : List Str} (s2 : Shared) (p : Addr) (vs : List Value) (ls : List Str) (Pf : PySem.Fin → Shared → Prop) (A2 : Around) (hp : ls.Perm ks) (hv : Paired (fun k v => (strKind P w).is k v = true) ls vs) (hz : vs.length ≤ sizeLine)
    (at1 : s2.heap.get? p = some (PyProof.Rows.seqObj "list" vs.toArray 0))
    (h : ∀ (out : Array Value) (ls' : List Str), Paired (fun k v => (strKind P w).is k v = true) ls' out.toList → ls'.Perm ls → PyProof.Rows.sortedS ls' = true → Pf (.done (.ret .none)) { s2 with heap := PyProof.Rows.sortedHeap s2.heap p vs out }) :
    wpAny (model P w) A2 (Builtin.«list.sort» ⟨[.ref p], []⟩) Pf E s2 := by
  have hS := is_strs hv
  refine PyProof.Rows.list_sort_treeKAny PyProof.Rows.strKind_oneLt at1 hS.keysOf (fun v1 v2 rest e => PyProof.Rows.keyKind_strs (by rw [← e]; exact hS)) hz fun st' hp2 hs2 => ?_
  obtain ⟨ys, g1, g2, g3⟩ := PyProof.Rows.sorted_out_str hS hp2 hs2
  exact h _ ys (strs_is g1) g2 g3
theorem sort_ints {ks : List Int} (s2 : Shared) (p : Addr) (vs : List Value) (ls : List Int) (Pf : PySem.Fin → Shared → Prop) (A2 : Around) (hp : ls.Perm ks) (hv : Paired (fun k v => (intKind P w).is k v = true) ls vs) (hz : vs.length ≤ sizeLine)
    (at1 : s2.heap.get? p = some (PyProof.Rows.seqObj "list" vs.toArray 0))
    (h : ∀ (out : Array Value) (ls' : List Int), Paired (fun k v => (intKind P w).is k v = true) ls' out.toList → ls'.Perm ls → ls'.Pairwise (· ≤ ·) → Pf (.done (.ret .none)) { s2 with heap := PyProof.Rows.sortedHeap s2.heap p vs out }) :
    wpAny (model P w) A2 (Builtin.«list.sort» ⟨[.ref p], []⟩) Pf E s2 :=
  PyProof.Rows.list_sort_treeAny at1 (is_ints hv) hz fun out ns g1 g2 g3 => h out ns (ints_is g1) g2 g3
theorem sub_str_set : isSubtype (.type "str") (.type "set") = pure false := by rw [isSubtype_type]; kernel_rfl
theorem sub_str_frozenset : isSubtype (.type "str") (.type "frozenset") = pure false := by rw [isSubtype_type]; kernel_rfl
theorem sub_tuple_set : isSubtype (.type "tuple") (.type "set") = pure false := by rw [isSubtype_type]; kernel_rfl
theorem sub_tuple_frozenset : isSubtype (.type "tuple") (.type "frozenset") = pure false := by rw [isSubtype_type]; kernel_rfl
theorem src_str {s : Shared} {x : Str} {t : Tok} : Src (strKind P w) s (.str x t) "str" (fun i => ⟨#[x.cps.getD i 0]⟩) x.cps.size where
  ty := fun s1 _ => typeIs_str s1 x t
  s1 := sub_str_set
  s2 := sub_str_frozenset
  nd := by decide
  it := fun A E s1 R hh kp hz h => by
    refine wpAny_pyIter_str fun o St W hst => ?_
    refine h o [s1.heap.objs.size] [s1.heap.objs.size] (fun a b => b = a) (SignAt x) (fun i s => St i s.heap) (fun b hb => .inr (List.mem_singleton.mp hb)) (fun b hb => List.mem_singleton.mp hb) (fun _ _ e => e) (fun A' hA => (W A' hA).toS) (fun i v hv => ?_) hst
    obtain ⟨c, u, e, rfl⟩ := hv
    refine ⟨?_, rfl⟩
    have : x.cps.getD i 0 = c := by rw [Array.getD_eq_getD_getElem?, e]; rfl
    rw [this]
    exact strKind_is P w _ u
variable {α : Type} [DecidableEq α] {knd : PySem.KeyKind P w α}
theorem src_list {s : Shared} {l : Addr} {items : Array Value} {ks : List α} {val : Nat → α} (hl : s.heap.IsList l items) (hp : Paired (fun k v => knd.is k v = true ∧ v.scannable = true) ks items.toList) (hv : ∀ i x, ks[i]? = some x → val i = x) :
    Src knd s (.ref l) "list" val items.size where
  ty := fun s1 kp => by
    obtain ⟨o, ho, hc, _⟩ := hl
    exact ⟨o, kp l o ho, hc⟩
  s1 := F.sub_list_set
  s2 := F.sub_list_frozenset
  nd := by decide
  it := fun A E s1 R hh kp hz h => by
    have hl1 : s1.heap.IsList l items := by
      obtain ⟨o, ho, r⟩ := hl
      exact ⟨o, kp l o ho, r⟩
    have hlt : l < s.heap.objs.size := by
      obtain ⟨o, ho, r⟩ := hl
      exact Heap.lt_size ho
    refine wpAny_pyIter_list hl1 ?_
    have hne : l ≠ s1.heap.objs.size := Nat.ne_of_lt (Nat.lt_of_lt_of_le hlt hz)
    refine h _ [s1.heap.objs.size, l] [s1.heap.objs.size] (fun a b => b = a) _ _ (fun b hb => ?_) (fun b hb => List.mem_singleton.mp hb) (fun _ _ e => e) (fun A' hA => (Walks.list hA _ l hne items).toS) (fun i v hiv => ?_) ⟨⟨_, Heap.get?_push_size _ rfl, rfl, rfl⟩, hl1.push _⟩
    · rcases List.mem_cons.mp hb with e | e
      · exact .inr e
      · exact .inl (by rw [List.mem_singleton.mp e]; exact hlt)
    · have get : ∀ {ks : List α} {vs : List Value} (i : Nat) (v : Value), Paired (fun k v => knd.is k v = true ∧ v.scannable = true) ks vs → vs[i]? = some v → ∃ k, ks[i]? = some k ∧ knd.is k v = true ∧ v.scannable = true := by
        intro ks vs i v hp
        induction hp generalizing i with
        | nil => intro e; simp at e
        | cons a r ih =>
          intro e
          cases i with
          | zero => simp at e; subst e; exact ⟨_, rfl, a⟩
          | succ i => simpa using ih i (by simpa using e)
      obtain ⟨k, e1, e2⟩ := get i v hp (by rw [Array.getElem?_toList]; exact hiv)
      rw [hv i k e1]
      exact e2
theorem src_tuple {s : Shared} {l : Addr} {items : Array Value} {ks : List α} {val : Nat → α} (hl : s.heap.IsTuple l items) (hp : Paired (fun k v => knd.is k v = true ∧ v.scannable = true) ks items.toList) (hv : ∀ i x, ks[i]? = some x → val i = x) :
    Src knd s (.ref l) "tuple" val items.size where
  ty := fun s1 kp => by
    obtain ⟨o, ho, hc, _⟩ := hl
    exact ⟨o, kp l o ho, hc⟩
  s1 := sub_tuple_set
  s2 := sub_tuple_frozenset
  nd := by decide
  it := fun A E s1 R hh kp hz h => by
    have hl1 : s1.heap.IsTuple l items := by
      obtain ⟨o, ho, r⟩ := hl
      exact ⟨o, kp l o ho, r⟩
    have hlt : l < s.heap.objs.size := by
      obtain ⟨o, ho, r⟩ := hl
      exact Heap.lt_size ho
    refine wpAny_pyIter_tuple hl1 ?_
    have hne : l ≠ s1.heap.objs.size := Nat.ne_of_lt (Nat.lt_of_lt_of_le hlt hz)
    refine h _ [s1.heap.objs.size, l] [s1.heap.objs.size] (fun a b => b = a) _ _ (fun b hb => ?_) (fun b hb => List.mem_singleton.mp hb) (fun _ _ e => e) (fun A' hA => (Walks.tuple hA _ l hne items).toS) (fun i v hiv => ?_) ⟨⟨_, Heap.get?_push_size _ rfl, rfl, rfl⟩, hl1.at fun o e => Heap.get?_push_of_some _ e⟩
    · rcases List.mem_cons.mp hb with e | e
      · exact .inr e
      · exact .inl (by rw [List.mem_singleton.mp e]; exact hlt)
    · have get : ∀ {ks : List α} {vs : List Value} (i : Nat) (v : Value), Paired (fun k v => knd.is k v = true ∧ v.scannable = true) ks vs → vs[i]? = some v → ∃ k, ks[i]? = some k ∧ knd.is k v = true ∧ v.scannable = true := by
        intro ks vs i v hp
        induction hp generalizing i with
        | nil => intro e; simp at e
        | cons a r ih =>
          intro e
          cases i with
          | zero => simp at e; subst e; exact ⟨_, rfl, a⟩
          | succ i => simpa using ih i (by simpa using e)
      obtain ⟨k, e1, e2⟩ := get i v hp (by rw [Array.getElem?_toList]; exact hiv)
      rw [hv i k e1]
      exact e2
theorem src_str0 {s : Shared} {x : Str} {t : Tok} {val : Nat → α} (hx : x.cps.size = 0) : Src knd s (.str x t) "str" val 0 where
  ty := fun s1 _ => typeIs_str s1 x t
  s1 := sub_str_set
  s2 := sub_str_frozenset
  nd := by decide
  it := fun A E s1 R hh kp hz h => by
    refine wpAny_pyIter_str fun o St W hst => ?_
    refine h o [s1.heap.objs.size] [s1.heap.objs.size] (fun a b => b = a) (SignAt x) (fun i s => St i s.heap) (fun b hb => .inr (List.mem_singleton.mp hb)) (fun b hb => List.mem_singleton.mp hb) (fun _ _ e => e) (fun A' hA => by have := (W A' hA).toS; rw [hx] at this; exact this) (fun i v hv => ?_) hst
    obtain ⟨c, u, e, rfl⟩ := hv
    rw [Array.getElem?_eq_none (by omega)] at e
    cases e
end
end TI
set_option Elab.async false
set_option linter.all false
set_option maxRecDepth 100000
set_option maxHeartbeats 4000000
namespace TI
open PySem PySem.Spec L2
section
variable {W : Wd} {X : Cx} {G H : Hp}
theorem laid_any {pins : List (Addr × Obj)} {σ : L2.St} {s s' : Shared} {p : Addr} {vs : List V} {out : Array Value} {c : Nat} (I : Inv X pins σ H s) (k : ∀ b o, s.heap.get? b = some o → s'.heap.get? b = some o) (hp : s.heap.objs.size ≤ p)
    (g : s'.gens = s.gens) (o : s'.os = s.os) (hz : vs.length ≤ sizeLine) (hv : Vals vs out.toList) (at_ : s'.heap.get? p = some (PyProof.Rows.seqObj "list" out c)) : H p = none ∧ Inv X pins σ (upd H p (.lst vs)) s' := by
  have hn : H p = none := I.hok.fresh hp
  refine ⟨hn, ?_⟩
  have J : Inv X pins σ (upd H p (.lst vs)) { s with heap := s'.heap, gens := s'.gens, drawn := s'.drawn, toks := s'.toks } :=
    I.call (ch := []) (Un.laid k hp hn) (I.hok.laid k hp ⟨hz, out.toList, c, hv, at_⟩) (by rw [g]; exact I.bare) (fun _ z => nomatch z)
  have e : s' = { s with heap := s'.heap, gens := s'.gens, drawn := s'.drawn, toks := s'.toks } := by
    cases s'
    cases s
    cases o
    rfl
  rw [e]
  exact J
def CallS (X : Cx) (id : String) (r : List V → Hp → VK → Prop) : Prop := ∀ (pins : List (Addr × Obj)) (s : Shared) (σ : L2.St) (H : Hp) (xs : List V) (us : List Value) (Q : VK), Inv X pins σ H s → Vals xs us → r xs H Q →
  wpAny (model X.prog X.w) X.A (call (.type "set") us) (fun v s1 => wpAny (model X.prog X.w) X.A (call (.builtin id) [v]) (EP X pins σ Q) X.xe s1) X.xe s
theorem pe_callS2 {id : String} {x : Str} {r : List V → Hp → VK → Prop} {t : TA} {a : PySem.Expr} {p p2 q pos : Pos} (hc : CallS X id r) (hg : Gl X x) (hm : X.mg x = none) (hv : bootBuiltins x = some (.builtin id)) (hg2 : Gl X "set") (hm2 : X.mg "set" = none) (ha : PA X [a] t) (hn : x ≠ "__name__") (hdb : (x == ("__debug__" : Str)) = false)
    (na : starEach [a] X.env = (false, eval a X.env) :: starEach [] X.env) : PE X (.Call (.Name x p) [.Call (.Name "set" p2) [a] [] q] [] pos) (tCB r t) := by
  refine ⟨fun pins s σ H Q I h => ?_⟩
  refine wpAny_Call_Name_kw (ld_blt I hg hm hv ?_ hn hdb)
  refine PyProof.Rows.callWith_builtin1 (PyProof.Rows.args_cons ?_ rfl) rfl rfl
  refine wpAny_Call_Name_kw (ld_blt I hg2 hm2 PyProof.Rows.boot_set ?_ (by decide) (by decide))
  refine PyProof.Rows.callWith_type1 (thn (ha.run q pins s σ H _ I h) fun us s1 ⟨vs, H1, I1, r1, q1⟩ => ?_) na rfl
  exact wpAny_mono (hc pins s1 σ H1 vs us Q I1 r1 q1) (fun v s2 k => PyProof.Rows.args_nil k) fun _ _ k => k
theorem str_paired {P : Program} {w : World} : ∀ {xs : List Str} {us : List Value}, PyProof.Rows.StrsAre us xs → Paired (fun k v => (strKind P w).is k v = true ∧ v.scannable = true) xs us
  | _, _, .nil => .nil
  | _, _, .cons y t r => .cons ⟨strKind_is P w y t, rfl⟩ (str_paired r)
theorem int_paired {P : Program} {w : World} : ∀ {xs : List Int} {us : List Value}, PyProof.Rows.IntsAre us xs → Paired (fun k v => (intKind P w).is k v = true ∧ v.scannable = true) xs us
  | _, _, .nil => .nil
  | _, _, .cons y t r => .cons ⟨intKind_is P w y t, rfl⟩ (int_paired r)
theorem uniq_map {α β : Type} [DecidableEq α] [DecidableEq β] {f : α → β} (hf : ∀ a b, f a = f b → a = b) (l : List α) : uniqK (l.map f) = (uniqK l).map f := by
  have step : ∀ (l acc : List α), (l.map f).foldl addK (acc.map f) = (l.foldl addK acc).map f := by
    intro l
    induction l with
    | nil => intro acc; rfl
    | cons a l ih =>
      intro acc
      have e : addK (acc.map f) (f a) = (addK acc a).map f := by
        unfold addK
        by_cases h : a ∈ acc
        · rw [if_pos h, if_pos (List.mem_map_of_mem h)]
        · rw [if_neg h, if_neg (fun z => by
            obtain ⟨b, hb, e⟩ := List.mem_map.mp z
            exact h (hf _ _ e ▸ hb))]
          simp
      simp only [List.map_cons, List.foldl_cons]
      rw [e, ih]
  exact step l []
theorem uniq_len {α : Type} [DecidableEq α] (l : List α) : (uniqK l).length ≤ l.length := by
  have step : ∀ (l acc : List α), (l.foldl addK acc).length ≤ acc.length + l.length := by
    intro l
    induction l with
    | nil => intro acc; simp
    | cons a l ih =>
      intro acc
      have := ih (addK acc a)
      have e : (addK acc a).length ≤ acc.length + 1 := by
        unfold addK
        split
        · omega
        · simp
      simp only [List.foldl_cons, List.length_cons]
      omega
  have := step l []
  simpa [uniqK] using this
theorem val_of {α : Type} (d : α) (l : List α) : ∀ i x, l[i]? = some x → (fun i => l.getD i d) i = x := fun i x e => by
  show l.getD i d = x
  rw [List.getD_eq_getElem?_getD, e]
  rfl
theorem src_ints (hK : W.K = X.K) {pins : List (Addr × Obj)} {σ : L2.St} {s : Shared} (I : Inv X pins σ H s) (sub : Sub G H) {x : D} {v : V} {u : Value} {ns : List Int} (t : Top W H G x v) (r : RelV v u) (e : itemsD x = some (ns.map .int)) :
    ∃ (T : String) (val : Nat → Int), Src (intKind X.prog X.w) s u T val ns.length ∧ metK val ns.length = uniqK ns := by
  have hv : metK (fun i => ns.getD i 0) ns.length = uniqK ns := metK_all (val_of 0 ns)
  unfold itemsD at e
  split at e
  · cases e
    obtain ⟨a, vs, rfl, hH, hl⟩ := t.lst
    cases hl.intL
    cases r
    obtain ⟨its, rv, pl, hz⟩ := I.list (SqL.of hH)
    have hn : its.toArray.size = ns.length := by rw [List.size_toArray, ← rv.length, List.length_map]
    have z := src_list (knd := intKind X.prog X.w) (s := s) pl.isList (int_paired rv.ints) (val_of 0 ns)
    rw [hn] at z
    exact ⟨_, _, z, hv⟩
  · cases e
    obtain ⟨a, vs, rfl, hH, _, hl⟩ := t.tup
    cases hl.intL
    cases r
    obtain ⟨its, rv, pl, hz⟩ := I.tuple (by rw [← hK]; exact sub.sqT hH)
    have hn : its.toArray.size = ns.length := by rw [List.size_toArray, ← rv.length, List.length_map]
    have z := src_tuple (knd := intKind X.prog X.w) (s := s) pl (int_paired rv.ints) (val_of 0 ns)
    rw [hn] at z
    exact ⟨_, _, z, hv⟩
  · rename_i l
    injection e with e
    cases l with
    | cons c l => cases ns with
      | nil => cases e
      | cons n ns => simp at e
    | nil =>
      cases ns with
      | cons n ns => cases e
      | nil =>
        cases t.str
        obtain ⟨tk, rfl⟩ := r
        exact ⟨_, fun i => 0, src_str0 rfl, rfl⟩
  · cases e
theorem src_strs (hK : W.K = X.K) {pins : List (Addr × Obj)} {σ : L2.St} {s : Shared} (I : Inv X pins σ H s) (sub : Sub G H) {x : D} {v : V} {u : Value} {ys : List (List Char)} (t : Top W H G x v) (r : RelV v u) (e : itemsD x = some (ys.map .str)) :
    ∃ (T : String) (val : Nat → Str), Src (strKind X.prog X.w) s u T val ys.length ∧ metK val ys.length = uniqK (ys.map encS) := by
  have hv : metK (fun i => (ys.map encS).getD i (encS [])) ys.length = uniqK (ys.map encS) := by
    have := metK_all (val_of (encS []) (ys.map encS))
    rw [List.length_map] at this
    exact this
  unfold itemsD at e
  split at e
  · cases e
    obtain ⟨a, vs, rfl, hH, hl⟩ := t.lst
    cases hl.strL
    cases r
    obtain ⟨its, rv, pl, hz⟩ := I.list (SqL.of hH)
    have hn : its.toArray.size = ys.length := by rw [List.size_toArray, ← rv.length, List.length_map, List.length_map]
    have z := src_list (knd := strKind X.prog X.w) (s := s) pl.isList (str_paired rv.strs) (val_of (encS []) (ys.map encS))
    rw [hn] at z
    exact ⟨_, _, z, hv⟩
  · cases e
    obtain ⟨a, vs, rfl, hH, _, hl⟩ := t.tup
    cases hl.strL
    cases r
    obtain ⟨its, rv, pl, hz⟩ := I.tuple (by rw [← hK]; exact sub.sqT hH)
    have hn : its.toArray.size = ys.length := by rw [List.size_toArray, ← rv.length, List.length_map, List.length_map]
    have z := src_tuple (knd := strKind X.prog X.w) (s := s) pl (str_paired rv.strs) (val_of (encS []) (ys.map encS))
    rw [hn] at z
    exact ⟨_, _, z, hv⟩
  · rename_i l
    injection e with e
    have e : l.map (fun c => [c]) = ys := by
      have : (l.map (fun c => [c])).map D.str = ys.map D.str := by rw [List.map_map]; exact e
      exact (List.map_inj_right (fun a b h => by cases h; rfl)).mp this
    subst e
    cases t.str
    obtain ⟨tk, rfl⟩ := r
    have hs : (encS l).cps.size = (l.map fun c => [c]).length := by simp [encS]
    have z := src_str (P := X.prog) (w := X.w) (s := s) (x := encS l) (t := tk)
    rw [hs] at z
    refine ⟨_, _, z, ?_⟩
    rw [← hv]
    have : ∀ n, n ≤ l.length → metK (fun i => (⟨#[(encS l).cps.getD i 0]⟩ : Str)) n = metK (fun i => ((l.map fun c => [c]).map encS).getD i (encS [])) n := by
      intro n
      induction n with
      | zero => intro _; rfl
      | succ n ih =>
        intro hn
        show addK _ _ = addK _ _
        rw [ih (by omega)]
        congr 1
        have h1 : ((l.map fun c => [c]).map encS).getD n (encS []) = encS [l[n]] := by
          rw [List.getD_eq_getElem?_getD, List.getElem?_map, List.getElem?_map, List.getElem?_eq_getElem (by omega)]
          rfl
        have h2 : (encS l).cps.getD n 0 = l[n].toNat := by
          have h3 : (encS l).cps[n]? = some l[n].toNat := by
            simp [encS, List.getElem?_eq_getElem (show n < l.length from by omega)]
          rw [Array.getD_eq_getD_getElem?, h3]
          rfl
        show (⟨#[(encS l).cps.getD n 0]⟩ : Str) = ((l.map fun c => [c]).map encS).getD n (encS [])
        rw [h1, h2]
        rfl
    exact this _ (by simp)
  · cases e
theorem lim4 {n : Nat} (h : n ≤ 4000) : n ≤ sizeLine := Nat.le_trans h (by decide)
theorem cs_sortU (hK : W.K = X.K) (hc : X.calm = true) : CallS X "sorted" (rCall W true (bfD .sortedset)) := by
  intro pins s σ H xs us Q I rs h
  obtain ⟨G, ds, d, sub, t, e, q⟩ := h
  match ds, t, e with
  | [], _, e => cases (show (none : Option D) = some d from e)
  | x :: y :: r, _, e => cases (show (none : Option D) = some d from by cases x <;> exact e)
  | [x], t, e =>
    obtain ⟨v, rfl, t1⟩ := TopL.one t
    obtain ⟨l, e1, e2⟩ := Option.bind_eq_some_iff.mp (show (itemsD x).bind sortU = some d from e)
    obtain ⟨u, rfl, ru⟩ : ∃ u, us = [u] ∧ RelV v u := by
      cases rs with
      | cons r rs => cases rs; exact ⟨_, rfl, r⟩
    unfold sortU at e2
    split at e2
    · rename_i hz
      cases e3 : intL l with
      | some ns =>
        rw [e3] at e2
        cases e2
        cases intL_eq e3
        rw [List.length_map] at hz
        obtain ⟨T, val, sr, hm⟩ := src_ints hK I sub t1 ru e1
        refine call_set (I.ok.hd hc) sr (by unfold scanBound; omega) fun h' tk g kp => ?_
        rw [hm] at g
        have I2 : Inv X pins σ H { s with heap := h', toks := tk } := I.kept kp
        refine gset_sorted (I.ok.hd hc) g (List.Pairwise (· ≤ ·)) (fun s2 p vs ls Pf A2 => sort_ints s2 p vs ls Pf A2) fun s' p out c ls k g1 o1 z1 at1 pv pp so => ?_
        have hl : (ls.map V.int).length ≤ sizeLine := by
          rw [List.length_map, pp.length_eq]
          exact lim4 (Nat.le_trans (uniq_len ns) hz)
        obtain ⟨hn, J⟩ := laid_any I2 k z1 g1 o1 hl (vals_of_ints (is_ints pv)) at1
        refine ⟨.ref p, _, J, rfl, ?_⟩
        rw [isortI_eq pp so]
        exact q.new_lst (DenL.ofMap (fun i => den_int i) _) p hn
      | none =>
        rw [e3] at e2
        cases e4 : strL l with
        | none => rw [e4] at e2; cases e2
        | some ys =>
          rw [e4] at e2
          cases e2
          cases strL_eq e4
          rw [List.length_map] at hz
          obtain ⟨T, val, sr, hm⟩ := src_strs hK I sub t1 ru e1
          refine call_set (I.ok.hd hc) sr (by unfold scanBound; omega) fun h' tk g kp => ?_
          rw [hm, uniq_map (fun a b => encS_inj)] at g
          have I2 : Inv X pins σ H { s with heap := h', toks := tk } := I.kept kp
          refine gset_sorted (I.ok.hd hc) g (fun l => PyProof.Rows.sortedS l = true) (fun s2 p vs ls Pf A2 => sort_strs s2 p vs ls Pf A2) fun s' p out c ls k g1 o1 z1 at1 pv pp so => ?_
          have hl : (ls.map V.str).length ≤ sizeLine := by
            rw [List.length_map, pp.length_eq, List.length_map]
            exact lim4 (Nat.le_trans (uniq_len ys) hz)
          obtain ⟨hn, J⟩ := laid_any I2 k z1 g1 o1 hl (vals_of_strs (is_strs pv)) at1
          refine ⟨.ref p, _, J, rfl, ?_⟩
          obtain ⟨ws, rfl, hw⟩ := perm_enc pp
          rw [isort_only ltC_tot ltC_tr ltC_anti hw (sortedS_pair so)]
          rw [List.map_map]
          exact q.new_lst (DenL.ofMap (f := D.str) (fun i => den_str i) _) p hn
    · cases e2
theorem cs_lenU (hK : W.K = X.K) (hc : X.calm = true) : CallS X "len" (rCall W false (bfD .lenset)) := by
  intro pins s σ H xs us Q I rs h
  obtain ⟨G, ds, d, sub, t, e, q⟩ := h
  match ds, t, e with
  | [], _, e => cases (show (none : Option D) = some d from e)
  | x :: y :: r, _, e => cases (show (none : Option D) = some d from by cases x <;> exact e)
  | [x], t, e =>
    obtain ⟨v, rfl, t1⟩ := TopL.one t
    obtain ⟨l, e1, e2⟩ := Option.bind_eq_some_iff.mp (show (itemsD x).bind lenU = some d from e)
    obtain ⟨u, rfl, ru⟩ : ∃ u, us = [u] ∧ RelV v u := by
      cases rs with
      | cons r rs => cases rs; exact ⟨_, rfl, r⟩
    unfold lenU at e2
    split at e2
    · rename_i hz
      cases e3 : intL l with
      | some ns =>
        rw [e3] at e2
        cases e2
        cases intL_eq e3
        rw [List.length_map] at hz
        obtain ⟨T, val, sr, hm⟩ := src_ints hK I sub t1 ru e1
        refine call_set (I.ok.hd hc) sr (by unfold scanBound; omega) fun h' tk g kp => ?_
        rw [hm] at g
        have I2 : Inv X pins σ H { s with heap := h', toks := tk } := I.kept kp
        exact gset_len g ⟨.int _, H, I2.tok _, ⟨_, rfl⟩, q.of rfl (den_int _)⟩
      | none =>
        rw [e3] at e2
        cases e4 : strL l with
        | none => rw [e4] at e2; cases e2
        | some ys =>
          rw [e4] at e2
          cases e2
          cases strL_eq e4
          rw [List.length_map] at hz
          obtain ⟨T, val, sr, hm⟩ := src_strs hK I sub t1 ru e1
          refine call_set (I.ok.hd hc) sr (by unfold scanBound; omega) fun h' tk g kp => ?_
          rw [hm, uniq_map (fun a b => encS_inj)] at g
          have I2 : Inv X pins σ H { s with heap := h', toks := tk } := I.kept kp
          exact gset_len g ⟨.int _, H, I2.tok _, ⟨_, rfl⟩, q.of rfl (by rw [List.length_map]; exact den_int _)⟩
    · cases e2
end
end TI
set_option Elab.async false
set_option linter.all false
set_option maxRecDepth 100000
set_option maxHeartbeats 1000000
namespace TI
open PySem PySem.Spec L2
def noStar : PySem.Expr → Bool
  | .Starred _ _ => false
  | _ => true
theorem star_cons {e : PySem.Expr} {es : List PySem.Expr} {env : PySem.Env} (h : noStar e = true) : starEach (e :: es) env = (false, eval e env) :: starEach es env := by
  cases e <;> first | rfl | cases h
theorem star_any {es : List PySem.Expr} {env : PySem.Env} {pos : Pos} (h : es.all noStar = true) : (backTo pos (starEach es env)).any (·.1) = false := by
  induction es with
  | nil => rfl
  | cons e es ih =>
    obtain ⟨h1, h2⟩ := Bool.and_eq_true_iff.mp (show (noStar e && es.all noStar) = true from h)
    rw [star_cons h1]
    show (false || (backTo pos (starEach es env)).any (·.1)) = false
    rw [ih h2]; rfl
theorem star_all {es : List PySem.Expr} {env : PySem.Env} {pos : Pos} (h : es.all noStar = true) : (backTo pos (starEach es env)).all (fun x => !x.1) = true := by
  induction es with
  | nil => rfl
  | cons e es ih =>
    obtain ⟨h1, h2⟩ := Bool.and_eq_true_iff.mp (show (noStar e && es.all noStar) = true from h)
    rw [star_cons h1]
    show (true && (backTo pos (starEach es env)).all (fun x => !x.1)) = true
    rw [ih h2]; rfl
theorem few_ok {e : PySem.Expr} {es : List PySem.Expr} {env : PySem.Env} {pos : Pos} (h : (e :: es).all noStar = true) (hl : decide (es.length < 29) = true) :
    ((backTo pos (starEach (e :: es) env)).all (fun x => !x.1) && (backToKw pos (keywordEach [] env)).all (fun x => x.1.isSome)
      && decide ((e :: es).length + ([] : List Keyword).length + (if ([] : List Keyword).isEmpty then 0 else 1) < 30)) = true := by
  have hl := of_decide_eq_true hl
  rw [star_all h]
  show (true && true && decide (es.length + 1 + 0 + 0 < 30)) = true
  rw [decide_eq_true (by omega)]; rfl
def attrOk : PySem.Expr → Bool
  | .Call (.Name _ _) [] [] _ => false
  | _ => true
theorem attr_ok {o : PySem.Expr} {m : Str} {env : PySem.Env} (h : attrOk o = true) : attributeBase o m env (eval o env) = eval o env := by
  unfold attributeBase
  split
  · cases h
  · rfl
def notComp : PySem.Expr → Bool
  | .ListComp _ _ _ _ => false
  | .SetComp _ _ _ _ => false
  | .DictComp _ _ _ _ _ => false
  | _ => true
theorem swaps_no {v : PySem.Expr} {t : Option PySem.Expr} {l : Nat} {env : PySem.Env} (h : notComp v = true) : swapsWith v t l env = pure false := by
  cases v <;> first | rfl | cases h
theorem sole_no {v tg : PySem.Expr} {l : Nat} {env : PySem.Env} (h : notComp v = true) : swapsWithSole [tg] v l env = pure false := swaps_no h
def notSet : PySem.Expr → Bool
  | .Set _ _ _ => false
  | _ => true
theorem fold_no {e : PySem.Expr} {env : PySem.Env} (h : notSet e = true) (x : Value) : foldedSetIterable e env x = pure x := by
  cases e <;> first | rfl | cases h
def notSlice : PySem.Expr → Bool
  | .Slice _ _ _ _ => false
  | _ => true
theorem plain_ix {e : PySem.Expr} (h : notSlice e = true) : PlainIx e := by
  intro o i
  cases e <;> first | rfl | cases h
def notSet2 (o : CmpO) (e : PySem.Expr) : Bool := match o with
  | .in_ => notSet e
  | .notin => notSet e
  | _ => true
theorem behind_no {o : CmpO} {e : PySem.Expr} (h : notSet2 o e = true) : behindInMarks (cmpOf o) e = false := by
  cases o <;> first
    | exact nomark e
    | (cases e <;> first | rfl | cases h)
def lateOk (tg v : PySem.Expr) : Bool := match tg with
  | .Tuple ts _ _ => match v with
    | .Tuple vs _ _ => !(ts.length == 2 || ts.length == 3) || vs.all (foldedForSure 8)
    | _ => true
  | .Name _ _ => true
  | _ => false
theorem late_ok {tg v : PySem.Expr} {env : PySem.Env} (h : lateOk tg v = true) : swappedStores [tg] v env = pure none := by
  cases tg with
  | Name x p => cases v <;> rfl
  | Tuple ts k p =>
    cases v with
    | Tuple vs k2 p2 =>
      unfold swappedStores
      dsimp only
      rcases Bool.or_eq_true_iff.mp (show (!(ts.length == 2 || ts.length == 3) || vs.all (foldedForSure 8)) = true from h) with h | h
      · rw [h]
        try rfl
      · by_cases h1 : (!(ts.length == 2 || ts.length == 3) || vs.length != ts.length || env.blockKind != .function) = true
        · rw [if_pos h1]
        · rw [if_neg h1]
          split
          · rfl
          · split
            · rfl
            · first | rfl | (rw [if_pos h] <;> rfl)
    | _ => rfl
  | _ => cases h
def noStarT : PySem.Expr → Bool := noStar
theorem asg_one {tg : PySem.Expr} {env : PySem.Env} (h : noStar tg = true) : (assignEach [tg] env).map (·.2) = [assign tg env] := by
  cases tg <;> first | rfl | cases h
theorem asg_cons {tg : PySem.Expr} {ts : List PySem.Expr} {env : PySem.Env} (h : noStar tg = true) : (assignEach (tg :: ts) env).map (·.2) = assign tg env :: (assignEach ts env).map (·.2) := by
  cases tg <;> first | rfl | cases h
theorem asg_len2 {ts : List PySem.Expr} {env : PySem.Env} : (assignEach ts env).length = ts.length := by
  induction ts with
  | nil => rfl
  | cons t ts ih => cases t <;> simp [assignEach, ih]
theorem asg_idx {ts : List PySem.Expr} {env : PySem.Env} (h : ts.all noStar = true) : (assignEach ts env).findIdx? (·.1) = none := by
  induction ts with
  | nil => rfl
  | cons t ts ih =>
    obtain ⟨h1, h2⟩ := Bool.and_eq_true_iff.mp (show (noStar t && ts.all noStar) = true from h)
    have := ih h2
    cases t <;> first | (simp [assignEach, List.findIdx?_cons, this]; done) | cases h1
def sw2 (sc : PySem.Scope) (x y : Str) (px py : Pos) (a b : PySem.Expr) : Bool :=
  (match sc.kind with | .function => true | _ => false) && decide (sc.names.lookup x = some .local) && decide (sc.names.lookup y = some .local) && (py.line == px.line) && !(decide (x = y)) && noStar a && noStar b &&
    !([a, b].all (foldedForSure 8)) && !([a, b].all (constantsAlone 8))
theorem sw2_ok {x y : Str} {px py pt pt2 : Pos} {kt k2 : Nat} {a b : PySem.Expr} {env : PySem.Env} (h : sw2 env.scope x y px py a b = true) :
    swappedStores [.Tuple [.Name x px, .Name y py] kt pt] (.Tuple [a, b] k2 pt2) env = pure (some [x, y]) := by
  unfold sw2 at h
  simp only [Bool.and_eq_true, decide_eq_true_eq, Bool.not_eq_true', decide_eq_false_iff_not] at h
  obtain ⟨⟨⟨⟨⟨⟨⟨⟨h1, h2⟩, h3⟩, h4⟩, h5⟩, h6⟩, h7⟩, h8⟩, h9⟩ := h
  have hk : env.scope.kind = .function := by
    split at h1
    · assumption
    · cases h1
  have kx : env.kindOf x = some .local := h2
  have ky : env.kindOf y = some .local := h3
  have hb : env.blockKind = .function := by unfold PySem.Env.blockKind; rw [hk]; rfl
  have e4 : py.line = px.line := by simpa using h4
  have hxy : ¬ y = x := fun z => h5 z.symm
  have hyx : (y == x) = false := beq_eq_false_iff_ne.mpr hxy
  unfold swappedStores
  simp only [hb, h8, h9, kx, ky, e4, PySem.Expr.pos, List.filterMap, List.head?, List.any]
  simp [List.eraseDups, List.eraseDupsBy, List.eraseDupsBy.loop, hxy, h5, hyx]
  intro h
  exfalso
  rcases h with h | h
  · cases a <;> first | (cases h6; done) | (cases h; done)
  · cases b <;> first | (cases h7; done) | (cases h; done)
structure Tab where
  fresh : Nat → Bool
  fname : Nat → Str
  gname : Nat → Str
  cname : Nat → Str
  lev : Nat → Nat
  tys : List Ty
  blt : List Str
def tyN (T : Tab) : Ty → Str
  | .int => "int" | .bool => "bool" | .str => "str" | .tuple => "tuple" | .list => "list" | .dict => "dict" | .cls c => T.cname c
structure Mok (T : Tab) (Φ : Fns) (W : Wd) (P : Program) (w : World) (mg : Str → Option Value) (base : Heap) (k : Nat) : Prop where
  fresh : ∀ f, T.fresh f = Φ.fresh f
  blt : ∀ x, x ∈ T.blt → mg x = none
  fns : ∀ f, T.lev f < k → ∃ fa fd ps, mg (T.fname f) = some (.ref fa) ∧ PySem.W.keepIn W.K (.ref fa) = true ∧ FnG P w W.K mg base (L2.CX P w) (T.lev f + 1) fa fd ps (spF W Φ f) ∧ Binds W.K fd ps []
  globs : ∀ g d, Φ.glob g = some d → isBox d = false ∧ ∃ v u, mg (T.gname g) = some u ∧ RelV v u ∧ ∀ G, Den W G d v
  cls : ∀ c, c < Φ.ncls → ClsF W W.K c ∧ mg (T.cname c) = some (.ref (W.cls c))
  kit : ∀ t, t ∈ T.tys → KitF W Φ t
structure Cok (T : Tab) (Φ : Fns) (C : Cfg) (N : List Str) (sc so : PySem.Scope) (k : Nat) (X : Cx) : Prop where
  hK : C.W.K = X.K
  hN : X.N = N
  nd : X.N.Nodup
  hsc : X.env.scope = sc
  calm : X.calm = true
  room : Room k X.A
  guards : X.A.guards = some []
  tk : Takes X C.Z
  st : ∀ x, so.names.lookup x = some .local ∨ so.names.lookup x = some .cell → Loc X.env.scope x ∧ (X.fn x = true ∨ X.env.scope.names.lookup x = some .local)
  mod : Mok T Φ C.W X.prog X.w X.mg X.base k
theorem takes_no {X : Cx} : Takes X fun _ _ _ _ => False := fun u s' ⟨a, B, sI, pins, σ, H, cls, d, e, I, nb, up, sky, na, os, ag, w⟩ => w.elim
theorem Cok.units {T : Tab} {Φ : Fns} {C : Cfg} {N : List Str} {sc so : PySem.Scope} {k : Nat} {X : Cx} (c : Cok T Φ C N sc so k X) : X.A.units + 100 < cLine := by
  have := c.room.un; omega
theorem lookup_rel_keep {scope sc : PySem.Scope} {x : Str} {kd : NameKind} (h : scope.names.lookup x = some kd) (n : kd ≠ .free) : (L2.relS scope sc).names.lookup x = some kd := lookup_relS_keep n h
theorem Cok.blk {T : Tab} {Φ : Fns} {C : Cfg} {N : List Str} {sc so : PySem.Scope} {k : Nat} {X : Cx} (c : Cok T Φ C N sc so k X) (scope : PySem.Scope) (s : Shared) (H : Hp) (cc : Addr) (cl : List (Str × Addr)) (fp : List Addr) :
    Cok T Φ C.nox N (L2.relS scope sc) scope k (X.blk s H scope (compEnvC scope cl cc X.env) fp) where
  hK := c.hK
  hN := c.hN
  nd := c.nd
  hsc := by rw [← c.hsc]; rfl
  calm := c.calm
  room := c.room
  guards := c.guards
  tk := takes_no
  st := fun x h => by
    have e1 : (compEnvC scope cl cc X.env).scope = L2.relS scope X.env.scope := rfl
    rcases h with h | h
    · have := lookup_rel_keep (sc := X.env.scope) h (by decide)
      exact ⟨.inl this, .inr this⟩
    · have := lookup_rel_keep (sc := X.env.scope) h (by decide)
      exact ⟨.inr this, .inl (by show (scope.names.lookup x == some .cell) = true; rw [h]; rfl)⟩
  mod := c.mod
theorem gd_start {W : Wd} {H G : Hp} {vs : List V} {as : List Slot} (g : Gd W noPin (vs.map some) H G as) (n : Nat) (π : Nat → Option Addr) (hπ : ∀ i a, π i = some a → vs[i]? = some (.ref a)) :
    Gd W π (vs.map some ++ List.replicate n none) H G (as ++ List.replicate n .un) := by
  have hl : (vs.map some).length = as.length := g.len
  have left : ∀ {j : Nat} {s : Slot}, (as ++ List.replicate n Slot.un)[j]? = some s → s ≠ .un → as[j]? = some s ∧ (vs.map some ++ List.replicate n none)[j]? = (vs.map some)[j]? := by
    intro j s h ns
    rcases Nat.lt_or_ge j as.length with q | q
    · rw [List.getElem?_append_left q] at h
      rw [List.getElem?_append_left (by rw [hl]; exact q)]
      exact ⟨h, rfl⟩
    · rw [List.getElem?_append_right q] at h
      have := List.eq_of_mem_replicate (List.mem_of_getElem? h)
      exact absurd this ns
  exact {
    len := by simp only [List.length_append, List.length_replicate, hl]
    sub := g.sub
    val := fun i d h => by
      obtain ⟨h1, h2⟩ := left h (fun z => nomatch z)
      obtain ⟨v, h3, h4⟩ := g.val i d h1
      exact ⟨v, by rw [h2]; exact h3, h4⟩
    own := fun i d h => by
      obtain ⟨h1, h2⟩ := left h (fun z => nomatch z)
      obtain ⟨a, h3, h4⟩ := g.own i d h1
      exact ⟨a, by rw [h2]; exact h3, h4⟩
    dis := fun i j d d' a h h' q q' => by
      obtain ⟨h1, h2⟩ := left h (fun z => nomatch z)
      obtain ⟨h3, h4⟩ := left h' (fun z => nomatch z)
      rw [h2] at q; rw [h4] at q'
      exact g.dis i j d d' a h1 h3 q q'
    pin := fun i d a h h' => by
      obtain ⟨h1, h2⟩ := left h' (fun z => nomatch z)
      rw [h2]
      exact map_some (hπ i a h) }
theorem own_start {vs : List V} {as : List Slot} {n : Nat} {b : Addr} (hl : (vs.map some).length = as.length) : ownA (vs.map some ++ List.replicate n none) (as ++ List.replicate n .un) b ↔ ownA (vs.map some) as b := by
  constructor
  · rintro ⟨j, d, h1, h2⟩
    rcases Nat.lt_or_ge j as.length with q | q
    · rw [List.getElem?_append_left q] at h1
      rw [List.getElem?_append_left (by rw [hl]; exact q)] at h2
      exact ⟨j, d, h1, h2⟩
    · rw [List.getElem?_append_right q] at h1
      have := List.eq_of_mem_replicate (List.mem_of_getElem? h1)
      cases this
  · rintro ⟨j, d, h1, h2⟩
    have q := lt_of_get h1
    exact ⟨j, d, by rw [List.getElem?_append_left q]; exact h1, by rw [List.getElem?_append_left (by rw [hl]; exact q)]; exact h2⟩
def pinOf (vs : List V) (as : List Slot) (i : Nat) : Option Addr := match as[i]? with
  | some (.own _) => match vs[i]? with
    | some (.ref a) => some a
    | _ => none
  | _ => none
theorem outs_at : ∀ {as : List Slot} {e : Env} {outs : List D}, outsOf as e = some outs → ∀ (i : Nat) (d : D), (putS as outs)[i]? = some (.own d) → e[i]? = some (.own d)
  | [], e, outs, h, i, d, hi => by cases outs <;> simp [putS] at hi
  | .own x :: r, e, outs, h, i, d, hi => by
    cases e with
    | nil => cases h
    | cons s e => cases s with
      | own y =>
        simp only [outsOf, Option.map_eq_some_iff] at h
        obtain ⟨o, h1, rfl⟩ := h
        cases i with
        | zero => simpa [putS] using hi
        | succ i => simpa using outs_at h1 i d (by simpa [putS] using hi)
      | _ => cases h
  | .un :: r, e, outs, h, i, d, hi => by
    cases e with
    | nil => cases h
    | cons s e =>
      cases i with
      | zero => simp [putS] at hi
      | succ i => simpa using outs_at (show outsOf r e = some outs from h) i d (by simpa [putS] using hi)
  | .val x :: r, e, outs, h, i, d, hi => by
    cases e with
    | nil => cases h
    | cons s e =>
      cases i with
      | zero => simp [putS] at hi
      | succ i => simpa using outs_at (show outsOf r e = some outs from h) i d (by simpa [putS] using hi)
theorem gd_end {W : Wd} {H G H' G' : Hp} {vs : List V} {as : List Slot} {n : Nat} {σ' : L2.St} {e' : Env} {outs : List D} (g : Gd W noPin (vs.map some) H G as) (g' : Gd W (pinOf vs as) σ' H' G' e')
    (s : Stp (vs.map some ++ List.replicate n none) H G (as ++ List.replicate n .un) σ' H' G' e') (ho : outsOf as e' = some outs) :
    Gd W noPin (vs.map some) H' G' (putS as outs) ∧ Stp (vs.map some) H G as (vs.map some) H' G' (putS as outs) ∧ ∀ b, ownA (vs.map some) (putS as outs) b → ownA σ' e' b := by
  have hl : (vs.map some).length = as.length := g.len
  have at_ : ∀ {i : Nat} {d : D}, (putS as outs)[i]? = some (.own d) → ∃ (a : Addr) (d0 : D), as[i]? = some (.own d0) ∧ vs[i]? = some (.ref a) ∧ e'[i]? = some (.own d) ∧ σ'[i]? = some (some (.ref a)) := by
    intro i d h
    obtain ⟨d0, h1⟩ := putS_own as outs i d h
    obtain ⟨a, h2, _⟩ := g.own i d0 h1
    have h3 := of_map_some h2
    have h4 := outs_at ho i d h
    exact ⟨a, d0, h1, h3, h4, g'.pin i d a (by unfold pinOf; rw [h1]; dsimp only; rw [h3]) h4⟩
  have oo : ∀ b, ownA (vs.map some) (putS as outs) b → ownA σ' e' b ∧ ownA (vs.map some) as b := by
    rintro b ⟨i, d, h1, h2⟩
    obtain ⟨a, d0, h3, h4, h5, h6⟩ := at_ h1
    have := of_map_some h2
    rw [h4] at this; cases this
    exact ⟨⟨i, d, h5, h6⟩, ⟨i, d0, h3, h2⟩⟩
  refine ⟨{
    len := by rw [putS_len]; exact g.len
    sub := g'.sub
    val := fun i d h => by
      obtain ⟨v, h1, h2⟩ := g.val i d (putS_val as outs i d h)
      exact ⟨v, h1, Den.mono s.g d v h2⟩
    own := fun i d h => by
      obtain ⟨a, d0, h3, h4, h5, h6⟩ := at_ h
      obtain ⟨b, h7, h8⟩ := g'.own i d h5
      rw [h6] at h7; cases h7
      exact ⟨a, map_some h4, h8⟩
    dis := fun i j d d' a h h' q q' => by
      obtain ⟨a1, d1, h3, _⟩ := at_ h
      obtain ⟨a2, d2, h4, _⟩ := at_ h'
      exact g.dis i j d1 d2 a h3 h4 q q'
    pin := fun i d a h _ => nomatch h }, ⟨s.g, fun b h => ?_, fun b o h hn => s.k b o h fun z => hn ((own_start hl).mp z), s.p, fun b h => .inl (oo b h).2⟩, fun b h => (oo b h).1⟩
  rcases s.n b h with q | q | q
  · exact .inl q
  · exact .inr (.inl q)
  · exact .inr (.inr ((own_start hl).mp q))
theorem rv_end {W : Wd} {fr : Bool} {H H' G' : Hp} {vs : List V} {as : List Slot} {n : Nat} {σ' : L2.St} {e' : Env} {outs : List D} {d : D} {v : V} (hl : (vs.map some).length = as.length)
    (oo : ∀ b, ownA (vs.map some) (putS as outs) b → ownA σ' e' b) (r : RV W fr (vs.map some ++ List.replicate n none) H (as ++ List.replicate n .un) σ' H' G' e' d v) : RV W fr (vs.map some) H as (vs.map some) H' G' (putS as outs) d v := by
  unfold RV at r ⊢
  split
  · rename_i h
    rw [if_pos h] at r
    obtain ⟨a, rfl, h0, h1, h2, h3⟩ := r
    exact ⟨a, rfl, h0.imp_right (own_start hl).mp, h1, h2, fun z => h3 (oo a z)⟩
  · rename_i h
    rw [if_neg h] at r
    exact r
theorem fn_rule {Φ : Fns} {W : Wd} {f : Nat} {P : Program} {w : World} {mg : Str → Option Value} {base : Heap} {x qual : Str} {params : Arguments} {stmts : List Stmt} {scope : PySem.Scope} {fa : Addr} {fd : FuncData} {N ps : List Str} {k : Nat} {body : Ss}
    (F : FunD W.K x qual params stmts scope [] [] fa fd) (S : FnScope N ps scope) (hN : ps.length ≤ N.length)
    (hb : ∀ (C : Cfg) (X : Cx), C.W = W → (∀ i, ps.length ≤ i → C.π i = none) → X.prog = P → X.w = w → X.K = W.K → X.mg = mg → X.base = base → X.N = N → X.env.scope = scope → X.calm = true → Room k X.A → X.A.guards = some [] → Takes X C.Z → (∀ x, X.fn x = true) → PassesOwn (model X.prog X.w) X.A X.env X.xe →
      PSs X stmts (tS C (Φ.fresh f) (evSs Φ body)))
    (hr : ∀ as, Φ.fn f as ≠ .bad → as.length = ps.length ∧ runF Φ N.length body as = Φ.fn f as) : FnG P w W.K mg base (L2.CX P w) (k + 1) fa fd ps (spF W Φ f) := by
  refine fng_of F S (fun {vs H Q E} h => ?_) fun cdv A outer s H vs Q E hroom hgd h => ?_
  · obtain ⟨G, as, g, m⟩ := h
    have hl : (vs.map some).length = as.length := g.len
    have hn : Φ.fn f as ≠ .bad := fun z => by rw [z] at m; exact m
    rw [List.length_map] at hl
    rw [hl]; exact (hr as hn).1
  · obtain ⟨G, as, g, m⟩ := h
    have hn : Φ.fn f as ≠ .bad := fun z => by rw [z] at m; exact m
    obtain ⟨hlen, hrun⟩ := hr as hn
    have hl : (vs.map some).length = as.length := g.len
    have hl' : vs.length = as.length := by rw [← hl, List.length_map]
    refine ⟨_, hb ⟨W, fun cls d _ H' => E cls d H', pinOf vs as⟩ _ rfl (fun i hi => ?_) rfl rfl rfl rfl rfl rfl rfl rfl hroom hgd (takes_of rfl rfl rfl rfl) (fun _ => rfl) (passes_of rfl), G, as ++ List.replicate (N.length - as.length) .un, ?_, ?_⟩
    · show pinOf vs as i = none
      unfold pinOf
      rw [List.getElem?_eq_none (by omega)]
    · unfold L2.start
      rw [hl']
      exact gd_start g _ _ fun i a h => by
        have h : pinOf vs as i = some a := h
        unfold pinOf at h
        split at h
        · split at h
          · rename_i h2; cases h; exact h2
          · cases h
        · cases h
    · rw [← hrun] at m
      unfold runF at m
      unfold L2.start
      rw [hl']
      cases q : evSs Φ body (as ++ List.replicate (N.length - as.length) .un) with
      | nx e' =>
        rw [q] at m
        unfold finish at m
        dsimp only at m
        cases qo : outsOf as e' with
        | none => rw [qo] at m; exact m.elim
        | some o =>
          rw [qo] at m
          intro σ' H' G' g' s'
          obtain ⟨g2, s2, oo⟩ := gd_end g g' s' qo
          exact m .non H' G' g2 s2 (RV.den (Bool.and_false _) den_non)
      | rt d e' =>
        rw [q] at m
        unfold finish at m
        dsimp only at m
        cases qo : outsOf as e' with
        | none => rw [qo] at m; exact m.elim
        | some o =>
          rw [qo] at m
          intro v σ' H' G' g' s' r
          obtain ⟨g2, s2, oo⟩ := gd_end g g' s' qo
          exact m v H' G' g2 s2 (rv_end hl oo r)
      | exc x e' =>
        rw [q] at m
        unfold finish at m
        dsimp only at m
        cases qo : outsOf as e' with
        | none => rw [qo] at m; exact m.elim
        | some o =>
          rw [qo] at m
          intro cls dd σ' H' G' xv g' s'
          obtain ⟨g2, s2, oo⟩ := gd_end g g' s' qo
          exact m cls dd H' G' xv g2 s2
      | bad => rw [q] at m; exact m.elim
end TI
set_option Elab.async false
set_option linter.all false
set_option maxRecDepth 100000
set_option maxHeartbeats 2000000
namespace TI
open PySem PySem.Spec L2
inductive Sk where
  | l (a : Addr) | t (a : Addr) | s (z : Str)
def Sk.at (K : PySem.W.Frag) (k : Sk) (H : Hp) (xs : List V) : Prop := match k with
  | .l a => SqL K H a xs
  | .t a => SqT K H a xs
  | .s z => xs = z.cps.toList.map fun c => V.str ⟨#[c]⟩
def Sk.itr (k : Sk) (it : Addr) (i : Nat) (h : Heap) : Prop := match k with
  | .l a => h.IsListIter it a i
  | .t a => h.IsTupleIter it a i
  | .s z => ∃ t, h.IsStrIter it (strIterType z) z t i
def Sk.adr : Sk → List Addr
  | .l a => [a]
  | .t a => [a]
  | .s _ => []
def Sk.v : Sk → V
  | .l a => .ref a
  | .t a => .ref a
  | .s z => .str z
theorem Sk.inj {X : Cx} {pins : List (Addr × Obj)} {σ : L2.St} {H : Hp} {s : Shared} {k : Sk} {xs ys : List V} (I : Inv X pins σ H s) (h : k.at X.K H xs) (h' : k.at X.K H ys) : xs = ys := by
  cases k with
  | l a => exact I.list_inj h h'
  | t a => exact I.tuple_inj h h'
  | s z => exact h.trans h'.symm
theorem Sk.itr_obj {k : Sk} {it : Addr} {i : Nat} {h : Heap} (x : k.itr it i h) : ∃ o, h.get? it = some o ∧ ∀ v, o.data ≠ .cell v := by
  cases k with
  | l a => obtain ⟨o, e, _, d⟩ := x; exact ⟨o, e, fun v z => by rw [d] at z; cases z⟩
  | t a => obtain ⟨o, e, _, d⟩ := x; exact ⟨o, e, fun v z => by rw [d] at z; cases z⟩
  | s z => obtain ⟨t, o, e, _, d⟩ := x; exact ⟨o, e, fun v z => by rw [d] at z; cases z⟩
theorem Sk.itr_keep {k : Sk} {it : Addr} {i : Nat} {h h' : Heap} (x : k.itr it i h) (q : ∀ o, h.get? it = some o → h'.get? it = some o) : k.itr it i h' := by
  cases k with
  | l a => exact Heap.IsListIter.at x fun o e => q o e
  | t a => exact Heap.IsTupleIter.at x fun o e => q o e
  | s z => obtain ⟨t, o, e, r⟩ := x; exact ⟨t, o, q o e, r⟩
theorem vals_back : ∀ {xs : List V} {us : List Value} {j : Nat} {v : Value}, Vals xs us → us[j]? = some v → ∃ x, xs[j]? = some x ∧ RelV x v
  | _, _, j, v, .nil, h => by simp at h
  | _, _, 0, v, .cons r rr, h => by simp at h; subst h; exact ⟨_, rfl, r⟩
  | _, _, j + 1, v, .cons r rr, h => by simpa using vals_back rr (show _ from by simpa using h)
theorem Sk.draws {X : Cx} {pins : List (Addr × Obj)} {σ : L2.St} {H : Hp} {s : Shared} {k : Sk} {xs : List V} {it : Addr} {i : Nat} (hc : X.calm = true) (I : Inv X pins σ H s) (hx : k.at X.K H xs) (hi : k.itr it i s.heap) (hne : ∀ b ∈ k.adr, b ≠ it) :
    ∃ (fp : List Addr) (P : Nat → Value → Prop) (St : Nat → Heap → Prop), Draws X.prog X.w X.A.in1 it fp xs.length P St ∧ St i s.heap ∧ (∀ j h', St j h' → k.itr it j h') ∧ (∀ j v, P j v → ∃ x, xs[j]? = some x ∧ RelV x v) ∧ it ∈ fp ∧ ∀ b ∈ fp, b = it ∨ b ∈ k.adr := by
  have hh : X.A.in1.handled = none := I.ok.hd hc
  cases k with
  | l a =>
    obtain ⟨its, rv, p, hz⟩ := I.list hx
    have hl := rv.length
    refine ⟨[it, a], fun i v => its.toArray[i]? = some v, fun i h => h.IsListIter it a i ∧ h.IsList a its.toArray, by rw [show xs.length = its.toArray.size by simpa using hl]; exact Draws.list hh it a (hne a (by simp [Sk.adr])) its.toArray, ⟨hi, p.isList⟩, fun j h' st => st.1, fun j v h => ?_, by simp, fun b hb => by simpa [Sk.adr] using hb⟩
    obtain ⟨u, h1, h2⟩ := vals_back rv (show its[j]? = some v by simpa using h)
    exact ⟨u, h1, h2⟩
  | t a =>
    obtain ⟨its, rv, p, hz⟩ := I.tuple hx
    have hl := rv.length
    refine ⟨[it, a], fun i v => its.toArray[i]? = some v, fun i h => h.IsTupleIter it a i ∧ h.IsTuple a its.toArray, by rw [show xs.length = its.toArray.size by simpa using hl]; exact Draws.tuple hh it a (hne a (by simp [Sk.adr])) its.toArray, ⟨hi, p⟩, fun j h' st => st.1, fun j v h => ?_, by simp, fun b hb => by simpa [Sk.adr] using hb⟩
    obtain ⟨u, h1, h2⟩ := vals_back rv (show its[j]? = some v by simpa using h)
    exact ⟨u, h1, h2⟩
  | s z =>
    obtain ⟨t, hi⟩ := hi
    have hx : xs = z.cps.toList.map fun c => V.str ⟨#[c]⟩ := hx
    refine ⟨[it], _, _, by rw [show xs.length = z.cps.size by rw [hx]; simp]; exact Draws.text hh it z t, hi, fun j h' st => ⟨t, st⟩, fun j v h => ?_, by simp, fun b hb => .inl (by simpa using hb)⟩
    obtain ⟨c, u, h1, rfl⟩ := h
    refine ⟨.str ⟨#[c]⟩, ?_, ⟨u, rfl⟩⟩
    rw [hx, List.getElem?_map]
    rw [show z.cps.toList[j]? = some c by simpa using h1]
    rfl
def ItzS (K : PySem.W.Frag) (k1 k2 : Sk) : L2.It :=
  ⟨fun i H => ∃ (xs ys : List V) (x y : V), k1.at K H xs ∧ k2.at K H ys ∧ xs[i]? = some x ∧ ys[i]? = some y,
    fun i H v H' => ∃ T x y, v = .ref T ∧ H T = none ∧ H' = upd H T (.tup [x, y]) ∧ (∀ xs, k1.at K H xs → xs[i]? = some x) ∧ ∀ ys, k2.at K H ys → ys[i]? = some y,
    fun i H => ∃ xs ys : List V, k1.at K H xs ∧ k2.at K H ys ∧ i ≤ xs.length ∧ i ≤ ys.length ∧ (i = xs.length ∨ i = ys.length)⟩
structure ZAp (k1 k2 : Sk) (z TI TO i1 i2 : Addr) : Prop where
  TIz : TI ≠ z
  TOz : TO ≠ z
  TITO : TI ≠ TO
  TIi1 : TI ≠ i1
  TIi2 : TI ≠ i2
  zi1 : z ≠ i1
  zi2 : z ≠ i2
  Ti1 : TO ≠ i1
  Ti2 : TO ≠ i2
  i12 : i1 ≠ i2
  a1 : ∀ b ∈ k1.adr, b ≠ z ∧ b ≠ TI ∧ b ≠ TO ∧ b ≠ i1 ∧ b ≠ i2
  a2 : ∀ b ∈ k2.adr, b ≠ z ∧ b ≠ TI ∧ b ≠ TO ∧ b ≠ i1 ∧ b ≠ i2
theorem ZAp.sep {k1 k2 : Sk} {z TI TO i1 i2 : Addr} (D : ZAp k1 k2 z TI TO i1 i2) {fp1 fp2 : List Addr} (m1 : i1 ∈ fp1) (m2 : i2 ∈ fp2) (s1 : ∀ b ∈ fp1, b = i1 ∨ b ∈ k1.adr) (s2 : ∀ b ∈ fp2, b = i2 ∨ b ∈ k2.adr) : ZipSep2 z TI TO i1 i2 fp1 fp2 where
  TIz := D.TIz
  TOz := D.TOz
  TITO := D.TITO
  TIi1 := D.TIi1
  mem1 := m1
  zf1 := fun h => (s1 z h).elim D.zi1 fun q => (D.a1 z q).1 rfl
  Tf1 := fun h => (s1 TO h).elim D.Ti1 fun q => (D.a1 TO q).2.2.1 rfl
  TIi2 := D.TIi2
  mem2 := m2
  zf2 := fun h => (s2 z h).elim D.zi2 fun q => (D.a2 z q).1 rfl
  Tf2 := fun h => (s2 TO h).elim D.Ti2 fun q => (D.a2 TO q).2.2.1 rfl
  sep1_2 := fun h => (s2 i1 h).elim D.i12 fun q => (D.a2 i1 q).2.2.2.1 rfl
  sep2_1 := fun h => (s1 i2 h).elim (fun e => D.i12 e.symm) fun q => (D.a1 i2 q).2.2.2.2 rfl
theorem turn_zipS {P : Program} {w : World} {K : PySem.W.Frag} {elts : List PySem.Expr} {kk : Nat} {tpos : Pos} {k1 k2 : Sk} {z TI TO i1 i2 : Addr} (D : ZAp k1 k2 z TI TO i1 i2) :
    Turn P w K (.Tuple elts kk tpos) (ItzS K k1 k2) [z, TI, TO, i1, i2] z (fun i h => IsZip h z TI TO .none ∧ IsTupOf2 h TI (.ref i1) (.ref i2) ∧ (∃ x y, IsTupOf2 h TO x y) ∧ k1.itr i1 i h ∧ k2.itr i2 i h) where
  mem := by simp
  obj := fun i h st c hc => by
    obtain ⟨hz, hTI, ⟨x, y, hTO⟩, h1, h2⟩ := st
    have e' : c = z ∨ c = TI ∨ c = TO ∨ c = i1 ∨ c = i2 := by simpa using hc
    rcases e' with q | q | q | q | q
    · rw [q]; exact ⟨_, hz, fun v q => nomatch q⟩
    · rw [q]; exact ⟨_, hTI, fun v q => nomatch q⟩
    · rw [q]; exact ⟨_, hTO, fun v q => nomatch q⟩
    · rw [q]; exact Sk.itr_obj h1
    · rw [q]; exact Sk.itr_obj h2
  keep := fun i h h' st k => by
    obtain ⟨hz, hTI, ⟨x, y, hTO⟩, h1, h2⟩ := st
    exact ⟨k z (by simp) _ hz, k TI (by simp) _ hTI, ⟨x, y, k TO (by simp) _ hTO⟩, Sk.itr_keep h1 fun o q => k i1 (by simp) o q, Sk.itr_keep h2 fun o q => k i2 (by simp) o q⟩
  item := by
    intro X hP hw hK hc i pins s σ H E I hf st hg
    subst hP hw hK
    obtain ⟨hz, hTI, ⟨x0, y0, hTO⟩, h1, h2⟩ := st
    obtain ⟨xs, ys, x, y, hqx, hqy, hx, hy⟩ := hg
    obtain ⟨fp1, P1, St1, D1, st1, b1, p1, m1, f1⟩ := Sk.draws hc I hqx h1 fun b hb => (D.a1 b hb).2.2.2.1
    obtain ⟨fp2, P2, St2, D2, st2, b2, p2, m2, f2⟩ := Sk.draws hc I hqy h2 fun b hb => (D.a2 b hb).2.2.2.2
    have hi1 : i < xs.length := (List.getElem?_eq_some_iff.mp hx).1
    have hi2 : i < ys.length := (List.getElem?_eq_some_iff.mp hy).1
    have hzl : z < s.heap.objs.size := Heap.lt_size hz
    refine wpAny_pyNext_zipD2_item (D.sep m1 m2 f1 f2) D1 D2 hz hTI hTO st1 st2 hi1 hi2 fun u1 u2 h' tk q1 q2 z' TO' s1' s2' hT hsz hk => ?_
    obtain ⟨x', hx', ru⟩ := p1 i u1 q1
    obtain ⟨y', hy', ru2⟩ := p2 i u2 q2
    rw [hx] at hx'; cases hx'
    rw [hy] at hy'; cases hy'
    refine ⟨_, rfl, wpAny_letOwnedTupleGo_zip (s := { s with heap := h', toks := tk }) z' fun h'' z'' sb => ?_⟩
    have hT2 : h''.get? s.heap.objs.size = some { cls := .type "tuple", data := .seq #[u1, u2] } := (sb.2 _ (Nat.ne_of_gt hzl)).trans hT
    have new : ObjOk X.prog X.w (upd H s.heap.objs.size (.tup [x, y])) h'' s.heap.objs.size (.tup [x, y]) :=
      ⟨by show 2 ≤ sizeLine; decide, [u1, u2], .cons ru (.cons ru2 .nil), ⟨_, hT2, rfl, _, rfl⟩⟩
    have I1 : Inv X pins σ (upd H s.heap.objs.size (.tup [x, y])) { s with heap := h'', toks := tk } :=
      I.turnedNew (t' := tk) (ch := [z, TI, TO, i1, i2]) (fun c o hb q => (sb.2 c (fun q' => hb (by simp [q']))).trans (hk c o (fun q' => hb (by simp [q'])) (fun q' => hb (by simp [q'])) (fun q' => hb (by simp [q'])) (fun q' => hb (by simp [q'])) q)) hf (Nat.le_refl _) new
    have h1' := b1 _ _ s1'
    have h2' := b2 _ _ s2'
    refine ⟨.ref s.heap.objs.size, _, I1, rfl, ⟨_, x, y, rfl, I.hok.fresh (Nat.le_refl _), rfl, fun l hl => by rw [Sk.inj I hl hqx]; exact hx, fun l hl => by rw [Sk.inj I hl hqy]; exact hy⟩, ⟨z'', ?_, ⟨u1, u2, ?_⟩, ?_, ?_⟩, fun c hcm => ?_⟩
    · exact (sb.2 _ D.TIz).trans (hk _ _ D.TIz D.TITO D.TIi1 D.TIi2 hTI)
    · exact (sb.2 _ D.TOz).trans TO'
    · exact Sk.itr_keep h1' fun o q => (sb.2 _ D.zi1.symm).trans q
    · exact Sk.itr_keep h2' fun o q => (sb.2 _ D.zi2.symm).trans q
    · have hlt : c < s.heap.objs.size := by
        have e' : c = z ∨ c = TI ∨ c = TO ∨ c = i1 ∨ c = i2 := by simpa using hcm
        rcases e' with q | q | q | q | q
        · rw [q]; exact hzl
        · rw [q]; exact Heap.lt_size hTI
        · rw [q]; exact Heap.lt_size hTO
        · rw [q]; obtain ⟨_, e1, _⟩ := Sk.itr_obj h1; exact Heap.lt_size e1
        · rw [q]; obtain ⟨_, e2, _⟩ := Sk.itr_obj h2; exact Heap.lt_size e2
      rw [upd_ne (Nat.ne_of_lt hlt)]
      exact (hf c hcm).1
  done := by
    intro X hP hw hK hc i pins s σ H E I hf st hg
    subst hP hw hK
    obtain ⟨hz, hTI, ⟨x0, y0, hTO⟩, h1, h2⟩ := st
    obtain ⟨xs, ys, hqx, hqy, hl1, hl2, hend⟩ := hg
    obtain ⟨fp1, P1, St1, D1, st1, b1, p1, m1, f1⟩ := Sk.draws hc I hqx h1 fun b hb => (D.a1 b hb).2.2.2.1
    obtain ⟨fp2, P2, St2, D2, st2, b2, p2, m2, f2⟩ := Sk.draws hc I hqy h2 fun b hb => (D.a2 b hb).2.2.2.2
    exact wpAny_pyNext_zipD2_end (D.sep m1 m2 f1 f2) D1 D2 hz hTI hTO st1 st2 hl1 hl2 hend fun h' tk hk => ⟨rfl, I.turnedL (t' := tk) (ch := [z, TI, TO, i1, i2]) (fun c o hb q =>
      hk c o (fun q' => hb (by simp [q'])) (fun q' => hb (by simp [q'])) (fun q' => hb (by simp [q'])) (fun q' => hb (by simp [q'])) q) hf⟩
  self := fun A i s Q E st h => wpAny_pyIter_zip st.1 h
theorem Sk.begins {X : Cx} {pins : List (Addr × Obj)} {σ : L2.St} {H : Hp} {s : Shared} {k : Sk} {xs : List V} {u : Value} (I : Inv X pins σ H s) (hx : k.at X.K H xs) (r : RelV k.v u) :
    ∃ (o : Obj) (Hh : Heap → Prop), Begins u o Hh ∧ Hh s.heap ∧ (∀ (h : Heap) (it : Addr), h.get? it = some o → k.itr it 0 h) ∧ ∀ b ∈ k.adr, b < s.heap.objs.size := by
  cases k with
  | l a =>
    cases (show u = Value.ref a from r)
    obtain ⟨its, rv, p, hz⟩ := I.list hx
    exact ⟨_, _, begins_list a its.toArray, p.isList, fun h it e => ⟨_, e, rfl, rfl⟩, fun b hb => by
      have : b = a := by simpa [Sk.adr] using hb
      subst this
      exact p.lt⟩
  | t a =>
    cases (show u = Value.ref a from r)
    obtain ⟨its, rv, p, hz⟩ := I.tuple hx
    refine ⟨_, _, begins_tuple a its.toArray, p, fun h it e => ⟨_, e, rfl, rfl⟩, fun b hb => ?_⟩
    have : b = a := by simpa [Sk.adr] using hb
    subst this
    obtain ⟨o, e, _⟩ := p
    exact Heap.lt_size e
  | s z =>
    obtain ⟨t, rfl⟩ := (show ∃ t, u = Value.str z t from r)
    exact ⟨_, _, begins_text z t, trivial, fun h it e => ⟨t, _, e, rfl, rfl⟩, fun b hb => by simp [Sk.adr] at hb⟩
theorem zap_nat (n a : Nat) (h : a < n) : a ≠ n + 4 ∧ a ≠ n + 2 ∧ a ≠ n + 3 ∧ a ≠ n ∧ a ≠ n + 1 := by omega
theorem zap_le (n c : Nat) (h : c = n + 4 ∨ c = n + 2 ∨ c = n + 3 ∨ c = n ∨ c = n + 1) : n ≤ c := by omega
theorem zap_own (n : Nat) : n + 2 ≠ n + 4 ∧ n + 3 ≠ n + 4 ∧ n + 2 ≠ n + 3 ∧ n + 2 ≠ n ∧ n + 2 ≠ n + 1 ∧ n + 4 ≠ n ∧ n + 4 ≠ n + 1 ∧ n + 3 ≠ n ∧ n + 3 ≠ n + 1 ∧ n ≠ n + 1 := by omega
def iZipS (K : PySem.W.Frag) (ta : TA) : TI := fun σ H R => ta σ H fun vs H1 => ∃ k1 k2 xs ys, vs = [Sk.v k1, Sk.v k2] ∧ k1.at K H1 xs ∧ k2.at K H1 ys ∧ R (ItzS K k1 k2) H1
theorem pi_zipS {X : Cx} {e e2 : PySem.Expr} {ta : TA} {p pos tpos : Pos} {elts : List PySem.Expr} {kk : Nat} (hg : Gl X "zip") (hm : X.mg "zip" = none) (ha : PA X [e, e2] ta)
    (hs : starEach [e, e2] X.env = (false, eval e X.env) :: starEach [e2] X.env) (hpl : (backTo pos (starEach [e2] X.env)).any (·.1) = false) :
    PI X (.Tuple elts kk tpos) (.Call (.Name "zip" p) [e, e2] [] pos) (iZipS X.K ta) := by
  refine ⟨fun pins s σ H R I h => ?_⟩
  refine PyProof.Rows.Call_ (ld_blt I hg hm PyProof.Rows.boot_zip (PyProof.Rows.callWith_type1 (thn (ha.run pos pins s σ H _ I h) fun us s1 ⟨vs, H1, I1, r1, q1⟩ => ?_) hs hpl))
  obtain ⟨k1, k2, xs, ys, ex, hqx, hqy, q⟩ := q1
  subst ex
  obtain ⟨u1, u2, rfl, r, r'⟩ := vals2 r1
  obtain ⟨o1, H1', B1, hb1, t1, l1⟩ := Sk.begins I1 hqx r
  obtain ⟨o2, H2', B2, hb2, t2, l2⟩ := Sk.begins I1 hqy r'
  refine zip_begins2 B1 B2 hb1 hb2 fun h' hz hTI hTO g1 g2 hsz hk => wpAny_pyIter_zip hz ?_
  have I2 : Inv X pins σ H1 { s1 with heap := h' } := I1.kept (t' := s1.toks) hk
  obtain ⟨w1, w2, w3, w4, w5, w6, w7, w8, w9, w10⟩ := zap_own s1.heap.objs.size
  refine ⟨s1.heap.objs.size + 4, [s1.heap.objs.size + 4, s1.heap.objs.size + 2, s1.heap.objs.size + 3, s1.heap.objs.size, s1.heap.objs.size + 1], _, _, H1, rfl, I2, turn_zipS ⟨w1, w2, w3, w4, w5, w6, w7, w8, w9, w10, fun b hb => zap_nat _ _ (l1 b hb), fun b hb => zap_nat _ _ (l2 b hb)⟩, ⟨hz, hTI, ⟨_, _, hTO⟩, t1 _ _ g1, t2 _ _ g2⟩, fun c hcm => ?_, q⟩
  have e' : c = s1.heap.objs.size + 4 ∨ c = s1.heap.objs.size + 2 ∨ c = s1.heap.objs.size + 3 ∨ c = s1.heap.objs.size ∨ c = s1.heap.objs.size + 1 := by simpa using hcm
  have hle : s1.heap.objs.size ≤ c := zap_le _ _ e'
  exact I1.fpOk hle (I1.hok.fresh hle)
section
variable {C : Cfg} {X : Cx} {a b : PySem.Expr}
theorem wk_src {W : Wd} {K : PySem.W.Frag} (hK : W.K = K) {G : Hp} {d : D} {v : V} {l : List D} (hd : Den W G d v) (h : itemsD d = some l) : ∃ (k : Sk) (xs : List V), v = k.v ∧ DenL W G l xs ∧ ∀ H, Sub G H → k.at K H xs := by
  cases d with
  | lst l' =>
    cases h
    simp only [Den] at hd
    obtain ⟨a, vs, rfl, h1, h2⟩ := hd
    exact ⟨.l a, vs, rfl, h2, fun H s => SqL.of (s _ _ h1)⟩
  | tup l' =>
    cases h
    simp only [Den] at hd
    obtain ⟨a, vs, rfl, h1, _, h2⟩ := hd
    exact ⟨.t a, vs, rfl, h2, fun H s => by rw [← hK]; exact s.sqT h1⟩
  | str l' =>
    cases h
    simp only [Den] at hd
    subst hd
    refine ⟨.s (encS l'), l'.map fun c => V.str (encS [c]), rfl, ?_, fun H s => ?_⟩
    · exact DenL.ofMap (fun c => den_str [c]) l'
    · show l'.map (fun c => V.str (encS [c])) = (encS l').cps.toList.map fun c => V.str ⟨#[c]⟩
      rw [encS_list, List.map_map]
      rfl
  | _ => cases h
theorem zipD_get : ∀ {l r : List D} {i : Nat} {d : D}, (zipD l r)[i]? = some d → ∃ p q, l[i]? = some p ∧ r[i]? = some q ∧ d = .tup [p, q]
  | [], r, i, d, h => by simp [zipD] at h
  | a :: l, [], i, d, h => by simp [zipD] at h
  | a :: l, b :: r, 0, d, h => by simp [zipD] at h; exact ⟨a, b, rfl, rfl, h.symm⟩
  | a :: l, b :: r, i + 1, d, h => by simpa using zipD_get (l := l) (r := r) (i := i) (by simpa [zipD] using h)
theorem zipD_len : ∀ (l r : List D), (zipD l r).length = min l.length r.length
  | [], r => by simp [zipD]
  | a :: l, [] => by simp [zipD]
  | a :: l, b :: r => by
    have := zipD_len l r
    simp only [zipD, List.length_cons]
    omega
theorem wk_zip {W : Wd} {K : PySem.W.Frag} {G : Hp} {l r : List D} {k1 k2 : Sk} {xs ys : List V} (h1 : DenL W G l xs) (h2 : DenL W G r ys) (a1 : ∀ H, Sub G H → k1.at K H xs) (a2 : ∀ H, Sub G H → k2.at K H ys) : WkD W G (zipD l r) (ItzS K k1 k2) where
  goes := fun i H hi s => by
    rw [zipD_len] at hi
    have e1 := h1.length
    have e2 := h2.length
    have i1 : i < xs.length := by omega
    have i2 : i < ys.length := by omega
    exact ⟨xs, ys, xs[i], ys[i], a1 H s, a2 H s, by simp [i1], by simp [i2]⟩
  stops := fun H s => by
    rw [zipD_len]
    have e1 := h1.length
    have e2 := h2.length
    exact ⟨xs, ys, a1 H s, a2 H s, by omega, by omega, by omega⟩
  yields := fun i H x H' d hi s y => by
    obtain ⟨p, q, hp, hq, rfl⟩ := zipD_get hi
    obtain ⟨T, u, v, rfl, hT, rfl, hu, hv⟩ := y
    obtain ⟨u', hu', du⟩ := h1.get hp
    obtain ⟨v', hv', dv⟩ := h2.get hq
    rw [hu xs (a1 H s)] at hu'; cases hu'
    rw [hv ys (a2 H s)] at hv'; cases hv'
    exact .inr ⟨T, p, q, u, v, rfl, rfl, hT, rfl, du, dv⟩
theorem si_zip (hK : C.W.K = X.K) {it tg : PySem.Expr} {ra rb : Env → R AV} (p : ∀ {ta : TA}, PA X [a, b] ta → PI X tg it (iZipS X.K ta)) (pp : ∀ {ta tb : TE}, PE X a ta → PE X b tb → PA X [a, b] (tCons ta (tCons tb tNil))) (pa : PE X a (tA C ra)) (pb : PE X b (tA C rb)) :
    PI X tg it (tI C fun e => (ra e).bind fun x e => (rb e).bind fun y e => R.of (match x, y with
      | .v x, .v y => (itemsD x).bind fun l => (itemsD y).map (zipD l)
      | _, _ => none) e) :=
  pi_imp (by
    rintro σ H Q ⟨G, e, g, h⟩
    refine Go.two back_i g h fun x y e2 u v H2 G2 g2 ax ay h2 => ?_
    obtain ⟨items, h3, h4⟩ := Go.of_some h2
    cases x with
    | o i => cases y <;> cases h3
    | v x => cases y with
      | o i => cases h3
      | v y =>
        obtain ⟨l, h5, h6⟩ := Option.bind_eq_some_iff.mp h3
        obtain ⟨r, h7, rfl⟩ := Option.map_eq_some_iff.mp h6
        obtain ⟨k1, xs, rfl, d1, a1⟩ := wk_src hK (show Den C.W G2 x u from ax) h5
        obtain ⟨k2, ys, rfl, d2, a2⟩ := wk_src hK (show Den C.W G2 y v from ay) h7
        exact ⟨k1, k2, xs, ys, rfl, a1 H2 g2.sub, a2 H2 g2.sub, h4 _ _ _ g2 Stp.refl (wk_zip d1 d2 a1 a2)⟩) (p (pp pa pb))
end
end TI
set_option Elab.async false
set_option linter.all false
set_option maxRecDepth 100000
set_option maxHeartbeats 1000000
namespace TI
open PySem PySem.Spec L2
def nameB (N : List Str) (sc : PySem.Scope) (i : Nat) (x : Str) : Bool := decide (N[i]? = some x) && (match sc.names.lookup x with
  | some .local => true
  | some .cell => true
  | some .free => true
  | _ => false) && !(x == ("__debug__" : Str)) && !(x == ("__classdict__" : Str))
def storeB (N : List Str) (so : PySem.Scope) (i : Nat) (x : Str) : Bool := decide (N[i]? = some x) && (match so.names.lookup x with
  | some .local => true
  | some .cell => true
  | _ => false)
def glB (sc : PySem.Scope) (x : Str) : Bool := decide (sc.names.lookup x = some .globalImplicit) && !(x == ("__debug__" : Str))
def bltB (T : Tab) (sc : PySem.Scope) (x : Str) : Bool := glB sc x && decide (x ∈ T.blt)
def bfOk : BF → Bool
  | .str => false | .dict => false | .sortedset => false | .lenset => false
  | _ => true
def frS (T : Tab) : E → Bool
  | .lit _ => true | .var _ => false | .frz _ => false | .mv _ => true | .glob _ => true
  | .bin _ _ _ => true | .cmp _ _ _ => true | .neg _ => true | .chain _ _ _ _ _ => true
  | .and_ _ _ => false | .or_ _ _ => false | .not_ _ => true | .ite _ a b => frS T a && frS T b
  | .tup _ => true | .lst _ => true | .dk _ => true | .dt _ => true
  | .idx _ _ => false | .slc _ _ _ => true | .rev _ => true | .isi _ _ => true | .dget _ _ _ => false
  | .bf f _ => bfFr f | .bm _ _ _ => false | .mu _ _ _ => false | .call f _ => T.fresh f | .make _ _ => true
  | .fld _ _ _ => false | .comp _ _ _ => true | .comp2 _ _ _ _ _ => true | .dcomp _ _ _ _ => true
mutual
def chkTg (N : List Str) (so : PySem.Scope) : Tg → PySem.Expr → Bool
  | .n i, .Name x _ => storeB N so i x
  | .nil, .Tuple [] _ _ => true
  | .cons a b, .Tuple (x :: xs) _ _ => isTgs b && noStar x && chkTg N so a x && chkTgs N so b xs
  | _, _ => false
def chkTgs (N : List Str) (so : PySem.Scope) : Tg → List PySem.Expr → Bool
  | .nil, [] => true
  | .cons a b, x :: xs => isTgs b && noStar x && chkTg N so a x && chkTgs N so b xs
  | _, _ => false
end
def tyB (T : Tab) (sc : PySem.Scope) (Φn : Nat) (t : Ty) (ex : PySem.Expr) : Bool := match ex with
  | .Name x _ => decide (x = tyN T t) && glB sc x && decide (t ∈ T.tys) && (match t with
    | .cls c => decide (c < Φn)
    | _ => decide (x ∈ T.blt))
  | _ => false
def tysB (T : Tab) (sc : PySem.Scope) (Φn : Nat) : List Ty → List PySem.Expr → Bool
  | [], [] => true
  | t :: ts, x :: xs => tyB T sc Φn t x && tysB T sc Φn ts xs
  | _, _ => false
def isYes : E → Bool
  | .lit (.bl true) => true
  | _ => false
def ownN (N : List Str) (own : List Nat) : List (Str × Nat) := own.map fun i => (N.getD i "", i)
def subB (l own : List Nat) : Bool := l.all fun i => own.contains i
section
variable (T : Tab) (Φn : Nat) (N : List Str) (k : Nat)
mutual
def chkE (sc so : PySem.Scope) (t : Bool) : E → PySem.Expr → Bool
  | .lit l, ex => (match l with
    | .non => match ex with
      | .Constant .none _ _ => true
      | _ => false
    | .bl b => match ex with
      | .Constant (.bool c) _ _ => b == c
      | _ => false
    | .int i => match ex with
      | .Constant (.int j) _ _ => decide (i = j)
      | _ => false
    | .str x => match ex with
      | .Constant (.str y) _ _ => decide (encS x = y)
      | _ => false)
  | .var i, ex => match ex with
    | .Name x _ => nameB N sc i x
    | _ => false
  | .frz i, ex => match ex with
    | .Name x _ => nameB N sc i x
    | _ => false
  | .mv i, ex => match ex with
    | .Name x _ => nameB N sc i x
    | _ => false
  | .glob g, ex => match ex with
    | .Name x _ => decide (x = T.gname g) && glB sc x
    | _ => false
  | .bin o a b, ex => match ex with
    | .BinOp l op r _ => decide (op = opOf o) && chkA sc so a l && chkA sc so b r
    | _ => false
  | .neg a, ex => match ex with
    | .UnaryOp .USub x _ => chkE sc so false a x
    | _ => false
  | .cmp o a b, ex => match ex with
    | .Compare l [op] [r] _ => decide (op = cmpOf o) && chkA sc so a l && chkA sc so b r && notSet2 o r
    | _ => false
  | .chain o1 o2 a b c, ex => match ex with
    | .Compare l [p, q] [m, r] _ => decide (p = cmpOf o1) && decide (q = cmpOf o2) && chkA sc so a l && chkA sc so b m && chkA sc so c r && notSet2 o2 r
    | _ => false
  | .and_ a b, ex => match ex with
    | .BoolOp .And (x :: y :: rest) pos => chkE sc so t a x && (match rest with
      | [] => chkE sc so t b y
      | z :: zs => chkE sc so t b (.BoolOp .And (y :: z :: zs) pos))
    | _ => false
  | .or_ a b, ex => match ex with
    | .BoolOp .Or (x :: y :: rest) pos => chkE sc so t a x && (match rest with
      | [] => chkE sc so t b y
      | z :: zs => chkE sc so t b (.BoolOp .Or (y :: z :: zs) pos))
    | _ => false
  | .not_ a, ex => match ex with
    | .UnaryOp .Not x _ => chkE sc so t a x
    | _ => false
  | .ite c a b, ex => match ex with
    | .IfExp cx ax bx _ => !t && chkE sc so true c cx && chkE sc so false a ax && chkE sc so false b bx
    | _ => false
  | .tup es, ex => match ex with
    | .Tuple xs _ _ => chkAs sc so es xs
    | _ => false
  | .lst es, ex => match ex with
    | .List xs _ => chkAs sc so es xs
    | _ => false
  | .dk es, ex => match ex with
    | .Dict [] [] _ => (match es with
      | .nil => true
      | _ => false)
    | _ => false
  | .dt es, ex => match ex with
    | .Dict [] [] _ => (match es with
      | .nil => true
      | _ => false)
    | _ => false
  | .idx a b, ex => match ex with
    | .Subscript x y _ => chkA sc so a x && chkA sc so b y && notSlice y
    | _ => false
  | .slc a lo hi, ex => match ex with
    | .Subscript x (.Slice l h none _) _ => chkA sc so a x && chkB sc so lo l && chkB sc so hi h
    | _ => false
  | .rev a, ex => match ex with
    | .Subscript x (.Slice none none (some (.UnaryOp .USub (.Constant (.int 1) _ _) _)) _) _ => chkA sc so a x
    | _ => false
  | .isi a ts, ex => match ex with
    | .Call (.Name f _) [x, ty] [] _ => decide (f = "isinstance") && bltB T sc f && chkA sc so a x && noStar x && noStar ty && (match ty with
      | .Tuple ns _ _ => tysB T sc Φn ts ns && decide (ts.length ≤ 1000)
      | _ => match ts with
        | [s] => tyB T sc Φn s ty
        | _ => false)
    | _ => false
  | .dget _ _ _, ex => false
  | .bf f as, ex => if bfSet f then (match ex with
      | .Call (.Name n _) [.Call (.Name m _) [x] [] _] [] _ => decide (n = bfN f) && decide (m = "set") && bltB T sc n && bltB T sc m && noStar x && chkAs sc so as [x]
      | _ => false)
    else match ex with
      | .Call (.Name n _) (x :: xs) [] _ => decide (n = bfN f) && bfOk f && bltB T sc n && (x :: xs).all noStar && chkAs sc so as (x :: xs)
      | _ => false
  | .bm m r as, ex => match ex with
    | .Call (.Attribute o n apos) xs [] cpos => decide (n = bmN m) && (apos.endLine == cpos.line) && attrOk o && xs.all noStar && decide (xs.length < 29) && chkA sc so r o && chkAs sc so as xs
    | _ => false
  | .mu m i as, ex => match ex with
    | .Call (.Attribute (.Name v _) n apos) xs [] cpos => decide (n = mmN m) && (apos.endLine == cpos.line) && xs.all noStar && decide (xs.length < 29) && nameB N sc i v && chkAs sc so as xs
    | _ => false
  | .call f as, ex => match ex with
    | .Call (.Name n _) xs [] _ => decide (n = T.fname f) && glB sc n && decide (T.lev f < k) && xs.all noStar && chkAs sc so as xs
    | _ => false
  | .make _ _, ex => false
  | .fld _ _ _, ex => false
  | .comp elt (.mk tg it c) own, ex => match ex with
    | .ListComp el [⟨tx, ix, ifs, isa⟩] scope _ => decide (isa = 0) && blkC N sc scope (ownN N own) && notSet ix && chkIt sc so it tx ix && chkTg N scope tg tx && subB (tgs tg) own && (match ifs with
        | [] => isYes c
        | [cx] => chkE (relS scope sc) scope true c cx
        | _ => false) && chkE (relS scope sc) scope false elt el
    | _ => false
  | .comp2 _ _ _ _ _, ex => false
  | .dcomp _ _ _ _, ex => false
def chkA (sc so : PySem.Scope) : A → PySem.Expr → Bool
  | .e x, ex => chkE sc so false x ex
  | .o i, ex => match ex with
    | .Name x _ => nameB N sc i x
    | _ => false
def chkAs (sc so : PySem.Scope) : As → List PySem.Expr → Bool
  | .nil, xs => xs.isEmpty
  | .cons a as, xs => match xs with
    | x :: xs => noStar x && chkA sc so a x && chkAs sc so as xs
    | [] => false
def chkB (sc so : PySem.Scope) : As → Option PySem.Expr → Bool
  | .nil, o => o.isNone
  | .cons a .nil, o => match o with
    | some x => chkA sc so a x
    | none => false
  | .cons _ (.cons _ _), _ => false
def chkIt (sc so : PySem.Scope) : It → PySem.Expr → PySem.Expr → Bool
  | .seq a, _, ex => chkE sc so false a ex
  | .rng1 a, _, ex => match ex with
    | .Call (.Name n _) [x] [] _ => decide (n = "range") && bltB T sc n && noStar x && chkA sc so a x
    | _ => false
  | .rng2 a b, _, ex => match ex with
    | .Call (.Name n _) [x, y] [] _ => decide (n = "range") && bltB T sc n && noStar x && noStar y && chkA sc so a x && chkA sc so b y
    | _ => false
  | .enum _, _, _ => false
  | .zip a b, tg, ex => match tg with
    | .Tuple _ _ _ => match ex with
      | .Call (.Name n _) [x, y] [] _ => decide (n = "zip") && bltB T sc n && noStar x && noStar y && chkA sc so a x && chkA sc so b y
      | _ => false
    | _ => false
  | .items _, _, _ => false
end
end
section
variable {T : Tab} {Φ : Fns} {C : Cfg} {N : List Str} {sc so : PySem.Scope} {k : Nat} {X : Cx}
theorem name_ok (c : Cok T Φ C N sc so k X) {i : Nat} {x : Str} {pos : Pos} (h : nameB N sc i x = true) : PE X (.Name x pos) (tVar i) := by
  unfold nameB at h
  simp only [Bool.and_eq_true, decide_eq_true_eq, Bool.not_eq_true'] at h
  obtain ⟨⟨⟨h1, h2⟩, h3⟩, h4⟩ := h
  refine pe_var (by rw [c.hN]; exact h1) ?_ h3 h4
  unfold Vis
  rw [c.hsc]
  split at h2
  · rename_i h; exact .inl h
  · rename_i h; exact .inr (.inl h)
  · rename_i h; exact .inr (.inr h)
  · cases h2
theorem gl_ok (c : Cok T Φ C N sc so k X) {x : Str} (h : glB sc x = true) : Gl X x ∧ (x == ("__debug__" : Str)) = false := by
  unfold glB at h
  simp only [Bool.and_eq_true, decide_eq_true_eq, Bool.not_eq_true'] at h
  exact ⟨by unfold Gl PySem.Env.kindOf; rw [c.hsc]; exact h.1, h.2⟩
theorem blt_ok (c : Cok T Φ C N sc so k X) {x : Str} (h : bltB T sc x = true) : Gl X x ∧ X.mg x = none ∧ (x == ("__debug__" : Str)) = false := by
  obtain ⟨h1, h2⟩ := Bool.and_eq_true_iff.mp h
  obtain ⟨g, d⟩ := gl_ok c h1
  exact ⟨g, c.mod.blt x (of_decide_eq_true h2), d⟩
theorem store_okB (c : Cok T Φ C N sc so k X) {i : Nat} {x : Str} {pos : Pos} (h : storeB N so i x = true) : X.N[i]? = some x ∧ Loc X.env.scope x ∧ (X.fn x = true ∨ X.env.scope.names.lookup x = some .local) := by
  unfold storeB at h
  obtain ⟨h1, h2⟩ := Bool.and_eq_true_iff.mp h
  have h3 := c.st x (by
    split at h2
    · rename_i h; exact .inl h
    · rename_i h; exact .inr h
    · cases h2)
  exact ⟨by rw [c.hN]; exact of_decide_eq_true h1, h3⟩
theorem tgs_n : ∀ {b : Tg} {xs : List PySem.Expr}, chkTgs N so b xs = true → isTgs b = true ∧ xs.all noStar = true ∧ xs.length = tgN b
  | .nil, [], _ => ⟨rfl, rfl, rfl⟩
  | .nil, _ :: _, h => by simp [chkTgs] at h
  | .n _, _, h => by simp [chkTgs] at h
  | .cons _ _, [], h => by simp [chkTgs] at h
  | .cons a b, x :: xs, h => by
    simp only [chkTgs, Bool.and_eq_true] at h
    obtain ⟨⟨⟨h1, h2⟩, h3⟩, h4⟩ := h
    obtain ⟨q1, q2, q3⟩ := tgs_n h4
    exact ⟨h1, by simp [h2]; simpa using q2, by simp [tgN, q3]⟩
mutual
theorem tg_ok (c : Cok T Φ C N sc so k X) : ∀ (t : Tg) (ex : PySem.Expr), chkTg N so t ex = true → PG X ex (tTg C t)
  | .n i, ex, h => by
    cases ex with
    | Name x pos =>
      obtain ⟨h1, h2, h3⟩ := store_okB (pos := pos) c (show storeB N so i x = true by simpa only [chkTg] using h)
      exact sg_n (pg_name c.nd h1 h2 h3)
    | _ => simp [chkTg] at h
  | .nil, ex, h => by
    cases ex with
    | Tuple xs j pos => cases xs with
      | nil => exact sg_tup c.hK c.calm rfl sgs_nil rfl rfl
      | cons _ _ => simp [chkTg] at h
    | _ => simp [chkTg] at h
  | .cons a b, ex, h => by
    cases ex with
    | Tuple xs j pos => cases xs with
      | nil => simp [chkTg] at h
      | cons x xs =>
        simp only [chkTg, Bool.and_eq_true] at h
        obtain ⟨⟨⟨h1, h2⟩, h3⟩, h4⟩ := h
        obtain ⟨q1, q2, q3⟩ := tgs_n h4
        have p := sgs_cons (tg_ok c a x h3) (tgs_ok c b xs h4) (asg_cons h2)
        exact sg_tup c.hK c.calm (show isTgs (.cons a b) = true from h1) p (by rw [asg_len2]; simp [tgN, q3]) (asg_idx (by simp [h2]; simpa using q2))
    | _ => simp [chkTg] at h
theorem tgs_ok (c : Cok T Φ C N sc so k X) : ∀ (t : Tg) (xs : List PySem.Expr), chkTgs N so t xs = true → PGs X xs (tTgs C t)
  | .nil, [], _ => sgs_nil
  | .nil, _ :: _, h => by simp [chkTgs] at h
  | .n _, _, h => by simp [chkTgs] at h
  | .cons _ _, [], h => by simp [chkTgs] at h
  | .cons a b, x :: xs, h => by
    simp only [chkTgs, Bool.and_eq_true] at h
    obtain ⟨⟨⟨h1, h2⟩, h3⟩, h4⟩ := h
    exact sgs_cons (tg_ok c a x h3) (tgs_ok c b xs h4) (asg_cons h2)
end
theorem bf_call (c : Cok T Φ C N sc so k X) {f : BF} (ok : bfOk f = true) {e : PySem.Expr} {es : List PySem.Expr} {p pos : Pos} (h : bltB T sc (bfN f) = true) (hs : (e :: es).all noStar = true) {r : List V → Hp → VK → Prop} {t : TA} (hc : CallR X (bfV f) r) (ha : PA X (e :: es) t) :
    PE X (.Call (.Name (bfN f) p) (e :: es) [] pos) (tCB r t) := by
  obtain ⟨g, m, d⟩ := blt_ok c h
  obtain ⟨h1, h2⟩ := Bool.and_eq_true_iff.mp (show (noStar e && es.all noStar) = true from hs)
  have e1 : starEach (e :: es) X.env = (false, eval e X.env) :: starEach es X.env := star_cons h1
  have e2 : (backTo pos (starEach es X.env)).any (·.1) = false := star_any h2
  cases f with
  | len => exact pe_callB hc g m boot_len ha (by decide) d e1 e2
  | list => exact pe_callTy hc g m PyProof.Rows.boot_list ha (by decide) d e1 e2
  | tuple => exact pe_callTy hc g m PyProof.Rows.boot_tuple ha (by decide) d e1 e2
  | sorted => exact pe_callB hc g m PyProof.Rows.boot_sorted ha (by decide) d e1 e2
  | sum => exact pe_callB hc g m PyProof.Rows.boot_sum ha (by decide) d e1 e2
  | min1 => exact pe_callB hc g m PyProof.Rows.boot_min ha (by decide) d e1 e2
  | max1 => exact pe_callB hc g m PyProof.Rows.boot_max ha (by decide) d e1 e2
  | min2 => exact pe_callB hc g m PyProof.Rows.boot_min ha (by decide) d e1 e2
  | max2 => exact pe_callB hc g m PyProof.Rows.boot_max ha (by decide) d e1 e2
  | abs => exact pe_callB hc g m PyProof.Rows.boot_abs ha (by decide) d e1 e2
  | int => exact pe_callTy hc g m PyProof.Rows.boot_int ha (by decide) d e1 e2
  | any => exact pe_callB hc g m PyProof.Rows.boot_any ha (by decide) d e1 e2
  | all => exact pe_callB hc g m PyProof.Rows.boot_all ha (by decide) d e1 e2
  | repr => exact pe_callB hc g m PyProof.Rows.boot_repr ha (by decide) d e1 e2
  | _ => cases ok
theorem set_call (c : Cok T Φ C N sc so k X) {f : BF} (hf : bfSet f = true) {a : PySem.Expr} {p p2 q pos : Pos} (h : bltB T sc (bfN f) = true) (h2 : bltB T sc "set" = true) (hs : noStar a = true) {t : TA} (ha : PA X [a] t) :
    PE X (.Call (.Name (bfN f) p) [.Call (.Name "set" p2) [a] [] q] [] pos) (tCB (rCall C.W (bfFr f) (bfD f)) t) := by
  obtain ⟨g, m, d⟩ := blt_ok c h
  obtain ⟨g2, m2, _⟩ := blt_ok c h2
  cases f with
  | sortedset => exact pe_callS2 (cs_sortU c.hK c.calm) g m PyProof.Rows.boot_sorted g2 m2 ha (by decide) d (star_cons hs)
  | lenset => exact pe_callS2 (cs_lenU c.hK c.calm) g m boot_len g2 m2 ha (by decide) d (star_cons hs)
  | _ => cases hf
theorem bm_call (c : Cok T Φ C N sc so k X) {m : BM} {o e : PySem.Expr} {es : List PySem.Expr} {apos cpos : Pos} (ho : attrOk o = true) (hl : (apos.endLine == cpos.line) = true) (hs : (e :: es).all noStar = true) (hn : decide (es.length < 29) = true) {r : V → List V → Hp → VK → Prop} {to : TE} {t : TA}
    (hm : MtR X ("str." ++ (match m with
    | .join => "join" | .count => "count" | .index => "index" | .upper => "upper" | .lower => "lower")) r) (po : PE X o to) (pa : PA X (e :: es) t) : PE X (.Call (.Attribute o (bmN m) apos) (e :: es) [] cpos) (tBM X.K "str" r to t) := by
  obtain ⟨h1, h2⟩ := Bool.and_eq_true_iff.mp (show (noStar e && es.all noStar) = true from hs)
  cases m with
  | join => exact pe_bm PySem.F.plainAttrs_str PySem.F.slot_str_join PySem.F.type_str_join hm po pa (attr_ok ho) (few_ok hs hn) hl (star_cons h1) (star_any h2)
  | count => exact pe_bm PySem.F.plainAttrs_str PySem.F.slot_str_count PySem.F.type_str_count hm po pa (attr_ok ho) (few_ok hs hn) hl (star_cons h1) (star_any h2)
  | index => exact pe_bm PySem.F.plainAttrs_str PySem.F.slot_str_index PySem.F.type_str_index hm po pa (attr_ok ho) (few_ok hs hn) hl (star_cons h1) (star_any h2)
  | upper => exact pe_bm PySem.F.plainAttrs_str PySem.F.slot_str_upper PySem.F.type_str_upper hm po pa (attr_ok ho) (few_ok hs hn) hl (star_cons h1) (star_any h2)
  | lower => exact pe_bm PySem.F.plainAttrs_str PySem.F.slot_str_lower PySem.F.type_str_lower hm po pa (attr_ok ho) (few_ok hs hn) hl (star_cons h1) (star_any h2)
theorem bm_call0 (c : Cok T Φ C N sc so k X) {m : BM} {o : PySem.Expr} {apos cpos : Pos} (ho : attrOk o = true) (hl : (apos.endLine == cpos.line) = true) {r : V → List V → Hp → VK → Prop} {to : TE}
    (hm : MtR X ("str." ++ (match m with
    | .join => "join" | .count => "count" | .index => "index" | .upper => "upper" | .lower => "lower")) r) (po : PE X o to) : PE X (.Call (.Attribute o (bmN m) apos) [] [] cpos) (tBM0 X.K "str" r to) := by
  cases m with
  | join => exact pe_bm0 PySem.F.plainAttrs_str PySem.F.slot_str_join PySem.F.type_str_join hm po (attr_ok ho) hl
  | count => exact pe_bm0 PySem.F.plainAttrs_str PySem.F.slot_str_count PySem.F.type_str_count hm po (attr_ok ho) hl
  | index => exact pe_bm0 PySem.F.plainAttrs_str PySem.F.slot_str_index PySem.F.type_str_index hm po (attr_ok ho) hl
  | upper => exact pe_bm0 PySem.F.plainAttrs_str PySem.F.slot_str_upper PySem.F.type_str_upper hm po (attr_ok ho) hl
  | lower => exact pe_bm0 PySem.F.plainAttrs_str PySem.F.slot_str_lower PySem.F.type_str_lower hm po (attr_ok ho) hl
theorem mu_call (c : Cok T Φ C N sc so k X) {m : MM} {o e : PySem.Expr} {es : List PySem.Expr} {apos cpos : Pos} (ho : attrOk o = true) (hl : (apos.endLine == cpos.line) = true) (hs : (e :: es).all noStar = true) (hn : decide (es.length < 29) = true) {r : V → List V → Hp → VK → Prop} {to : TE} {t : TA}
    (hm : MtM X ("list." ++ (match m with
    | .append => "append" | .pop => "pop" | .popat => "pop" | .extend => "extend")) r) (po : PE X o to) (pa : PA X (e :: es) t) : PE X (.Call (.Attribute o (mmN m) apos) (e :: es) [] cpos) (tBM X.K "list" r to t) := by
  obtain ⟨h1, h2⟩ := Bool.and_eq_true_iff.mp (show (noStar e && es.all noStar) = true from hs)
  cases m with
  | append => exact pe_bm PySem.F.plainAttrs_list PySem.F.slot_list_append PySem.F.type_list_append hm po pa (attr_ok ho) (few_ok hs hn) hl (star_cons h1) (star_any h2)
  | pop => exact pe_bm PySem.F.plainAttrs_list PySem.F.slot_list_pop PySem.F.type_list_pop hm po pa (attr_ok ho) (few_ok hs hn) hl (star_cons h1) (star_any h2)
  | popat => exact pe_bm PySem.F.plainAttrs_list PySem.F.slot_list_pop PySem.F.type_list_pop hm po pa (attr_ok ho) (few_ok hs hn) hl (star_cons h1) (star_any h2)
  | extend => exact pe_bm PySem.F.plainAttrs_list PySem.F.slot_list_extend PySem.F.type_list_extend hm po pa (attr_ok ho) (few_ok hs hn) hl (star_cons h1) (star_any h2)
theorem mu_call0 (c : Cok T Φ C N sc so k X) {m : MM} {o : PySem.Expr} {apos cpos : Pos} (ho : attrOk o = true) (hl : (apos.endLine == cpos.line) = true) {r : V → List V → Hp → VK → Prop} {to : TE}
    (hm : MtM X ("list." ++ (match m with
    | .append => "append" | .pop => "pop" | .popat => "pop" | .extend => "extend")) r) (po : PE X o to) : PE X (.Call (.Attribute o (mmN m) apos) [] [] cpos) (tBM0 X.K "list" r to) := by
  cases m with
  | append => exact pe_bm0 PySem.F.plainAttrs_list PySem.F.slot_list_append PySem.F.type_list_append hm po (attr_ok ho) hl
  | pop => exact pe_bm0 PySem.F.plainAttrs_list PySem.F.slot_list_pop PySem.F.type_list_pop hm po (attr_ok ho) hl
  | popat => exact pe_bm0 PySem.F.plainAttrs_list PySem.F.slot_list_pop PySem.F.type_list_pop hm po (attr_ok ho) hl
  | extend => exact pe_bm0 PySem.F.plainAttrs_list PySem.F.slot_list_extend PySem.F.type_list_extend hm po (attr_ok ho) hl
end
end TI
set_option Elab.async false
set_option linter.all false
set_option maxRecDepth 100000
set_option maxHeartbeats 4000000
namespace TI
open PySem PySem.Spec L2
section
variable {T : Tab} {Φ : Fns} {C : Cfg} {N : List Str} {sc so : PySem.Scope} {k : Nat} {X : Cx} {pos : Pos}
theorem se_dk0 : PE X (.Dict [] [] pos) (tE C true fun e => (R.ok ([] : List AV) e).bind fun l e => R.of ((valsL l).bind fun ds => (dkOf ds).bind fun ps => if ps.length ≤ 15 then some (.dk (putAll [] ps)) else none) e) :=
  pe_imp (by
    rintro σ H Q ⟨G, e, g, h⟩
    exact (OpQ.fin (fr := true) (fl := true) (d := .dk []) g (fun _ => rfl) h).new_dk (by simp only [DenK])) pe_dnewK
theorem se_dt0 : PE X (.Dict [] [] pos) (tE C true fun e => (R.ok ([] : List AV) e).bind fun l e => R.of ((valsL l).bind fun ds => (dtOf ds).bind fun ps => if ps.length ≤ 15 then some (.dt (putAll [] ps)) else none) e) :=
  pe_imp (by
    rintro σ H Q ⟨G, e, g, h⟩
    exact (OpQ.fin (fr := true) (fl := true) (d := .dt []) g (fun _ => rfl) h).new_dt (by simp only [DenT])) pe_dnewT
theorem se_call0 {f : Nat} {ex : PySem.Expr} (p : PE X ex (tCallS (spF C.W Φ f) (WE C.Z) tNil)) : PE X ex (tE C (Φ.fresh f) fun e => (R.ok [] e).bind fun l e => callR Φ f l e) :=
  pe_imp (by
    rintro σ H Q ⟨G, e, g, h⟩
    exact call_core g (show AvL C.W σ G [] [] from rfl) h) p
theorem se_bm0 {m : BM} {a ex : PySem.Expr} {ra : Env → R AV} (p : ∀ {r : V → List V → Hp → VK → Prop} {to : TE}, MtR X ("str." ++ (match m with
    | .join => "join" | .count => "count" | .index => "index" | .upper => "upper" | .lower => "lower")) r → PE X a to → PE X ex (tBM0 X.K "str" r to)) (pa : PE X a (tA C ra)) :
    PE X ex (tE C false fun e => (ra e).bind fun x e => (R.of (strOf x) e).bind fun p e => (R.ok [] e).bind fun l e => R.of ((resL e l).bind (bmD m (.str p))) e) :=
  pe_imp (by
    rintro σ H Q ⟨G, e, g, h⟩
    refine ⟨G, e, g, Go.bind back_v h fun x e1 u H1 G1 g1 s1 p1 h1 => ?_⟩
    obtain ⟨z, h2, h3⟩ := Go.of_bind h1
    cases strOf_eq h2
    have p1 : Den C.W G1 (.str z) u := p1
    simp only [Den] at p1
    subst p1
    obtain ⟨d, h5, h6⟩ := Go.of_some h3
    obtain ⟨ds, h7, h8⟩ := Option.bind_eq_some_iff.mp h5
    exact ⟨rfl, G1, .str z, ds, d, g1.sub, Den.top g1.sub (den_str z), AvL.top g1 (show AvL C.W σ G1 [] [] from rfl) h7, h8, OpQ.fin (fr := false) (fl := false) g1 (fun z => z) h6⟩) (p (bm_ok (W := C.W) m []) pa)
def Ok (Φ : Fns) (C : Cfg) (X : Cx) (T : Tab) (t : Bool) (x : E) (ex : PySem.Expr) : Prop := match t with
  | true => PT X ex (tT C (rT (evE Φ x)))
  | false => PE X ex (tE C (frS T x) (evE Φ x))
theorem pw_of_pt {op : BoolOp} {vs : List PySem.Expr} {t : TT} (p : PT X (.BoolOp op vs pos) t) : PW X (.BoolOp op vs pos) t := ⟨fun wh pins s σ H Q I h => p.run pins s σ H Q I h⟩
theorem Ok.of (c : Cok T Φ C N sc so k X) {t : Bool} {x : E} {ex : PySem.Expr} (p : PE X ex (tE C (frS T x) (evE Φ x))) (h : t = true → plainTest ex = true) : Ok Φ C X T t x ex := by
  cases t with
  | false => exact p
  | true => exact st_val c.hK p (h rfl)
theorem tE_fr {fr fr' : Bool} {r : Env → R D} {ex : PySem.Expr} (p : PE X ex (tE C fr r)) (h : fr = fr') : PE X ex (tE C fr' r) := h ▸ p
theorem ask_ok (c : Cok T Φ C N sc so k X) {t : Ty} {ex : PySem.Expr} (h : tyB T sc Φ.ncls t ex = true) : PE X ex (tC (askV C.W t)) ∧ KitF C.W Φ t := by
  unfold tyB at h
  split at h
  · rename_i x p
    simp only [Bool.and_eq_true, decide_eq_true_eq] at h
    obtain ⟨⟨⟨h1, h2⟩, h3⟩, h4⟩ := h
    subst h1
    refine ⟨?_, c.mod.kit t h3⟩
    obtain ⟨g, d⟩ := gl_ok c h2
    cases t with
    | cls n =>
      obtain ⟨_, m⟩ := c.mod.cls n (of_decide_eq_true h4)
      exact pe_glob g m rfl d
    | int => exact pe_bltn g (c.mod.blt _ (of_decide_eq_true h4)) PyProof.Rows.boot_int rfl (show ("int" : Str) ≠ "__name__" by decide) d
    | bool => exact pe_bltn g (c.mod.blt _ (of_decide_eq_true h4)) PyProof.Rows.boot_bool rfl (show ("bool" : Str) ≠ "__name__" by decide) d
    | str => exact pe_bltn g (c.mod.blt _ (of_decide_eq_true h4)) PyProof.Rows.boot_str rfl (show ("str" : Str) ≠ "__name__" by decide) d
    | tuple => exact pe_bltn g (c.mod.blt _ (of_decide_eq_true h4)) PyProof.Rows.boot_tuple rfl (show ("tuple" : Str) ≠ "__name__" by decide) d
    | list => exact pe_bltn g (c.mod.blt _ (of_decide_eq_true h4)) PyProof.Rows.boot_list rfl (show ("list" : Str) ≠ "__name__" by decide) d
    | dict => exact pe_bltn g (c.mod.blt _ (of_decide_eq_true h4)) PyProof.Rows.boot_dict rfl (show ("dict" : Str) ≠ "__name__" by decide) d
  · cases h
theorem tyB_star {t : Ty} {n : Nat} {ex : PySem.Expr} (h : tyB T sc n t ex = true) : noStar ex = true := by
  unfold tyB at h
  split at h
  · rfl
  · cases h
theorem asks_ok (c : Cok T Φ C N sc so k X) : ∀ (ts : List Ty) (es : List PySem.Expr), tysB T sc Φ.ncls ts es = true → PA X es (tAsk C.W ts) ∧ ∀ t ∈ ts, KitF C.W Φ t
  | [], [], _ => ⟨pa_ask_nil, fun _ h => by cases h⟩
  | [], _ :: _, h => by cases h
  | _ :: _, [], h => by cases h
  | t :: ts, x :: xs, h => by
    obtain ⟨h1, h2⟩ := Bool.and_eq_true_iff.mp (show (tyB T sc Φ.ncls t x && tysB T sc Φ.ncls ts xs) = true from h)
    obtain ⟨p, q⟩ := ask_ok c h1
    obtain ⟨ps, qs⟩ := asks_ok c ts xs h2
    exact ⟨pa_ask_cons p ps (star_cons (tyB_star h1)), fun t' h' => by
      rcases List.mem_cons.mp h' with z | z
      · subst z; exact q
      · exact qs t' z⟩
theorem isi_call (c : Cok T Φ C N sc so k X) {x ty : PySem.Expr} {p pos : Pos} (h : bltB T sc ("isinstance" : Str) = true) (h1 : noStar x = true) (h2 : noStar ty = true) {r : List V → Hp → VK → Prop} {ta tb : TE} (hc : CallR X (.builtin "isinstance") r) (pa : PE X x ta) (pb : PE X ty tb) :
    PE X (.Call (.Name "isinstance" p) [x, ty] [] pos) (tCB r (tCons ta (tCons tb tNil))) := by
  obtain ⟨g, m, d⟩ := blt_ok c h
  exact pe_callB hc g m PyProof.Rows.boot_isinstance (pa_cons pa (pa_cons pb pa_nil (star_cons h2)) (star_cons h1)) (by decide) d (star_cons h1) (star_any (by simp [h2]))
theorem own_ids {N : List Str} (own : List Nat) : (ownN N own).map (·.2) = own := by
  unfold ownN
  rw [List.map_map]
  exact List.map_id own
theorem sub_ok {l own : List Nat} (h : subB l own = true) : ∀ j ∈ l, j ∈ own := fun j hj => by
  have := List.all_eq_true.mp h j hj
  exact List.contains_iff_mem.mp this
theorem yes_ok {c : E} (h : isYes c = true) : c = .lit (.bl true) := by
  unfold isYes at h
  split at h
  · rfl
  · cases h
theorem sts_nil {C : Cfg} {Y : Cx} : PTs Y [] (tT C (rT (evE Φ (.lit (.bl true))))) := ⟨fun pins s σ H Q I h => pts_nil.run pins s σ H Q I (by
  obtain ⟨G, e, g, h⟩ := h
  have h : Go C (pT σ) (.ok true e) σ H G e Q := by simpa only [rT, evE, Lit.d, R.bind_ok, tru, R.of_some] using h
  exact h _ _ _ g Stp.refl rfl)⟩
end
mutual
theorem ok_E {T : Tab} {Φ : Fns} {N : List Str} {k : Nat} : ∀ (x : E) (t : Bool) (ex : PySem.Expr) {C : Cfg} {sc so : PySem.Scope} {X : Cx}, Cok T Φ C N sc so k X → chkE T Φ.ncls N k sc so t x ex = true → Ok Φ C X T t x ex
  | .lit l, t, ex, C, sc, so, X, c, h => by
    unfold chkE at h
    refine Ok.of c ?_ fun _ => ?_
    · cases l with
      | non =>
        dsimp only at h
        split at h
        · exact se_val pe_non rfl fun _ => den_non
        · cases h
      | bl b =>
        dsimp only at h
        split at h
        · cases eq_of_beq h
          exact se_val pe_bl rfl fun _ => den_bl _
        · cases h
      | int i =>
        dsimp only at h
        split at h
        · cases of_decide_eq_true h
          exact se_val pe_int rfl fun _ => den_int _
        · cases h
      | str x =>
        dsimp only at h
        split at h
        · cases of_decide_eq_true h
          exact se_val pe_str rfl fun _ => den_str _
        · cases h
    · cases l <;> (dsimp only at h; split at h <;> first | rfl | cases h)
  | .var i, t, ex, C, sc, so, X, c, h => by
    unfold chkE at h
    split at h
    · exact Ok.of c (se_var (name_ok c h)) fun _ => rfl
    · cases h
  | .frz i, t, ex, C, sc, so, X, c, h => by
    unfold chkE at h
    split at h
    · exact Ok.of c (se_frz (name_ok c h)) fun _ => rfl
    · cases h
  | .mv i, t, ex, C, sc, so, X, c, h => by
    unfold chkE at h
    split at h
    · exact Ok.of c (se_mv (name_ok c h)) fun _ => rfl
    · cases h
  | .glob g, t, ex, C, sc, so, X, c, h => by
    unfold chkE at h
    split at h
    · rename_i x p
      obtain ⟨h1, h2⟩ := Bool.and_eq_true_iff.mp h
      cases of_decide_eq_true h1
      obtain ⟨gl, d⟩ := gl_ok c h2
      refine Ok.of c ?_ fun _ => rfl
      cases q : Φ.glob g with
      | none =>
        refine pe_imp (t := fun _ _ _ => False) (fun σ H Q ⟨G, e, g', h'⟩ => ?_) ⟨fun _ _ _ _ _ _ z => z.elim⟩
        simp only [evE, q, R.of_none] at h'
        exact h'
      | some dd =>
        obtain ⟨hb, v, u, hm, hr, hd⟩ := c.mod.globs g dd q
        have e1 : evE Φ (.glob g) = fun e => .ok dd e := by funext e; simp only [evE, q, R.of_some]
        rw [e1]
        exact se_val (pe_glob gl hm hr d) hb hd
    · cases h
  | .bin o a b, t, ex, C, sc, so, X, c, h => by
    unfold chkE at h
    split at h
    · simp only [Bool.and_eq_true] at h
      obtain ⟨⟨h1, h2⟩, h3⟩ := h
      cases of_decide_eq_true h1
      exact Ok.of c (se_bin c.hK (ok_A a _ c h2) (ok_A b _ c h3)) fun _ => rfl
    · cases h
  | .neg a, t, ex, C, sc, so, X, c, h => by
    unfold chkE at h
    split at h
    · exact Ok.of c (se_neg (ok_E a false _ c h)) fun _ => rfl
    · cases h
  | .cmp o a b, t, ex, C, sc, so, X, c, h => by
    unfold chkE at h
    split at h
    · simp only [Bool.and_eq_true] at h
      obtain ⟨⟨⟨h1, h2⟩, h3⟩, h4⟩ := h
      cases of_decide_eq_true h1
      cases t with
      | false => exact se_cmp c.hK c.units (ok_A a _ c h2) (ok_A b _ c h3) (behind_no h4)
      | true => exact st_cmp c.hK c.units (ok_A a _ c h2) (ok_A b _ c h3) (behind_no h4)
    · cases h
  | .chain o1 o2 a b d, t, ex, C, sc, so, X, c, h => by
    unfold chkE at h
    split at h
    · simp only [Bool.and_eq_true] at h
      obtain ⟨⟨⟨⟨⟨h1, h2⟩, h3⟩, h4⟩, h5⟩, h6⟩ := h
      cases of_decide_eq_true h1
      cases of_decide_eq_true h2
      cases t with
      | false => exact se_chain c.hK c.units (ok_A a _ c h3) (ok_A b _ c h4) (ok_A d _ c h5) (behind_no h6)
      | true => exact st_chain c.hK c.units (ok_A a _ c h3) (ok_A b _ c h4) (ok_A d _ c h5) (behind_no h6)
    · cases h
  | .and_ a b, t, ex, C, sc, so, X, c, h => by
    unfold chkE at h
    split at h
    · rename_i x y rest pos
      obtain ⟨h1, h2⟩ := Bool.and_eq_true_iff.mp h
      cases t with
      | false =>
        refine se_and c.hK (ok_E a false x c h1) (fb := frS T b) ?_
        cases rest with
        | nil => exact pe_one (ok_E b false y c h2)
        | cons z zs => exact ok_E b false _ c h2
      | true =>
        refine (sw_and (ok_E a true x c h1) ?_).pt
        cases rest with
        | nil => exact sw_and1 (ok_E b true y c h2)
        | cons z zs => exact pw_of_pt (ok_E b true _ c h2)
    · cases h
  | .or_ a b, t, ex, C, sc, so, X, c, h => by
    unfold chkE at h
    split at h
    · rename_i x y rest pos
      obtain ⟨h1, h2⟩ := Bool.and_eq_true_iff.mp h
      cases t with
      | false =>
        refine se_or c.hK (ok_E a false x c h1) (fb := frS T b) ?_
        cases rest with
        | nil => exact pe_one (ok_E b false y c h2)
        | cons z zs => exact ok_E b false _ c h2
      | true =>
        refine (sw_or (ok_E a true x c h1) ?_).pt
        cases rest with
        | nil => exact sw_or1 (ok_E b true y c h2)
        | cons z zs => exact pw_of_pt (ok_E b true _ c h2)
    · cases h
  | .not_ a, t, ex, C, sc, so, X, c, h => by
    unfold chkE at h
    split at h
    · cases t with
      | false => exact se_not c.hK (ok_E a false _ c h)
      | true => exact st_not (ok_E a true _ c h)
    · cases h
  | .ite d a b, t, ex, C, sc, so, X, c, h => by
    unfold chkE at h
    split at h
    · simp only [Bool.and_eq_true, Bool.not_eq_true'] at h
      obtain ⟨⟨⟨h1, h2⟩, h3⟩, h4⟩ := h
      subst h1
      exact se_ite (ok_E d true _ c h2) (ok_E a false _ c h3) (ok_E b false _ c h4)
    · cases h
  | .tup es, t, ex, C, sc, so, X, c, h => by
    unfold chkE at h
    split at h
    · exact Ok.of c (se_tup (ok_As es _ c h)) fun _ => rfl
    · cases h
  | .lst es, t, ex, C, sc, so, X, c, h => by
    unfold chkE at h
    split at h
    · exact Ok.of c (se_lst (ok_As es _ c h)) fun _ => rfl
    · cases h
  | .dk es, t, ex, C, sc, so, X, c, h => by
    unfold chkE at h
    split at h
    · cases es with
      | nil => exact Ok.of c se_dk0 fun _ => rfl
      | cons _ _ => cases h
    · cases h
  | .dt es, t, ex, C, sc, so, X, c, h => by
    unfold chkE at h
    split at h
    · cases es with
      | nil => exact Ok.of c se_dt0 fun _ => rfl
      | cons _ _ => cases h
    · cases h
  | .idx a b, t, ex, C, sc, so, X, c, h => by
    unfold chkE at h
    split at h
    · simp only [Bool.and_eq_true] at h
      obtain ⟨⟨h1, h2⟩, h3⟩ := h
      exact Ok.of c (se_idx c.hK c.units (ok_A a _ c h1) (ok_A b _ c h2) (plain_ix h3)) fun _ => rfl
    · cases h
  | .slc a lo hi, t, ex, C, sc, so, X, c, h => by
    unfold chkE at h
    split at h
    · simp only [Bool.and_eq_true] at h
      obtain ⟨⟨h1, h2⟩, h3⟩ := h
      exact Ok.of c (se_slc c.hK (ok_A a _ c h1) (ok_B lo _ c h2) (ok_B hi _ c h3)) fun _ => rfl
    · cases h
  | .rev a, t, ex, C, sc, so, X, c, h => by
    unfold chkE at h
    split at h
    · exact Ok.of c (se_rev (ok_A a _ c h)) fun _ => rfl
    · cases h
  | .isi a ts, t, ex, C, sc, so, X, c, h => by
    unfold chkE at h
    split at h
    · rename_i f p x ty pos
      simp only [Bool.and_eq_true] at h
      obtain ⟨⟨⟨⟨⟨h1, h2⟩, h3⟩, h4⟩, h5⟩, h6⟩ := h
      cases of_decide_eq_true h1
      refine Ok.of c ?_ fun _ => rfl
      have hc := fun n hn => (c.mod.cls n hn).1
      have single : ∀ s, tyB T sc Φ.ncls s ty = true → PE X (.Call (.Name "isinstance" p) [x, ty] [] pos) (tE C true (evE Φ (.isi a [s]))) := fun s hs => by
        obtain ⟨q1, q2⟩ := ask_ok c hs
        exact se_isi1 c.hK hc q2 (fun hcr pa pb => isi_call c h2 h4 h5 hcr pa pb) (ok_A a _ c h3) q1
      split at h6
      · rename_i ns x1 tpos
        obtain ⟨q1, q2⟩ := Bool.and_eq_true_iff.mp h6
        obtain ⟨q3, q4⟩ := asks_ok c ts ns q1
        exact se_isiT c.hK hc q4 (of_decide_eq_true q2) (fun hcr pa pb => isi_call c h2 h4 h5 hcr pa pb) (ok_A a _ c h3) q3
      · split at h6
        · exact single _ h6
        · cases h6
    · cases h
  | .dget _ _ _, t, ex, C, sc, so, X, c, h => by
    unfold chkE at h
    cases h
  | .bf f as, t, ex, C, sc, so, X, c, h => by
    unfold chkE at h
    split at h
    · rename_i hf
      split at h
      · rename_i n p m p2 x q pos
        simp only [Bool.and_eq_true] at h
        obtain ⟨⟨⟨⟨⟨h1, h2⟩, h3⟩, h4⟩, h5⟩, h6⟩ := h
        cases of_decide_eq_true h1
        cases of_decide_eq_true h2
        exact Ok.of c (se_bfR (set_call c hf h3 h4 h5 (ok_As as _ c h6))) fun _ => rfl
      · cases h
    · rename_i hf
      split at h
      · rename_i n p x xs pos
        simp only [Bool.and_eq_true] at h
        obtain ⟨⟨⟨⟨h1, h2⟩, h3⟩, h4⟩, h5⟩ := h
        cases of_decide_eq_true h1
        exact Ok.of c (se_bf c.hK c.calm c.guards c.units (by simpa using hf) (fun hcr pa => bf_call c h2 h3 (by simpa using h4) hcr pa) (ok_As as _ c h5)) fun _ => rfl
      · cases h
  | .bm m r as, t, ex, C, sc, so, X, c, h => by
    unfold chkE at h
    split at h
    · rename_i o n apos xs cpos
      simp only [Bool.and_eq_true] at h
      obtain ⟨⟨⟨⟨⟨⟨h1, h2⟩, h3⟩, h4⟩, h5⟩, h6⟩, h7⟩ := h
      cases of_decide_eq_true h1
      refine Ok.of c ?_ fun _ => rfl
      cases xs with
      | nil =>
        cases as with
        | nil => exact se_bm0 (fun hm po => bm_call0 c h3 h2 hm po) (ok_A r _ c h6)
        | cons _ _ => simp [chkAs] at h7
      | cons x xs =>
        exact se_bm (fun hm po pa => bm_call c h3 h2 h4 (decide_eq_true (by have := of_decide_eq_true h5; simp at this; omega)) hm po pa) (ok_A r _ c h6) (ok_As as _ c h7)
    · cases h
  | .mu m i as, t, ex, C, sc, so, X, c, h => by
    unfold chkE at h
    split at h
    · rename_i v vp n apos xs cpos
      simp only [Bool.and_eq_true] at h
      obtain ⟨⟨⟨⟨⟨h1, h2⟩, h4⟩, h5⟩, h6⟩, h7⟩ := h
      cases of_decide_eq_true h1
      refine Ok.of c ?_ fun _ => rfl
      cases xs with
      | nil =>
        cases as with
        | nil => exact se_mu0 (fun hm po => mu_call0 c rfl h2 hm po) (name_ok c h6)
        | cons _ _ => simp [chkAs] at h7
      | cons x xs =>
        exact se_mu (fun hm po pa => mu_call c rfl h2 h4 (decide_eq_true (by have := of_decide_eq_true h5; simp at this; omega)) hm po pa) (name_ok c h6) (ok_As as _ c h7)
    · cases h
  | .call f as, t, ex, C, sc, so, X, c, h => by
    unfold chkE at h
    split at h
    · rename_i n p xs pos
      simp only [Bool.and_eq_true] at h
      obtain ⟨⟨⟨⟨h1, h2⟩, h3⟩, h4⟩, h5⟩ := h
      cases of_decide_eq_true h1
      obtain ⟨gl, d⟩ := gl_ok c h2
      have hlt := of_decide_eq_true h3
      obtain ⟨fa, fd, ps, m1, m2, m3, m4⟩ := c.mod.fns f hlt
      rw [c.hK] at m2 m3 m4
      refine Ok.of c (tE_fr ?_ (c.mod.fresh f).symm) fun _ => rfl
      have hroom := c.room.mono hlt
      cases xs with
      | nil =>
        cases as with
        | nil => exact se_call0 (pe_callG0 m3 hroom c.guards gl m1 m2 m4 (fun σ => passAt c.tk σ) d)
        | cons _ _ => simp [chkAs] at h5
      | cons x xs =>
        obtain ⟨q1, q2⟩ := Bool.and_eq_true_iff.mp (show (noStar x && xs.all noStar) = true from h4)
        exact se_call (fun pa => pe_callG m3 hroom c.guards gl m1 m2 m4 (fun σ => passAt c.tk σ) pa d (star_cons q1) (star_any q2)) (ok_As as _ c h5)
    · cases h
  | .make _ _, t, ex, C, sc, so, X, c, h => by
    unfold chkE at h
    cases h
  | .fld _ _ _, t, ex, C, sc, so, X, c, h => by
    unfold chkE at h
    cases h
  | .comp elt (.mk tg it cd) own, t, ex, C, sc, so, X, c, h => by
    unfold chkE at h
    split at h
    · rename_i el tx ix ifs isa scope pos
      simp only [Bool.and_eq_true] at h
      obtain ⟨⟨⟨⟨⟨⟨⟨h1, h2⟩, h3⟩, h4⟩, h5⟩, h6⟩, h7⟩, h8⟩ := h
      cases of_decide_eq_true h1
      refine Ok.of c ?_ fun _ => rfl
      have lc := pe_lc (pos := pos) c.calm c.nd (ok_It it tx ix c h4) (blkOk_by (own := ownN N own) (by rw [c.hN, c.hsc]; exact h2))
        (fun s H cc cl fp => tg_ok (c.blk scope s H cc cl fp) tg tx h5)
        (ht := fun s H cc cl fp => (show PTs (X.blk s H scope (compEnvC scope cl cc X.env) fp) ifs (tT C.nox (rT (evE Φ cd))) from ?_))
        (fun s H cc cl fp => ok_E elt false el (c.blk scope s H cc cl fp) h8) (fold_no h3)
      · rw [own_ids] at lc
        exact pe_imp (lc_imp (sub_ok h6)) lc
      · split at h7
        · cases yes_ok h7
          exact sts_nil
        · exact pts_one (ok_E cd true _ (c.blk scope s H cc cl fp) h7)
        · cases h7
    · cases h
  | .comp2 _ _ _ _ _, t, ex, C, sc, so, X, c, h => by
    unfold chkE at h
    cases h
  | .dcomp _ _ _ _, t, ex, C, sc, so, X, c, h => by
    unfold chkE at h
    cases h
theorem ok_A {T : Tab} {Φ : Fns} {N : List Str} {k : Nat} : ∀ (a : A) (ex : PySem.Expr) {C : Cfg} {sc so : PySem.Scope} {X : Cx}, Cok T Φ C N sc so k X → chkA T Φ.ncls N k sc so a ex = true → PE X ex (tA C (evA Φ a))
  | .e x, ex, C, sc, so, X, c, h => sa_e (ok_E x false ex c (by unfold chkA at h; exact h))
  | .o i, ex, C, sc, so, X, c, h => by
    unfold chkA at h
    split at h
    · exact sa_o (name_ok c h)
    · cases h
theorem ok_As {T : Tab} {Φ : Fns} {N : List Str} {k : Nat} : ∀ (as : As) (es : List PySem.Expr) {C : Cfg} {sc so : PySem.Scope} {X : Cx}, Cok T Φ C N sc so k X → chkAs T Φ.ncls N k sc so as es = true → PA X es (tAs C (evAs Φ as))
  | .nil, es, C, sc, so, X, c, h => by
    unfold chkAs at h
    cases es with
    | nil => exact sas_nil
    | cons _ _ => cases h
  | .cons a as, es, C, sc, so, X, c, h => by
    unfold chkAs at h
    cases es with
    | nil => cases h
    | cons x xs =>
      simp only [Bool.and_eq_true] at h
      obtain ⟨⟨h1, h2⟩, h3⟩ := h
      exact sas_cons (ok_A a x c h2) (ok_As as xs c h3) (star_cons h1)
theorem ok_B {T : Tab} {Φ : Fns} {N : List Str} {k : Nat} : ∀ (as : As) (o : Option PySem.Expr) {C : Cfg} {sc so : PySem.Scope} {X : Cx}, Cok T Φ C N sc so k X → chkB T Φ.ncls N k sc so as o = true → PO X o (tO C (evB Φ as))
  | .nil, o, C, sc, so, X, c, h => by
    unfold chkB at h
    cases o with
    | none => exact so_none
    | some _ => cases h
  | .cons a .nil, o, C, sc, so, X, c, h => by
    unfold chkB at h
    cases o with
    | none => cases h
    | some x => exact so_some (ok_A a x c h)
  | .cons _ (.cons _ _), o, C, sc, so, X, c, h => by
    unfold chkB at h
    cases h
theorem ok_It {T : Tab} {Φ : Fns} {N : List Str} {k : Nat} : ∀ (it : It) (tg ex : PySem.Expr) {C : Cfg} {sc so : PySem.Scope} {X : Cx}, Cok T Φ C N sc so k X → chkIt T Φ.ncls N k sc so it tg ex = true → PI X tg ex (tI C (evIt Φ it))
  | .seq a, tg, ex, C, sc, so, X, c, h => si_seq c.hK (ok_E a false ex c (by unfold chkIt at h; exact h))
  | .rng1 a, tg, ex, C, sc, so, X, c, h => by
    unfold chkIt at h
    split at h
    · simp only [Bool.and_eq_true] at h
      obtain ⟨⟨⟨h1, h2⟩, h3⟩, h4⟩ := h
      cases of_decide_eq_true h1
      obtain ⟨g, m, d⟩ := blt_ok c h2
      exact si_range1 (fun pa => pi_range1 g m pa (star_cons h3)) (sas_cons (ok_A a _ c h4) sas_nil (star_cons h3)) rfl
    · cases h
  | .rng2 a b, tg, ex, C, sc, so, X, c, h => by
    unfold chkIt at h
    split at h
    · simp only [Bool.and_eq_true] at h
      obtain ⟨⟨⟨⟨⟨h1, h2⟩, h3⟩, h4⟩, h5⟩, h6⟩ := h
      cases of_decide_eq_true h1
      obtain ⟨g, m, d⟩ := blt_ok c h2
      exact si_range2 (fun pa => pi_range2 g m pa (by rw [star_cons h3, star_cons h4]; rfl) (star_cons h4)) (sas_cons (ok_A a _ c h5) (sas_cons (ok_A b _ c h6) sas_nil (star_cons h4)) (star_cons h3))
    · cases h
  | .enum _, tg, ex, C, sc, so, X, c, h => by
    unfold chkIt at h
    cases h
  | .zip a b, tg, ex, C, sc, so, X, c, h => by
    unfold chkIt at h
    split at h
    · split at h
      · simp only [Bool.and_eq_true] at h
        obtain ⟨⟨⟨⟨⟨h1, h2⟩, h3⟩, h4⟩, h5⟩, h6⟩ := h
        cases of_decide_eq_true h1
        obtain ⟨g, m, d⟩ := blt_ok c h2
        exact si_zip c.hK (fun pa => pi_zipS g m pa (star_cons h3) (star_any (by simp [h4]))) (fun pa pb => pa_cons pa (pa_cons pb pa_nil (star_cons h4)) (star_cons h3)) (ok_A a _ c h5) (ok_A b _ c h6)
      · cases h
    · cases h
  | .items _, tg, ex, C, sc, so, X, c, h => by
    unfold chkIt at h
    cases h
end
end TI
set_option Elab.async false
set_option linter.all false
set_option maxRecDepth 100000
set_option maxHeartbeats 4000000
namespace TI
open PySem PySem.Spec L2
theorem PSet.or {X : Cx} {t t' : TSet} (h : PSet X t) (h' : PSet X t') : PSet X fun o i v H Q => t o i v H Q ∨ t' o i v H Q := by
  intro pins s σ H o i v ov iv u Q I ro ri rv q
  rcases q with q | q
  · exact h pins s σ H o i v ov iv u Q I ro ri rv q
  · exact h' pins s σ H o i v ov iv u Q I ro ri rv q
section
variable {C : Cfg} {X : Cx} {a b c : PySem.Expr} {pos : Pos} {fr : Bool}
theorem ownAt_eq {e : Env} {i : Nat} (h : ownAt e i = true) : ∃ d, e[i]? = some (.own d) := by
  unfold ownAt at h
  split at h
  · rename_i l hl; exact ⟨l, hl⟩
  · cases h
theorem set_core {W : Wd} {π : Nat → Option Addr} {σ : L2.St} {H G : Hp} {e : Env} (g : Gd W π σ H G e) {i : Nat} {p : Addr} {t y d t' : D} {yv dv : V} (he : e[i]? = some (.own t)) (hσ : σ[i]? = some (some (.ref p))) (ty : Top W H G y yv) (hd : Den W G d dv) (h : subD t y d = some t')
    {Q : Hp → Prop} (hQ : ∀ H', Gd W π σ H' G (e.set i (.own t')) → Stp σ H G e σ H' G (e.set i (.own t')) → Q H') : rSetL (.ref p) yv dv H Q ∨ rSetD (.ref p) yv dv H Q := by
  obtain ⟨p', h1, gp, ho⟩ := g.own i t he
  rw [hσ] at h1; cases h1
  cases t with
  | lst l =>
    obtain ⟨vs, hH, hl⟩ := ho
    cases y with
    | int j =>
      cases ty.int
      simp only [subD] at h
      split at h
      · rename_i hj
        cases h
        have hlen := hl.length
        refine .inl ⟨p, vs, j, j.toNat, rfl, rfl, hH, ?_, hQ _ (g.put he hσ ⟨_, upd_same, hl.set _ hd⟩) (Stp.put he hσ)⟩
        show (if (0 : Int) ≤ j then (if j < (vs.length : Int) then some j.toNat else none) else _) = some j.toNat
        rw [if_pos hj.1, if_pos (by omega)]
      · cases h
    | _ => cases h
  | dk l =>
    obtain ⟨kvs, hH, hl⟩ := ho
    simp only [subD, Option.bind_eq_some_iff] at h
    obtain ⟨k, h1, h2⟩ := h
    split at h2
    · rename_i hz
      cases h2
      have := kOf_top h1 ty
      subst this
      exact .inr ⟨p, _, rfl, DPut.k hH (by rw [DenK.length hl, ← lim_eq]; exact hz), hQ _ (g.put he hσ ⟨_, upd_same, putDK hl hd⟩) (Stp.put he hσ)⟩
    · cases h2
  | dt l =>
    obtain ⟨kvs, hH, hl⟩ := ho
    simp only [subD, Option.bind_eq_some_iff] at h
    obtain ⟨k, h1, h2⟩ := h
    split at h2
    · rename_i hz
      cases h2
      obtain ⟨b, rfl, hb⟩ := tOf_top g.sub h1 ty
      exact .inr ⟨p, _, rfl, DPut.t hH hb (by rw [DenT.length hl, ← lim_eq]; exact hz), hQ _ (g.put he hσ ⟨_, upd_same, putDT hl hd⟩) (Stp.put he hσ)⟩
    · cases h2
  | ins c fs => cases h
  | _ => exact ho.elim
theorem ss_sub (hu : X.A.units + 1 < cLine) {i : Nat} {x kx v : PySem.Expr} {p2 : Pos} {rk rv : Env → R AV} (px : PE X x (tVar i)) (pk : PE X kx (tA C rk)) (pv : PE X v (tA C rv)) (hv : ∀ e d e', rv e = .ok d e' → ∃ z, d = .v z) (hs : swapsWithSole [.Subscript x kx p2] v pos.line X.env = pure false) (hk : notSlice kx = true) :
    PS X (.Assign [.Subscript x kx p2] v pos) (tS C fr fun e => RS.of (rv e) fun d e => if ownAt e i then RS.of (rk e) fun y e => match e[i]?, res e y, res e d with
      | some (.own t), some y, some d => match subD t y d with
        | some t => .nx (e.set i (.own t))
        | none => .bad
      | _, _, _ => .bad
      else .bad) :=
  ps_imp (by
    rintro Dn σ H ⟨G, e, g, h⟩
    have key : ∀ d e1, rv e = .ok d e1 → ∃ z, d = .v z := fun d e1 q => hv e d e1 q
    refine ⟨G, e, g, ?_⟩
    dsimp only at h
    cases q : rv e with
    | bad => rw [q] at h; exact h
    | exc xx e' => rw [q] at h; exact fun cls dd H' G' xv g' s' => h cls dd σ H' G' xv g' s'
    | ok d e1 =>
      obtain ⟨z, rfl⟩ := key d e1 q
      rw [q] at h
      intro dv H1 G1 g1 s1 p1
      have h1 := Gs.later s1 h
      have h1 : Gs C fr (if ownAt e1 i then RS.of (rk e1) fun y e => match e[i]?, res e y, res e (.v z) with
        | some (.own t), some y, some d => match subD t y d with
          | some t => .nx (e.set i (.own t))
          | none => .bad
        | _, _, _ => .bad
        else .bad) σ H1 G1 e1 Dn := h1
      have p1 : Den C.W G1 z dv := p1
      cases qo : ownAt e1 i with
      | false => rw [qo] at h1; exact h1.elim
      | true =>
        rw [qo, if_pos rfl] at h1
        obtain ⟨t0, ht0⟩ := ownAt_eq qo
        obtain ⟨p, hp, _⟩ := g1.own i t0 ht0
        refine ⟨_, hp, G1, e1, g1, Gs.of h1 fun y e2 yv H2 G2 g2 s2 p2 h2 => ?_⟩
        skip
        split at h2
        · rename_i t y' d' he hy hd
          cases hd
          cases q2 : subD t y' z with
          | none => rw [q2] at h2; exact h2.elim
          | some t' =>
            rw [q2] at h2
            exact set_core g2 he hp (AvD.top g2 p2 hy) (Den.mono s2.g _ _ p1) q2 fun H' g' s' => h2 _ _ _ g' s'
        · exact h2.elim) (ps_asg pv (pg_sub px pk (PSet.or set_list (set_dict hu)) (by intro u; cases kx <;> first | rfl | cases hk)) hs (by cases v <;> rfl))
theorem ss_setG {i : Nat} {o : Bool} {f1 : Bool} {st : Stmt} {r : Env → R D} {te : TE} (p : PS X st (tAsg te (gName i))) (imp : ∀ σ H Q, tE C f1 r σ H Q → te σ H Q) (ho : o = true → C.π i = none ∧ f1 = true) :
    PS X st (tS C fr fun e => RS.of (r e) fun d e => if (!o || isBox d) then .nx (e.set i (mk o d)) else .bad) :=
  ps_imp (by
    rintro Dn σ H ⟨G, e, g, h⟩
    refine imp σ H _ ⟨G, e, g, Gs.of0 h fun d e1 v H1 G1 g1 s1 p1 h1 => ?_⟩
    split at h1
    · rename_i hb
      obtain ⟨G2, g2, s2, _⟩ := gd_take (i := i) (o := o) g1 s1 p1 fun z => ⟨(ho z).1, by rw [(ho z).2]; rw [z] at hb; simpa using hb⟩
      exact h1 _ _ _ g2 s2
    · exact h1.elim) p
end
def compSw (sc : PySem.Scope) (x : Str) (px : Pos) : PySem.Expr → Bool
  | .ListComp _ _ scope vpos => (match sc.kind with | .function => true | _ => false) && decide (sc.names.lookup x = some .local) && (px.line == vpos.line) && !(scope.names.any fun (n, k) => n == x && (k == .local || k == .cell))
  | _ => false
def compNo (sc : PySem.Scope) (x : Str) (px : Pos) : PySem.Expr → Bool
  | .ListComp _ _ scope vpos => !(decide (sc.names.lookup x = some .local)) || !(px.line == vpos.line) || (scope.names.any fun (n, k) => n == x && (k == .local || k == .cell))
  | _ => false
theorem compNo_ok {env : PySem.Env} {x : Str} {px : Pos} {v : PySem.Expr} {l : Nat} (h : compNo env.scope x px v = true) : swapsWith v (some (.Name x px)) l env = pure false := by
  cases v with
  | ListComp el gs scope vpos =>
    unfold compNo at h
    unfold swapsWith
    dsimp only
    have e1 : (env.blockKind == .function && env.kindOf x == some .local && px.line == (PySem.Expr.ListComp el gs scope vpos).pos.line && !(scope.names.any fun (n, k) => n == x && (k == .local || k == .cell))) = false := by
      simp only [Bool.or_eq_true, Bool.not_eq_true', decide_eq_false_iff_not] at h
      rcases h with (h | h) | h
      · have : (env.kindOf x == some .local) = false := by
          apply beq_eq_false_iff_ne.mpr
          exact h
        rw [this]; simp
      · have h' : (px.line == (PySem.Expr.ListComp el gs scope vpos).pos.line) = false := h
        rw [h']; simp
      · rw [h]; simp
    rw [e1]
  | _ => cases h
section
variable (T : Tab) (Φn : Nat) (N : List Str) (k : Nat) (sc so : PySem.Scope) (np : Nat) (fr : Bool)
def chkSet (o : Bool) (i : Nat) (e : E) (st : Stmt) : Bool := match st with
  | .Assign [.Name x px] v pos => storeB N so i x && chkE T Φn N k sc so false e v && (!o || (decide (np ≤ i) && frS T e)) && (notComp v || compNo sc x px v || (compSw sc x px v && match e with
    | .comp _ _ _ => true
    | _ => false))
  | _ => false
mutual
def chkS : S → Stmt → Bool
  | .set i e, st => chkSet T Φn N k sc so np false i e st
  | .setO i e, st => chkSet T Φn N k sc so np true i e st
  | .setT t e, st => match st with
    | .Assign [tg] v pos => chkTg N so t tg && chkE T Φn N k sc so false e v && notComp v && lateOk tg v && noStar tg
    | _ => false
  | .par2 i j oi oj a b, st => match st with
    | .Assign [.Tuple [.Name x px, .Name y py] _ _] (.Tuple [ax, bx] _ _) pos => decide (N[i]? = some x) && decide (N[j]? = some y) && !(decide (i = j)) && sw2 sc x y px py ax bx && chkE T Φn N k sc so false a ax && chkE T Φn N k sc so false b bx &&
        (!oi || (decide (np ≤ i) && frS T a)) && (!oj || (decide (np ≤ j) && frS T b))
    | _ => false
  | .par3 _ _ _ _ _ _ _ _ _, _ => false
  | .sub i kk e, st => match st with
    | .Assign [.Subscript (.Name x _) kx _] v pos => nameB N sc i x && chkE T Φn N k sc so false kk kx && chkE T Φn N k sc so false e v && notComp v && notSlice kx
    | _ => false
  | .fldS _ _ _, _ => false
  | .expr e, st => match st with
    | .Expr v pos => chkE T Φn N k sc so false e v && notComp v
    | _ => false
  | .ret e, st => match st with
    | .Return (some v) _ => chkE T Φn N k sc so false e v && (!fr || frS T e)
    | _ => false
  | .retN, st => match st with
    | .Return none _ => true
    | _ => false
  | .pass, st => match st with
    | .Pass _ => true
    | .Expr (.Constant (.str _) _ _) _ => true
    | _ => false
  | .dead, _ => true
  | .ite c a b, st => match st with
    | .If cx ax bx _ => chkE T Φn N k sc so true c cx && chkSs a ax && chkSs b bx
    | _ => false
  | .while_ c b, st => match st with
    | .While cx bx [] _ => chkE T Φn N k sc so true c cx && chkSs b bx
    | _ => false
  | .for_ t it b, st => match st with
    | .For tx ix bx [] _ => notSet ix && chkIt T Φn N k sc so it tx ix && chkTg N so t tx && chkSs b bx
    | _ => false
def chkSs : Ss → List Stmt → Bool
  | .nil, sts => sts.isEmpty
  | .cons s ss, sts => match sts with
    | st :: sts => chkS s st && chkSs ss sts
    | [] => false
end
end
section
variable {T : Tab} {Φ : Fns} {C : Cfg} {N : List Str} {sc so : PySem.Scope} {k np : Nat} {fr : Bool} {X : Cx}
theorem comp_set (c : Cok T Φ C N sc so k X) {elt : E} {tg : Tg} {it : It} {cd : E} {own : List Nat} {v : PySem.Expr} {i : Nat} {x : Str} {px pos : Pos} (h : chkE T Φ.ncls N k sc so false (.comp elt (.mk tg it cd) own) v = true) (hs : compSw sc x px v = true) (hx : X.N[i]? = some x) :
    ∃ te, PS X (.Assign [.Name x px] v pos) (tAsg te (gName i)) ∧ ∀ σ H Q, tE C true (evE Φ (.comp elt (.mk tg it cd) own)) σ H Q → te σ H Q := by
  unfold chkE at h
  split at h
  · rename_i el tx ix ifs isa scope vpos
    simp only [Bool.and_eq_true] at h
    obtain ⟨⟨⟨⟨⟨⟨⟨h1, h2⟩, h3⟩, h4⟩, h5⟩, h6⟩, h7⟩, h8⟩ := h
    cases of_decide_eq_true h1
    simp only [compSw, Bool.and_eq_true, Bool.not_eq_true'] at hs
    obtain ⟨⟨⟨s1, s2⟩, s3⟩, s4⟩ := hs
    have hk : X.env.scope.kind = .function := by
      rw [c.hsc]
      split at s1
      · assumption
      · cases s1
    have hl : X.env.scope.names.lookup x = some .local := by rw [c.hsc]; exact of_decide_eq_true s2
    have hp : ∀ s H cc cl fp, PTs (X.blk s H scope (compEnvC scope cl cc X.env) fp) ifs (tT C.nox (rT (evE Φ cd))) := fun s H cc cl fp => by
      split at h7
      · cases yes_ok h7
        exact sts_nil
      · exact pts_one (ok_E cd true _ (c.blk scope s H cc cl fp) h7)
      · cases h7
    have lc := ps_setLc (spos := pos) c.calm c.nd hx hl (sw_true hk hl s3 s4) (ok_It it tx ix c h4) (blkOk_by (own := ownN N own) (by rw [c.hN, c.hsc]; exact h2))
      (fun s H cc cl fp => tg_ok (c.blk scope s H cc cl fp) tg tx h5) hp
      (fun s H cc cl fp => ok_E elt false el (c.blk scope s H cc cl fp) h8) (fold_no h3)
    rw [own_ids] at lc
    exact ⟨_, lc, fun σ H Q => lc_imp (sub_ok h6) σ H Q⟩
  · cases h
theorem set_ok (c : Cok T Φ C N sc so k X) (hπ : ∀ i, np ≤ i → C.π i = none) {o : Bool} {i : Nat} {e : E} {st : Stmt} (h : chkSet T Φ.ncls N k sc so np o i e st = true) :
    PS X st (tS C fr fun en => RS.of (evE Φ e en) fun d en => if (!o || isBox d) then .nx (en.set i (mk o d)) else .bad) := by
  unfold chkSet at h
  split at h
  · rename_i x px v pos
    simp only [Bool.and_eq_true] at h
    obtain ⟨⟨⟨h1, h2⟩, h3⟩, h4⟩ := h
    obtain ⟨q1, q2, q3⟩ := store_okB (pos := px) c h1
    have ho : o = true → C.π i = none ∧ frS T e = true := fun z => by
      subst z
      simp only [Bool.not_true, Bool.false_or, Bool.and_eq_true, decide_eq_true_eq] at h3
      exact ⟨hπ i h3.1, h3.2⟩
    simp only [Bool.or_eq_true] at h4
    rcases h4 with (h4 | h4) | h4
    · exact ss_setG (ps_set c.nd q1 q2 (ok_E e false v c h2) (swaps_no h4) q3) (fun _ _ _ z => z) ho
    · exact ss_setG (ps_set c.nd q1 q2 (ok_E e false v c h2) (compNo_ok (by rw [c.hsc]; exact h4)) q3) (fun _ _ _ z => z) ho
    · obtain ⟨h5, h6⟩ := Bool.and_eq_true_iff.mp h4
      split at h6
      · rename_i elt g own
        cases g with
        | mk tg it cd =>
          obtain ⟨te, p, imp⟩ := comp_set (pos := pos) c h2 h5 q1
          exact ss_setG p imp fun z => ⟨(ho z).1, rfl⟩
      · cases h6
  · cases h
theorem evA_v {Φ : Fns} (x : E) (e : Env) (d : AV) (e' : Env) (h : evA Φ (.e x) e = .ok d e') : ∃ z, d = .v z := by
  unfold evA at h
  cases q : evE Φ x e with
  | ok z e1 => rw [q] at h; cases h; exact ⟨z, rfl⟩
  | exc _ _ => rw [q] at h; cases h
  | bad => rw [q] at h; cases h
end
mutual
theorem ok_S {T : Tab} {Φ : Fns} {C : Cfg} {N : List Str} {sc so : PySem.Scope} {k np : Nat} {fr : Bool} {X : Cx} (c : Cok T Φ C N sc so k X) (hπ : ∀ i, np ≤ i → C.π i = none) (hp : PassesOwn (model X.prog X.w) X.A X.env X.xe) : ∀ (s : S) (st : Stmt), chkS T Φ.ncls N k sc so np fr s st = true → PS X st (tS C fr (evS Φ s))
  | .set i e, st, h => set_ok c hπ (o := false) (by unfold chkS at h; exact h)
  | .setO i e, st, h => set_ok c hπ (o := true) (by unfold chkS at h; exact h)
  | .setT t e, st, h => by
    unfold chkS at h
    split at h
    · simp only [Bool.and_eq_true] at h
      obtain ⟨⟨⟨⟨h1, h2⟩, h3⟩, h4⟩, h5⟩ := h
      exact ss_setT (tg_ok c t _ h1) (ok_E e false _ c h2) (sole_no h3) (late_ok h4) (asg_one h5)
    · cases h
  | .par2 i j oi oj a b, st, h => by
    unfold chkS at h
    split at h
    · rename_i x px y py k1 p1 ax bx k2 p2 pos
      simp only [Bool.and_eq_true, Bool.not_eq_true', decide_eq_false_iff_not] at h
      obtain ⟨⟨⟨⟨⟨⟨⟨h1, h2⟩, h3⟩, h4⟩, h5⟩, h6⟩, h7⟩, h8⟩ := h
      have hs2 : sw2 X.env.scope x y px py ax bx = true := by rw [c.hsc]; exact h4
      have hh := hs2
      unfold sw2 at hh
      simp only [Bool.and_eq_true, decide_eq_true_eq, Bool.not_eq_true', decide_eq_false_iff_not] at hh
      obtain ⟨⟨⟨⟨⟨⟨⟨⟨w1, w2⟩, w3⟩, w4⟩, w5⟩, w6⟩, w7⟩, w8⟩, w9⟩ := hh
      have own : ∀ {o : Bool} {n : Nat} {z : E}, (!o || (decide (np ≤ n) && frS T z)) = true → o = true → C.π n = none ∧ frS T z = true := fun {o n z} q w => by
        subst w
        simp only [Bool.not_true, Bool.false_or, Bool.and_eq_true, decide_eq_true_eq] at q
        exact ⟨hπ n q.1, q.2⟩
      exact ss_par2 (fun pa pb => ps_par c.calm c.nd (by rw [c.hN]; exact of_decide_eq_true h1) (by rw [c.hN]; exact of_decide_eq_true h2) h3 w2 w3 (pa_cons pa (pa_cons pb pa_nil (star_cons w7)) (star_cons w6)) (sw2_ok hs2)) (ok_E a false _ c h5) (ok_E b false _ c h6) (own h7) (own h8)
    · cases h
  | .par3 _ _ _ _ _ _ _ _ _, st, h => by
    unfold chkS at h
    cases h
  | .sub i kk e, st, h => by
    unfold chkS at h
    split at h
    · simp only [Bool.and_eq_true] at h
      obtain ⟨⟨⟨⟨h1, h2⟩, h3⟩, h4⟩, h5⟩ := h
      exact ss_sub (by have := c.units; omega) (name_ok c h1) (sa_e (ok_E kk false _ c h2)) (sa_e (ok_E e false _ c h3)) (fun en d e' q => evA_v e en d e' (by unfold evA; exact q)) (sole_no h4) h5
    · cases h
  | .fldS _ _ _, st, h => by
    unfold chkS at h
    cases h
  | .expr e, st, h => by
    unfold chkS at h
    split at h
    · obtain ⟨h1, h2⟩ := Bool.and_eq_true_iff.mp h
      exact ss_expr (ok_E e false _ c h1) (swaps_no h2)
    · cases h
  | .ret e, st, h => by
    unfold chkS at h
    split at h
    · obtain ⟨h1, h2⟩ := Bool.and_eq_true_iff.mp h
      exact ss_ret (ok_E e false _ c h1) fun z => by rw [z] at h2; simpa using h2
    · cases h
  | .retN, st, h => by
    unfold chkS at h
    split at h
    · exact ss_retN
    · cases h
  | .pass, st, h => by
    unfold chkS at h
    split at h
    · exact ss_pass
    · exact ss_doc
    · cases h
  | .dead, st, h => ss_dead
  | .ite d a b, st, h => by
    unfold chkS at h
    split at h
    · simp only [Bool.and_eq_true] at h
      obtain ⟨⟨h1, h2⟩, h3⟩ := h
      exact ss_if (ok_E d true _ c h1) (ok_Ss c hπ hp a _ h2) (ok_Ss c hπ hp b _ h3)
    · cases h
  | .while_ d b, st, h => by
    unfold chkS at h
    split at h
    · obtain ⟨h1, h2⟩ := Bool.and_eq_true_iff.mp h
      exact ss_while hp (ok_E d true _ c h1) (ok_Ss c hπ hp b _ h2)
    · cases h
  | .for_ t it b, st, h => by
    unfold chkS at h
    split at h
    · simp only [Bool.and_eq_true] at h
      obtain ⟨⟨⟨h1, h2⟩, h3⟩, h4⟩ := h
      exact ss_for hp c.calm (ok_It it _ _ c h2) (tg_ok c t _ h3) (ok_Ss c hπ hp b _ h4) (fold_no h1)
    · cases h
theorem ok_Ss {T : Tab} {Φ : Fns} {C : Cfg} {N : List Str} {sc so : PySem.Scope} {k np : Nat} {fr : Bool} {X : Cx} (c : Cok T Φ C N sc so k X) (hπ : ∀ i, np ≤ i → C.π i = none) (hp : PassesOwn (model X.prog X.w) X.A X.env X.xe) : ∀ (ss : Ss) (sts : List Stmt), chkSs T Φ.ncls N k sc so np fr ss sts = true → PSs X sts (tS C fr (evSs Φ ss))
  | .nil, sts, h => by
    unfold chkSs at h
    cases sts with
    | nil => exact sss_nil
    | cons _ _ => cases h
  | .cons s ss, sts, h => by
    unfold chkSs at h
    cases sts with
    | nil => cases h
    | cons st sts =>
      obtain ⟨h1, h2⟩ := Bool.and_eq_true_iff.mp h
      exact sss_cons (ok_S c hπ hp s st h1) (ok_Ss c hπ hp ss sts h2)
end
end TI
set_option Elab.async false
set_option linter.all false
set_option maxRecDepth 100000
set_option maxHeartbeats 4000000
namespace TI
open PySem PySem.Spec L2
theorem lookup_zip_some : ∀ {ps : List Str} {us : List Value} {n : Str}, us.length = ps.length → n ∈ ps → ((ps.zip us).lookup n).isSome = true
  | [], us, n, hl, h => by cases h
  | p :: ps, [], n, hl, h => by simp at hl
  | p :: ps, u :: us, n, hl, h => by
    simp only [List.zip_cons_cons, List.lookup]
    by_cases hn : n == p
    · rw [hn]; rfl
    · have hb : (n == p) = false := by simpa using hn
      rw [hb]
      refine lookup_zip_some (by simpa using hl) ?_
      rcases List.mem_cons.mp h with z | z
      · subst z; simp at hn
      · exact z
theorem zip_back : ∀ {ps : List Str} {us : List Value} {pre : List (Str × Value)}, us.length = ps.length → ps.Nodup → (∀ p ∈ pre, p.1 ∉ ps) → (ps.filterMap fun n => ((pre ++ ps.zip us).lookup n).map fun v => (n, v)) = ps.zip us
  | [], us, pre, hl, nd, hp => by simp
  | p :: ps, [], pre, hl, nd, hp => by simp at hl
  | p :: ps, u :: us, pre, hl, nd, hp => by
    have h1 : ((pre ++ (p, u) :: ps.zip us).lookup p) = some u := by
      induction pre with
      | nil => simp [List.lookup]
      | cons q pre ih =>
        have hq : p ≠ q.1 := fun z => hp q (by simp) (by simp [z])
        have hb : (p == q.1) = false := beq_eq_false_iff_ne.mpr hq
        show (match p == q.1 with | true => some q.2 | false => List.lookup p (pre ++ (p, u) :: ps.zip us)) = some u
        rw [hb]
        exact ih fun r hr => hp r (List.mem_cons_of_mem _ hr)
    obtain ⟨h2, h3⟩ := List.nodup_cons.mp nd
    rw [List.zip_cons_cons, List.filterMap_cons, h1]
    show (p, u) :: _ = _
    congr 1
    have := zip_back (ps := ps) (us := us) (pre := pre ++ [(p, u)]) (by simpa using hl) h3 fun r hr => by
      rcases List.mem_append.mp hr with z | z
      · exact fun w => hp r z (List.mem_cons_of_mem _ w)
      · simp at z; subst z; exact h2
    simpa using this
theorem bind_plain {x qual : Str} {body : List Stmt} {scope : PySem.Scope} {kV doc pm cdv ct : Value} {an : Option Addr} {args : List Arg} {us : List Value} (nd : (args.map (·.arg)).Nodup) (hl : us.length = args.length) :
    bindArgs (PySem.W.fnOf x qual ⟨[], args, none, [], [], none, []⟩ body scope .none kV doc pm an cdv ct) ⟨us, []⟩ = pure ((args.map (·.arg)).zip us) := by
  have hl2 : us.length = (args.map (·.arg)).length := by rw [List.length_map]; exact hl
  have hm : ((args.map (·.arg)).filter fun n => (((args.map (·.arg)).zip us).lookup n).isNone) = [] := by
    rw [List.filter_eq_nil_iff]
    intro n hn
    have := lookup_zip_some hl2 hn
    simp only [Option.isNone_iff_eq_none]
    intro z
    rw [z] at this; cases this
  have e1 : seqItems? Value.none = pure none := rfl
  have hz := zip_back (pre := []) hl2 nd (fun _ h => by cases h)
  unfold bindArgs
  simp only [PySem.W.fnOf, e1, pure_bind, List.map_nil, List.nil_append, List.append_nil, List.length_map, hl, forIn, List.forIn'_nil, Option.getD_none, List.drop_nil, List.take_length, Nat.sub_zero, List.length_nil, hm, List.isEmpty_nil, List.zip_nil_right]
  simp
  have et : List.take args.length (args.map (·.arg)) = args.map (·.arg) := List.take_of_length_le (by rw [List.length_map]; exact Nat.le_refl _)
  rw [et, hm]
  simp
  exact congrArg pure (by simpa using hz)
structure FnI where
  at_ : Str × Option Str
  name : Str
  qual : Str
  stmt : Stmt
  N : List Str
  body : Ss
  lev : Nat
  fresh : Bool
def FnI.ps (f : FnI) : List Str := (defArgs f.stmt).args.map (·.arg)
def FnI.d (f : FnI) : He.DefD := ⟨f.at_, f.name, f.qual, defArgs f.stmt, defBody f.stmt, defScope f.stmt, [], []⟩
def plainArgs (a : Arguments) : Bool := a.posonlyargs.isEmpty && a.vararg.isNone && a.kwonlyargs.isEmpty && a.kw_defaults.isEmpty && a.kwarg.isNone && a.defaults.isEmpty
def nodupS : List Str → Bool
  | [] => true
  | x :: r => !(r.any fun y => decide (y = x)) && nodupS r
theorem nodupS_ok : ∀ {l : List Str}, nodupS l = true → l.Nodup
  | [], _ => List.nodup_nil
  | x :: r, h => by
    simp only [nodupS, Bool.and_eq_true, Bool.not_eq_true'] at h
    refine List.nodup_cons.mpr ⟨fun hm => ?_, nodupS_ok h.2⟩
    have : (r.any fun y => decide (y = x)) = true := List.any_eq_true.mpr ⟨x, hm, decide_eq_true rfl⟩
    rw [h.1] at this; cases this
def scopeB (N ps : List Str) (sc : PySem.Scope) : Bool := (match sc.kind with | .function => true | _ => false) && !sc.isCoroutine && !sc.isGenerator && nodupS N && decide (N.take ps.length = ps) &&
  (ps.all fun x => match sc.names.lookup x with
    | some .local => true
    | some .cell => true
    | _ => false) && (sc.names.all fun y => match y.2 with
    | .free => false
    | _ => true)
theorem scope_ok {N ps : List Str} {sc : PySem.Scope} (h : scopeB N ps sc = true) : FnScope N ps sc := by
  unfold scopeB at h
  simp only [Bool.and_eq_true, Bool.not_eq_true', decide_eq_true_eq] at h
  obtain ⟨⟨⟨⟨⟨⟨h1, h2⟩, h3⟩, h4⟩, h5⟩, h6⟩, h7⟩ := h
  refine ⟨?_, h2, h3, nodupS_ok h4, h5, fun x hx => ?_, fun y hy => ?_⟩
  · split at h1
    · assumption
    · cases h1
  · have := List.all_eq_true.mp h6 x hx
    split at this
    · rename_i q; exact .inl q
    · rename_i q; exact .inr q
    · cases this
  · have := List.all_eq_true.mp h7 y hy
    intro z
    rw [z] at this
    cases this
def fnB (T : Tab) (Φn : Nat) (f : FnI) : Bool := scopeB f.N f.ps (defScope f.stmt) && plainArgs (defArgs f.stmt) && decide (f.ps.length ≤ f.N.length) && chkSs T Φn f.N f.lev (defScope f.stmt) (defScope f.stmt) f.ps.length f.fresh f.body (defBody f.stmt)
def far : Nat := 1000000
def mkTab (tbl : List FnI) (gn cn : List Str) (tys : List Ty) (blt : List Str) : Tab where
  fresh := fun f => match tbl[f]? with
    | some i => i.fresh
    | none => false
  fname := fun f => match tbl[f]? with
    | some i => i.at_.1
    | none => ""
  gname := fun g => gn.getD g ""
  cname := fun g => cn.getD g ""
  lev := fun f => match tbl[f]? with
    | some i => if i.at_.2.isNone then i.lev else far
    | none => far
  tys := tys
  blt := blt
structure Facts (tbl : List FnI) (gn cn : List Str) (tys : List Ty) (blt : List Str) (Φ : Fns) (W : Wd) (mg : Str → Option Value) : Prop where
  fns : ∀ (f : Nat) (i : FnI), tbl[f]? = some i → ∃ fd, FunD W.K i.name i.qual (defArgs i.stmt) (defBody i.stmt) (defScope i.stmt) [] [] (He.fAd W.K i.at_) fd
  mgs : ∀ (f : Nat) (i : FnI), tbl[f]? = some i → i.at_.2 = none → mg i.at_.1 = some (.ref (He.fAd W.K i.at_))
  chk : ∀ (f : Nat) (i : FnI), tbl[f]? = some i → fnB (mkTab tbl gn cn tys blt) Φ.ncls i = true
  run : ∀ (f : Nat) (i : FnI) (as : List Slot), tbl[f]? = some i → Φ.fn f as ≠ .bad → as.length = i.ps.length ∧ runF Φ i.N.length i.body as = Φ.fn f as
  fresh : ∀ f, (mkTab tbl gn cn tys blt).fresh f = Φ.fresh f
  blt : ∀ x, x ∈ blt → mg x = none
  globs : ∀ g d, Φ.glob g = some d → isBox d = false ∧ ∃ v u, mg (gn.getD g "") = some u ∧ RelV v u ∧ ∀ G, Den W G d v
  cls : ∀ c, c < Φ.ncls → ClsF W W.K c ∧ mg (cn.getD c "") = some (.ref (W.cls c))
  kit : ∀ t, t ∈ tys → KitF W Φ t
section
variable {tbl : List FnI} {gn cn : List Str} {tys : List Ty} {blt : List Str} {Φ : Fns} {W : Wd} {mg : Str → Option Value} {P : Program} {w : World} {base : Heap}
theorem fn_one (F : Facts tbl gn cn tys blt Φ W mg) {f : Nat} {i : FnI} {fd : FuncData} (hi : tbl[f]? = some i) (D : FunD W.K i.name i.qual (defArgs i.stmt) (defBody i.stmt) (defScope i.stmt) [] [] (He.fAd W.K i.at_) fd) (M : Mok (mkTab tbl gn cn tys blt) Φ W P w mg base i.lev) :
    FnG P w W.K mg base (L2.CX P w) (i.lev + 1) (He.fAd W.K i.at_) fd i.ps (spF W Φ f) ∧ Binds W.K fd i.ps [] ∧ PySem.W.keepIn W.K (.ref (He.fAd W.K i.at_)) = true ∧ ∀ (s : Shared) (us : List Value), us.length = i.ps.length → BindsTo s fd ⟨us, []⟩ (i.ps.zip us) := by
  have h := F.chk f i hi
  unfold fnB at h
  simp only [Bool.and_eq_true, decide_eq_true_eq] at h
  obtain ⟨⟨⟨h1, h2⟩, h3⟩, h4⟩ := h
  have S := scope_ok h1
  have hfr : i.fresh = Φ.fresh f := by
    have := F.fresh f
    unfold mkTab at this
    dsimp only at this
    rw [hi] at this
    exact this
  have hpa : defArgs i.stmt = ⟨[], (defArgs i.stmt).args, none, [], [], none, []⟩ := by
    unfold plainArgs at h2
    simp only [Bool.and_eq_true, List.isEmpty_iff, Option.isNone_iff_eq_none] at h2
    obtain ⟨⟨⟨⟨⟨q1, q2⟩, q3⟩, q4⟩, q5⟩, q6⟩ := h2
    generalize defArgs i.stmt = a at q1 q2 q3 q4 q5 q6
    cases a
    simp only at q1 q2 q3 q4 q5 q6
    subst q1 q2 q3 q4 q5 q6
    rfl
  have nd : i.ps.Nodup := by
    have := S.nd
    have e := S.pre
    rw [← e]
    exact List.Nodup.sublist (List.take_sublist _ _) this
  have bnd : ∀ (kV doc pm : Value) (an : Option Addr) (cdv ct : Value) (us : List Value), us.length = i.ps.length → bindArgs (PySem.W.fnOf i.name i.qual (defArgs i.stmt) (defBody i.stmt) (defScope i.stmt) .none kV doc pm an cdv ct) ⟨us, []⟩ = pure (i.ps.zip us) := by
    intro kV doc pm an cdv ct us hl
    have := bind_plain (x := i.name) (qual := i.qual) (body := defBody i.stmt) (scope := defScope i.stmt) (kV := kV) (doc := doc) (pm := pm) (cdv := cdv) (ct := ct) (an := an) (args := (defArgs i.stmt).args) (us := us) nd (by rw [hl]; exact List.length_map ..)
    rw [← hpa] at this
    exact this
  refine ⟨?_, D.bindsN bnd, D.kp, fun s us hl => D.bindsA bnd s us hl⟩
  refine fn_rule (body := i.body) D S h3 (fun C X e1 hπ hP hw hK hm hbs hN hsc hcalm hroom hgd htk hfn hpo => ?_) fun as hn => F.run f i as hi hn
  subst e1
  have c : Cok (mkTab tbl gn cn tys blt) Φ C i.N (defScope i.stmt) (defScope i.stmt) i.lev X := {
    hK := hK.symm
    hN := hN
    nd := by rw [hN]; exact S.nd
    hsc := hsc
    calm := hcalm
    room := hroom
    guards := hgd
    tk := htk
    st := fun x h => ⟨by unfold L2.Loc; rw [hsc]; exact h, .inl (hfn x)⟩
    mod := by rw [hP, hw, hm, hbs]; exact M }
  rw [← hfr]
  exact ok_Ss c hπ hpo i.body _ h4
theorem mok_all (F : Facts tbl gn cn tys blt Φ W mg) : ∀ k, k ≤ far → Mok (mkTab tbl gn cn tys blt) Φ W P w mg base k
  | 0, _ => ⟨F.fresh, F.blt, fun f h => absurd h (Nat.not_lt_zero _), F.globs, F.cls, F.kit⟩
  | k + 1, hk => by
    have M := mok_all F k (by omega)
    refine ⟨F.fresh, F.blt, fun f h => ?_, F.globs, F.cls, F.kit⟩
    rcases Nat.lt_or_ge ((mkTab tbl gn cn tys blt).lev f) k with z | z
    · exact M.fns f z
    · have e : (mkTab tbl gn cn tys blt).lev f = k := by omega
      cases hi : tbl[f]? with
      | none =>
        have : (mkTab tbl gn cn tys blt).lev f = far := by unfold mkTab; dsimp only; rw [hi]
        omega
      | some i =>
        have e2 : (mkTab tbl gn cn tys blt).lev f = if i.at_.2.isNone then i.lev else far := by unfold mkTab; dsimp only; rw [hi]
        have e3 : (mkTab tbl gn cn tys blt).fname f = i.at_.1 := by unfold mkTab; dsimp only; rw [hi]
        cases hn : i.at_.2.isNone with
        | false =>
          rw [hn] at e2
          simp at e2
          omega
        | true =>
          rw [hn, if_pos rfl] at e2
          have hk2 : i.lev = k := by omega
          subst hk2
          obtain ⟨fd, D⟩ := F.fns f i hi
          obtain ⟨q1, q2, q3, _⟩ := fn_one F hi D M
          exact ⟨_, fd, i.ps, by rw [e3]; exact F.mgs f i hi (Option.isNone_iff_eq_none.mp hn), q3, by rw [e2]; exact q1, q2⟩
theorem law_fn (F : Facts tbl gn cn tys blt Φ W mg) {f : Nat} {i : FnI} (hi : tbl[f]? = some i) (hl : i.lev ≤ far) {n : Nat}
    (hlaw : ∀ ns : List Int, ns.length ≤ n → Φ.fn f [.val (.scr ns)] = .ok (.bl true) []) {x : Str} (hx : i.ps = [x]) (base0 : Heap) :
    ∃ (fd : FuncData) (sp : Sp), (∀ (s : Shared) (u : Value), BindsTo s fd ⟨[u], []⟩ [(x, u)]) ∧
      (∀ (H : Hp) (a : Addr) (ns : List Int), ns.length ≤ n → SqL W.K H a (ns.map V.int) → sp [.ref a] H (fun v _ => v = .bl true) fun _ _ _ => False) ∧
      ∀ base : Heap, FnG P w W.K mg base (L2.CX P w) (i.lev + 1) (He.fAd W.K i.at_) fd [x] sp := by
  obtain ⟨fd, D⟩ := F.fns f i hi
  obtain ⟨_, _, _, hb⟩ := fn_one (P := P) (w := w) (base := base0) F hi D (mok_all F i.lev hl)
  refine ⟨fd, spF W Φ f, fun s u => ?_, fun H a ns hn hS => ?_, fun base => ?_⟩
  · have := hb s [u] (by rw [hx]; rfl)
    rw [hx] at this
    exact this
  · refine ⟨H, [.val (.scr ns)], ?_, ?_⟩
    · exact {
        len := rfl
        sub := Sub.refl H
        val := fun i d h => by
          cases i with
          | zero => simp at h; subst h; exact ⟨.ref a, rfl, by simp only [Den]; exact ⟨a, rfl, hS⟩⟩
          | succ i => simp at h
        own := fun i d h => by
          cases i with
          | zero => simp at h
          | succ i => simp at h
        dis := fun i j d d' a h => by
          cases i with
          | zero => simp at h
          | succ i => simp at h
        pin := fun i d a h _ => nomatch h }
    · rw [hlaw ns hn]
      intro v H' G' g' s' r
      have r := RV.toDen (Bool.and_false _) r
      simpa only [Den] using r
  · obtain ⟨q, _⟩ := fn_one (P := P) (w := w) (base := base) F hi D (mok_all F i.lev hl)
    rw [hx] at q
    exact q
end
end TI
set_option Elab.async false
set_option linter.all false
set_option maxRecDepth 100000
set_option maxHeartbeats 4000000
namespace TI
open PySem PySem.Spec L2
theorem kit_bt {Φ : Fns} {W : Wd} (hn : Φ.ncls = 0) {t : Ty} (ht : (match t with | .cls _ => false | _ => true) = true) : KitF W Φ t := by
  intro d ok
  cases t with
  | cls c => cases ht
  | int => cases d with
    | ins c fs => simp [isiOk, hn] at ok
    | scr l => cases ok
    | _ => first | exact kit_ty (r := true) (by decide +kernel) | exact kit_ty (r := false) (by decide +kernel)
  | bool => cases d with
    | ins c fs => simp [isiOk, hn] at ok
    | scr l => cases ok
    | _ => first | exact kit_ty (r := true) (by decide +kernel) | exact kit_ty (r := false) (by decide +kernel)
  | str => cases d with
    | ins c fs => simp [isiOk, hn] at ok
    | scr l => cases ok
    | _ => first | exact kit_ty (r := true) (by decide +kernel) | exact kit_ty (r := false) (by decide +kernel)
  | tuple => cases d with
    | ins c fs => simp [isiOk, hn] at ok
    | scr l => cases ok
    | _ => first | exact kit_ty (r := true) (by decide +kernel) | exact kit_ty (r := false) (by decide +kernel)
  | list => cases d with
    | ins c fs => simp [isiOk, hn] at ok
    | scr l => cases ok
    | _ => first | exact kit_ty (r := true) (by decide +kernel) | exact kit_ty (r := false) (by decide +kernel)
  | dict => cases d with
    | ins c fs => simp [isiOk, hn] at ok
    | scr l => cases ok
    | _ => first | exact kit_ty (r := true) (by decide +kernel) | exact kit_ty (r := false) (by decide +kernel)
def glFa (g : Str × Lit) : He.Fa := match g.2 with
  | .int i => .int g.1 i
  | .str x => .str g.1 (encS x)
  | _ => .keep ""
def faOf (tbl : List FnI) (blt : List Str) (gls : List (Str × Lit)) : List He.Fa := (tbl.map fun i => He.Fa.glo i.at_.1) ++ (blt.map He.Fa.free ++ gls.map glFa)
def litOk : Lit → Bool
  | .int _ => true
  | .str _ => true
  | _ => false
theorem facts_plain {tbl : List FnI} {gls : List (Str × Lit)} {tys : List Ty} {blt : List Str} {Φ : Fns} {K : PySem.W.Frag} {mg : Str → Option Value} {h : Heap} (KX : K.In h) (G : h.Ns mainGlobals mg) (c : He.SaysD (faOf tbl blt gls) (tbl.map FnI.d) K)
    (hat : (tbl.all fun i => i.at_.2.isNone) = true) (hg : ∀ g, Φ.glob g = (gls[g]?).map fun q => q.2.d) (hgl : (gls.all fun q => litOk q.2) = true) (hn : Φ.ncls = 0) (hty : (tys.all fun t => match t with | .cls _ => false | _ => true) = true)
    (hfr : ∀ f, (mkTab tbl (gls.map (·.1)) [] tys blt).fresh f = Φ.fresh f) (hchk : (tbl.all fun i => fnB (mkTab tbl (gls.map (·.1)) [] tys blt) 0 i) = true)
    (hrun : ∀ (f : Nat) (i : FnI) (as : List Slot), tbl[f]? = some i → Φ.fn f as ≠ .bad → as.length = i.ps.length ∧ runF Φ i.N.length i.body as = Φ.fn f as) :
    Facts tbl (gls.map (·.1)) [] tys blt Φ ⟨K, fun _ => 0, fun _ => [], fun _ => 0, fun _ => ""⟩ mg where
  fns := fun f i hi => by
    have h1 : (tbl.map FnI.d)[f]? = some i.d := by rw [List.getElem?_map, hi]; rfl
    exact c.def_ f h1
  mgs := fun f i hi hn => by
    have h1 : (faOf tbl blt gls)[f]? = some (He.Fa.glo i.at_.1) := by
      have := (List.getElem?_eq_some_iff.mp hi).1
      unfold faOf
      rw [List.getElem?_append_left (by rw [List.length_map]; exact this), List.getElem?_map, hi]; rfl
    have h2 := He.glo_ok KX G (c.fact f h1)
    have h3 : He.fAd K i.at_ = He.ga K i.at_.1 := by
      unfold He.fAd
      rw [hn]
    show mg i.at_.1 = some (.ref (He.fAd K i.at_))
    rw [h3]; exact h2
  chk := fun f i hi => by
    rw [hn]
    exact List.all_eq_true.mp hchk i (List.mem_of_getElem? hi)
  run := hrun
  fresh := hfr
  blt := fun x hx => by
    obtain ⟨j, hj⟩ := List.mem_iff_getElem?.mp hx
    have h1 : (faOf tbl blt gls)[tbl.length + j]? = some (He.Fa.free x) := by
      unfold faOf
      rw [List.getElem?_append_right (by rw [List.length_map]; omega), List.length_map]
      have e : tbl.length + j - tbl.length = j := by omega
      rw [e, List.getElem?_append_left (by rw [List.length_map]; exact (List.getElem?_eq_some_iff.mp hj).1), List.getElem?_map, hj]; rfl
    exact He.free_ok KX G (c.fact _ h1)
  globs := fun g d hd => by
    rw [hg] at hd
    obtain ⟨q, hq, rfl⟩ := Option.map_eq_some_iff.mp hd
    have h1 : (faOf tbl blt gls)[tbl.length + (blt.length + g)]? = some (glFa q) := by
      unfold faOf
      rw [List.getElem?_append_right (by rw [List.length_map]; omega), List.length_map]
      have e : tbl.length + (blt.length + g) - tbl.length = blt.length + g := by omega
      rw [e, List.getElem?_append_right (by rw [List.length_map]; omega), List.length_map]
      have e : blt.length + g - blt.length = g := by omega
      rw [e, List.getElem?_map, hq]; rfl
    have h2 := c.fact _ h1
    have hl := List.all_eq_true.mp hgl q (List.mem_of_getElem? hq)
    have hx : (gls.map (·.1)).getD g ("" : Str) = q.1 := by
      rw [List.getD_eq_getElem?_getD, List.getElem?_map, hq]; rfl
    obtain ⟨x, l⟩ := q
    cases l with
    | int i =>
      obtain ⟨t, ht⟩ := He.int_ok KX G h2
      exact ⟨rfl, .int i, _, by rw [hx]; exact ht, ⟨t, rfl⟩, fun _ => den_int _⟩
    | str z =>
      obtain ⟨t, ht⟩ := He.str_ok KX G h2
      exact ⟨rfl, .str (encS z), _, by rw [hx]; exact ht, ⟨t, rfl⟩, fun _ => den_str _⟩
    | non => cases hl
    | bl b => cases hl
  cls := fun c hc => by rw [hn] at hc; exact absurd hc (Nat.not_lt_zero _)
  kit := fun t ht => kit_bt hn (List.all_eq_true.mp hty t ht)
end TI
set_option Elab.async false
set_option linter.all false
set_option maxRecDepth 100000
set_option maxHeartbeats 4000000
namespace TI
open PySem PySem.Spec L2
section
variable {P : Program} {w : World} {K : PySem.W.Frag} {mg mb : Str → Option Value} {CX : CXT} {k : Nat} {fa a : Addr} {fd : FuncData} {x : Str} {sp : Sp} {s₁ : Shared} {vs : List Value} {ns : List Int}
theorem end_from (KX : K.In s₁.heap) (hns : s₁.heap.Ns mainGlobals mg) (hb : s₁.heap.Ns builtinsNs mb) (hbb : ∀ x : Str, x ≠ "__name__" → mb x = bootBuiltins x) (hlim : s₁.heap.NoLimit) (hg : s₁.gens = #[])
    (ha : s₁.heap.get? a = some { cls := .type "list", data := .seq vs.toArray }) (hr : Room k callerA)
    (F : ∀ base : Heap, FnG P w K mg base CX k fa fd [x] sp) (hbind : ∀ (s : Shared) (u : Value), BindsTo s fd ⟨[u], []⟩ [(x, u)])
    {H : Hp} (hO : ∀ b, H b ≠ none → b = a ∧ K.lookup a = none ∧ ∃ o l, H b = some (.frz o (.lst l))) (hok : HOk P w H s₁.heap) (hsp : sp [.ref a] H (fun v _ => v = .bl true) fun _ _ _ => False) (hCX : ∀ e s', CX [] H s₁ (fun _ _ _ => False) e s' → False) :
    codeAny (model P w) callerA (.call (.ref fa) ⟨[.ref a], []⟩) (fun r s' => r = .ok (.ret (.bool true)) ∧ OldK s₁.heap s'.heap ∧ s'.os = s₁.os ∧ PyProof.Rows.AllBare s'.gens) s₁ := by
  have free : ∀ {b : Addr} {o : Obj}, s₁.heap.get? b = some o → b ≠ a → H b = none := fun {b o} e hne => Classical.byContradiction fun z => hne (hO b z).1
  have lay : ∀ {b : Addr} {o : Obj}, s₁.heap.get? b = some o → (b = a → False) → (hidT s₁.heap H).get? b = some o := fun {b o} e hne => hidT_get e (free e hne)
  have names : ∀ {b : Addr} {m : Str → Option Value}, s₁.heap.Ns b m → (hidT s₁.heap H).Ns b m := by
    rintro b m ⟨o, es, ep, e, d, r⟩
    refine ⟨o, es, ep, lay e ?_, d, r⟩
    rintro rfl
    rw [ha] at e
    cases e
    cases d
  have kin : K.In (hidT s₁.heap H) := fun b o e => by
    refine hidT_get (KX b o e) (Classical.byContradiction fun z => ?_)
    obtain ⟨rfl, q, -⟩ := hO b z
    rw [e] at q
    cases q
  have md : Mod K mg (hidT s₁.heap H) := ⟨kin, names hns, ⟨mb, names hb, hbb⟩, by
    obtain ⟨mc, h1, h2⟩ := hlim
    exact ⟨mc, names h1, h2⟩⟩
  have e0 : Env0 P w K mg (hidT s₁.heap H) callerA [] s₁ H := ⟨rfl, md, fun b o e => of_hidT e, Nat.le_of_eq (hidT_size _ _), trivial, (fun b hb => nomatch hb), hok, PyProof.Rows.AllBare.of_eq hg⟩
  apply codeAny_mono ((F _).go hr rfl e0 (hbind s₁ (.ref a)) (Paired.cons (show RelV (.ref a) (.ref a) from rfl) .nil) hsp)
  rintro (e | fl) s' q
  · exact (hCX e s' q).elim
  · match fl, q with
    | .ret u, ⟨v, H', os, bare, un, hok', r', q⟩ =>
      cases (show v = .bl true from q)
      cases (show u = Value.bool true from r')
      refine ⟨rfl, OldK.of_keep fun b o e => ?_, os, bare⟩
      by_cases z : H b = none
      · exact un.keep b o e z (fun y => by cases y) (by simp)
      · obtain ⟨-, -, ob, l, e1⟩ := hO b z
        have e2 := un.frzs b ob _ e1
        have at1 := (hok b _ e1).1
        have at2 := (hok' b _ e2).1
        rw [e] at at1
        cases at1
        exact at2
    | .next, q => exact q.elim
    | .brk, q => exact q.elim
    | .cont, q => exact q.elim
theorem law_end (KX : K.In s₁.heap) (hns : s₁.heap.Ns mainGlobals mg) (hb : s₁.heap.Ns builtinsNs mb) (hbb : ∀ x : Str, x ≠ "__name__" → mb x = bootBuiltins x) (hlim : s₁.heap.NoLimit) (hg : s₁.gens = #[])
    (ha : s₁.heap.get? a = some { cls := .type "list", data := .seq vs.toArray }) (hi : PyProof.Rows.IntsAre vs ns) (hl : ns.length ≤ sizeLine) (hr : Room k callerA)
    (F : ∀ base : Heap, FnG P w K mg base CX k fa fd [x] sp) (hbind : ∀ (s : Shared) (u : Value), BindsTo s fd ⟨[u], []⟩ [(x, u)])
    (hsp : ∀ H : Hp, SqL K H a (ns.map V.int) → sp [.ref a] H (fun v _ => v = .bl true) fun _ _ _ => False) (hCX : ∀ H e s', CX [] H s₁ (fun _ _ _ => False) e s' → False) :
    codeAny (model P w) callerA (.call (.ref fa) ⟨[.ref a], []⟩) (fun r s' => r = .ok (.ret (.bool true)) ∧ OldK s₁.heap s'.heap ∧ s'.os = s₁.os ∧ PyProof.Rows.AllBare s'.gens) s₁ := by
  have rv := vals_ints hi
  have len := hi.length
  cases hk : K.lookup a with
  | some o =>
    have e := KX a o hk
    rw [ha] at e
    cases e
    refine end_from (H := fun _ => none) KX hns hb hbb hlim hg ha hr F hbind (fun b z => absurd rfl z) (fun b u z => nomatch z) (hsp _ (.inr ⟨_, vs.toArray, _, hk, rfl, rfl, rfl, ?_, by simpa using rv⟩)) fun e s' => hCX _ e s'
    rw [List.size_toArray, len]
    exact hl
  | none =>
    have at1 : ∀ b u, (if b = a then some (HO.frz { cls := .type "list", data := .seq vs.toArray } (.lst (ns.map V.int))) else none) = some u → b = a ∧ u = HO.frz { cls := .type "list", data := .seq vs.toArray } (.lst (ns.map V.int)) := fun b u z => by
      split at z
      · cases z; exact ⟨‹_›, rfl⟩
      · cases z
    refine end_from (H := fun b => if b = a then some (HO.frz { cls := .type "list", data := .seq vs.toArray } (.lst (ns.map V.int))) else none) KX hns hb hbb hlim hg ha hr F hbind (fun b z => ?_) (fun b u z => ?_)
      (hsp _ (.inl (.inr ⟨{ cls := .type "list", data := .seq vs.toArray }, if_pos rfl⟩))) fun e s' => hCX _ e s'
    · split at z
      · rename_i e
        exact ⟨e, hk, _, _, by rw [if_pos e]⟩
      · exact absurd rfl z
    · obtain ⟨rfl, rfl⟩ := at1 b u z
      exact ⟨ha, by rw [List.length_map]; exact hl, vs, _, rv, ha⟩
end
theorem walk_G {l : PySem.W.OpenLaw} {n k : Nat} {q : Program} {loose : List Str} {XP : (Str → Option Value) → Heap → Prop} {YP : World → Heap → Prop} {d : DefRec} {CX : World → CXT} {x : Str}
    (hn : l.most = some n) (hn2 : n ≤ sizeLine) (hdf : d.params.defaults = []) (hr : Room k callerA)
    (F : ∀ (w : World) (mg : Str → Option Value) (fa : Addr) (h : Heap), YP w h → h.Ns mainGlobals mg → mg d.name = some (.ref fa) →
      ∃ (K : PySem.W.Frag) (fd : FuncData) (sp : Sp), K.In h ∧ (∀ (s : Shared) (u : Value), BindsTo s fd ⟨[u], []⟩ [(x, u)]) ∧
        (∀ (H : Hp) (a : Addr) (ns : List Int), ns.length ≤ n → SqL K H a (ns.map V.int) → sp [.ref a] H (fun v _ => v = .bl true) fun _ _ _ => False) ∧ ∀ base : Heap, FnG l.prog w K mg base (CX w) k fa fd [x] sp)
    (hCX : ∀ (w : World) (H : Hp) (s : Shared) (e : Value) (s' : Shared), CX w [] H s (fun _ _ _ => False) e s' → False) :
    PySem.W.WalkO q loose XP YP l.row.toRowW d [] (fun f vs => PySem.call f vs) := by
  refine Att.attach_call hn hdf fun w s₀ s₁ mg mb fa o pm cd doc a vs ns G Y ho hd hcd hmg hobj hints hlen hg => ?_
  obtain ⟨K, fd, sp, KX, hb, hsp, hF⟩ := F w mg fa _ Y G.T.g hmg
  exact law_end KX G.T.g G.T.b G.T.builtins G.T.nolimit hg hobj hints (Nat.le_trans hlen hn2) hr hF hb (fun H hS => hsp H a ns hlen hS) fun H e s' => hCX w H s₁ e s'
theorem law_plain {tbl : List FnI} {gls : List (Str × Lit)} {tys : List Ty} {blt : List Str} {Φ : Fns} {P : Program} {n f : Nat} {i : FnI} {x nm : Str} (hat : (tbl.all fun i => i.at_.2.isNone) = true) (hg : ∀ g, Φ.glob g = (gls[g]?).map fun q => q.2.d) (hgl : (gls.all fun q => litOk q.2) = true)
    (hn : Φ.ncls = 0) (hty : (tys.all fun t => match t with | .cls _ => false | _ => true) = true) (hfr : ∀ f, (mkTab tbl (gls.map (·.1)) [] tys blt).fresh f = Φ.fresh f) (hchk : (tbl.all fun i => fnB (mkTab tbl (gls.map (·.1)) [] tys blt) 0 i) = true)
    (hrun : ∀ (f : Nat) (i : FnI) (as : List Slot), tbl[f]? = some i → Φ.fn f as ≠ .bad → as.length = i.ps.length ∧ runF Φ i.N.length i.body as = Φ.fn f as) (hi : tbl[f]? = some i) (hl : i.lev ≤ far) (hx : i.ps = [x]) (hnm : i.at_ = (nm, none))
    (hlaw : ∀ ns : List Int, ns.length ≤ n → Φ.fn f [.val (.scr ns)] = .ok (.bl true) []) (w : World) (mg : Str → Option Value) (fa : Addr) (h : Heap) (Y : ∃ K : PySem.W.Frag, K.In h ∧ He.SaysD (faOf tbl blt gls) (tbl.map FnI.d) K) (G : h.Ns mainGlobals mg) (hmg : mg nm = some (.ref fa)) :
    ∃ (K : PySem.W.Frag) (fd : FuncData) (sp : Sp), K.In h ∧ (∀ (s : Shared) (u : Value), BindsTo s fd ⟨[u], []⟩ [(x, u)]) ∧
      (∀ (H : Hp) (a : Addr) (ns : List Int), ns.length ≤ n → SqL K H a (ns.map V.int) → sp [.ref a] H (fun v _ => v = .bl true) fun _ _ _ => False) ∧ ∀ base : Heap, FnG P w K mg base (L2.CX P w) (i.lev + 1) fa fd [x] sp := by
  obtain ⟨K, KX, c⟩ := Y
  have F := facts_plain (Φ := Φ) (tys := tys) KX G c hat hg hgl hn hty hfr hchk hrun
  obtain ⟨fd, sp, h1, h2, h3⟩ := law_fn (P := P) (w := w) F hi hl hlaw hx h
  have e : mg i.at_.1 = some (.ref (He.fAd K i.at_)) := F.mgs f i hi (by rw [hnm])
  rw [hnm] at e
  have e2 : fa = He.fAd K i.at_ := by
    have := hmg.symm.trans e
    rw [hnm]
    injection this with this
    injection this
  subst e2
  exact ⟨K, fd, sp, KX, h1, h2, h3⟩
end TI
set_option Elab.async false
set_option linter.all false
set_option maxRecDepth 100000
set_option maxHeartbeats 2000000
namespace TI
open PySem
def R.le {α : Type} (a b : R α) : Prop := a = .bad ∨ a = b
def RS.le (a b : RS) : Prop := a = .bad ∨ a = b
def FR.le (a b : FR) : Prop := a = .bad ∨ a = b
theorem R.le.rfl {α : Type} {a : R α} : a.le a := .inr (Eq.refl _)
theorem RS.le.rfl {a : RS} : a.le a := .inr (Eq.refl _)
theorem R.le.bind {α β : Type} {a b : R α} {f g : α → Env → R β} (h : a.le b) (k : ∀ x e, (f x e).le (g x e)) : (a.bind f).le (b.bind g) := by
  rcases h with rfl | rfl
  · exact .inl (Eq.refl _)
  · cases a with
    | ok x e => exact k x e
    | exc x e => exact .rfl
    | bad => exact .rfl
theorem R.le.noX {α : Type} {a b : R α} (h : a.le b) : a.noX.le b.noX := by
  rcases h with rfl | rfl
  · exact .inl (Eq.refl _)
  · exact .rfl
theorem RS.le.of {α : Type} {a b : R α} {f g : α → Env → RS} (h : a.le b) (k : ∀ x e, (f x e).le (g x e)) : (RS.of a f).le (RS.of b g) := by
  rcases h with rfl | rfl
  · exact .inl (Eq.refl _)
  · cases a with
    | ok x e => exact k x e
    | exc x e => exact .rfl
    | bad => exact .rfl
theorem RS.le.bind {a b : RS} {f g : Env → RS} (h : a.le b) (k : ∀ e, (f e).le (g e)) : (a.bind f).le (b.bind g) := by
  rcases h with rfl | rfl
  · exact .inl (Eq.refl _)
  · cases a with
    | nx e => exact k e
    | _ => exact .rfl
theorem R.le.ite {α : Type} {c : Prop} [Decidable c] {a b a' b' : R α} (h : a.le a') (k : b.le b') : (if c then a else b).le (if c then a' else b') := by
  split
  · exact h
  · exact k
theorem RS.le.ite {c : Prop} [Decidable c] {a b a' b' : RS} (h : a.le a') (k : b.le b') : (if c then a else b).le (if c then a' else b') := by
  split
  · exact h
  · exact k
theorem compL_mono {f g : D → Env → R (Option D)} (k : ∀ d e, (f d e).le (g d e)) : ∀ (l : List D) (e : Env), (compL f l e).le (compL g l e)
  | [], e => .rfl
  | d :: l, e => R.le.bind (k d e) fun o e => R.le.bind (compL_mono k l e) fun r e => .rfl
theorem compL2_mono {f g : D → Env → R (List D)} (k : ∀ d e, (f d e).le (g d e)) : ∀ (l : List D) (e : Env), (compL2 f l e).le (compL2 g l e)
  | [], e => .rfl
  | d :: l, e => R.le.bind (k d e) fun o e => R.le.bind (compL2_mono k l e) fun r e => .rfl
theorem loopW_mono {c c' : Env → R Bool} {b b' : Env → RS} (hc : ∀ e, (c e).le (c' e)) (hb : ∀ e, (b e).le (b' e)) : ∀ (n : Nat) (e : Env), (loopW n c b e).le (loopW n c' b' e)
  | 0, e => .rfl
  | n + 1, e => RS.le.of (hc e) fun t e => RS.le.ite (RS.le.bind (hb e) fun e => loopW_mono hc hb n e) .rfl
theorem loopF_mono {f g : D → Env → RS} (k : ∀ d e, (f d e).le (g d e)) : ∀ (l : List D) (e : Env), (loopF f l e).le (loopF g l e)
  | [], e => .rfl
  | d :: l, e => RS.le.bind (k d e) fun e => loopF_mono k l e
structure Fns.le (Φ Ψ : Fns) : Prop where
  fn : ∀ f as, (Φ.fn f as).le (Ψ.fn f as)
  glob : Φ.glob = Ψ.glob
  init : Φ.init = Ψ.init
  ncls : Φ.ncls = Ψ.ncls
section
variable {Φ Ψ : Fns} (L : Φ.le Ψ)
include L
theorem callR_mono (f : Nat) (l : List AV) (e : Env) : (callR Φ f l e).le (callR Ψ f l e) := by
  unfold callR
  cases slotsL e l with
  | none => exact .rfl
  | some as =>
    dsimp only
    refine .ite ?_ .rfl
    rcases L.fn f as with h | h
    · rw [h]; exact .inl rfl
    · rw [h]; exact .rfl
theorem makeR_mono (c : Nat) (l : List AV) (e : Env) : (makeR Φ c l e).le (makeR Ψ c l e) := by
  unfold makeR
  rw [L.init]
  cases valsL l with
  | none => exact .rfl
  | some as =>
    dsimp only
    rcases L.fn (Ψ.init c) (.own (.ins c []) :: as.map .val) with h | h
    · rw [h]; exact .inl rfl
    · rw [h]; exact .rfl
theorem isiOk_eq (d : D) : isiOk Φ d = isiOk Ψ d := by
  cases d with
  | ins c fs => simp only [isiOk, L.ncls]
  | _ => rfl
mutual
theorem evE_mono : ∀ (x : E) (e : Env), (evE Φ x e).le (evE Ψ x e)
  | .lit l, e => by simp only [evE]; exact .rfl
  | .var i, e => by simp only [evE]; exact .rfl
  | .frz i, e => by simp only [evE]; exact .rfl
  | .mv i, e => by simp only [evE]; exact .rfl
  | .glob k, e => by simp only [evE, L.glob]; exact .rfl
  | .bin o a b, e => by simp only [evE]; exact .bind (evA_mono a e) fun x e => .bind (evA_mono b e) fun y e => .rfl
  | .cmp o a b, e => by simp only [evE]; exact .bind (evA_mono a e) fun x e => .bind (evA_mono b e) fun y e => .rfl
  | .neg a, e => by simp only [evE]; exact .bind (evE_mono a e) fun x e => .rfl
  | .chain o1 o2 a b c, e => by simp only [evE]; exact .bind (evA_mono a e) fun x e => .bind (evA_mono b e) fun y e => .bind .rfl fun t e => .ite (.bind (evA_mono c e) fun z e => .rfl) .rfl
  | .and_ a b, e => by simp only [evE]; exact .bind (evE_mono a e) fun x e => .bind .rfl fun t e => .ite (.bind (evE_mono b e) fun d e => .rfl) .rfl
  | .or_ a b, e => by simp only [evE]; exact .bind (evE_mono a e) fun x e => .bind .rfl fun t e => .ite .rfl (.bind (evE_mono b e) fun d e => .rfl)
  | .not_ a, e => by simp only [evE]; exact .bind (evE_mono a e) fun x e => .rfl
  | .ite c a b, e => by simp only [evE]; exact .bind (evE_mono c e) fun x e => .bind .rfl fun t e => .ite (.bind (evE_mono a e) fun d e => .rfl) (.bind (evE_mono b e) fun d e => .rfl)
  | .tup es, e => by simp only [evE]; exact .bind (evAs_mono es e) fun l e => .rfl
  | .lst es, e => by simp only [evE]; exact .bind (evAs_mono es e) fun l e => .rfl
  | .dk es, e => by simp only [evE]; exact .bind (evAs_mono es e) fun l e => .rfl
  | .dt es, e => by simp only [evE]; exact .bind (evAs_mono es e) fun l e => .rfl
  | .idx a b, e => by simp only [evE]; exact .bind (evA_mono a e) fun x e => .bind (evA_mono b e) fun y e => .rfl
  | .slc a lo hi, e => by simp only [evE]; exact .bind (evA_mono a e) fun x e => .bind (evB_mono lo e) fun i e => .bind (evB_mono hi e) fun j e => .rfl
  | .rev a, e => by simp only [evE]; exact .bind (evA_mono a e) fun x e => .rfl
  | .isi a ts, e => by simp only [evE, isiOk_eq L]; exact .bind (evA_mono a e) fun x e => .rfl
  | .dget a k d, e => by simp only [evE]; exact .bind (evA_mono a e) fun x e => .bind .rfl fun _ e => .bind (evA_mono k e) fun y e => .bind (evA_mono d e) fun z e => .rfl
  | .bf f as, e => by simp only [evE]; exact .bind (evAs_mono as e) fun l e => .rfl
  | .bm m r as, e => by simp only [evE]; exact .bind (evA_mono r e) fun x e => .bind .rfl fun p e => .bind (evAs_mono as e) fun l e => .rfl
  | .mu m i as, e => by simp only [evE]; exact .ite (.bind (evAs_mono as e) fun l e => .rfl) .rfl
  | .call f as, e => by simp only [evE]; exact .bind (evAs_mono as e) fun l e => callR_mono L f l e
  | .make c as, e => by simp only [evE]; exact .bind (evAs_mono as e) fun l e => makeR_mono L c l e
  | .fld c k a, e => by simp only [evE]; exact .bind (evA_mono a e) fun x e => .rfl
  | .comp elt (.mk tg it c) own, e => by
    simp only [evE]
    exact .bind (evIt_mono it e) fun items e => .bind (compL_mono (fun d e' => .noX (.bind .rfl fun e1 _ => .bind (.bind (evE_mono c e1) fun x e => .rfl) fun t e2 => .ite (.bind (evE_mono elt e2) fun y e3 => .rfl) .rfl)) items e) fun r e' => .rfl
  | .comp2 elt (.mk tg it c) (.mk tg2 it2 c2) own own2, e => by
    simp only [evE]
    exact .bind (evIt_mono it e) fun items e => .bind (compL2_mono (fun d e' => .noX (.bind .rfl fun e1 _ => .bind (.bind (evE_mono c e1) fun x e => .rfl) fun t e2 => .ite (.bind (evIt_mono it2 e2) fun items2 e3 =>
      compL_mono (fun d2 e'' => .noX (.bind .rfl fun e4 _ => .bind (.bind (evE_mono c2 e4) fun x e => .rfl) fun t2 e5 => .ite (.bind (evE_mono elt e5) fun y e6 => .rfl) .rfl)) items2 e3) .rfl)) items e) fun r e' => .rfl
  | .dcomp k v (.mk tg it c) own, e => by
    simp only [evE]
    exact .bind (evIt_mono it e) fun items e => .bind (compL_mono (fun d e' => .noX (.bind .rfl fun e1 _ => .bind (.bind (evE_mono c e1) fun x e => .rfl) fun t e2 => .ite (.bind (evE_mono k e2) fun x e3 => .bind (evE_mono v e3) fun y e4 => .rfl) .rfl)) items e) fun r e' => .rfl
theorem evA_mono : ∀ (x : A) (e : Env), (evA Φ x e).le (evA Ψ x e)
  | .e x, e => by simp only [evA]; exact .bind (evE_mono x e) fun d e => .rfl
  | .o i, e => by simp only [evA]; exact .rfl
theorem evAs_mono : ∀ (x : As) (e : Env), (evAs Φ x e).le (evAs Ψ x e)
  | .nil, e => by simp only [evAs]; exact .rfl
  | .cons a as, e => by simp only [evAs]; exact .bind (evA_mono a e) fun x e => .bind (evAs_mono as e) fun l e => .rfl
theorem evB_mono : ∀ (x : As) (e : Env), (evB Φ x e).le (evB Ψ x e)
  | .nil, e => by simp only [evB]; exact .rfl
  | .cons a .nil, e => by simp only [evB]; exact .bind (evA_mono a e) fun x e => .rfl
  | .cons a (.cons b c), e => by simp only [evB]; exact .rfl
theorem evIt_mono : ∀ (x : It) (e : Env), (evIt Φ x e).le (evIt Ψ x e)
  | .seq a, e => by simp only [evIt]; exact .bind (evE_mono a e) fun x e => .rfl
  | .rng1 a, e => by simp only [evIt]; exact .bind (.bind (evA_mono a e) fun x e => .rfl) fun l e => .rfl
  | .rng2 a b, e => by simp only [evIt]; exact .bind (.bind (evA_mono a e) fun x e => .bind (.bind (evA_mono b e) fun y e => .rfl) fun l e => .rfl) fun l e => .rfl
  | .enum a, e => by simp only [evIt]; exact .bind (evE_mono a e) fun x e => .rfl
  | .zip a b, e => by simp only [evIt]; exact .bind (evA_mono a e) fun x e => .bind (evA_mono b e) fun y e => .rfl
  | .items a, e => by simp only [evIt]; exact .rfl
end
mutual
theorem evS_mono : ∀ (x : S) (e : Env), (evS Φ x e).le (evS Ψ x e)
  | .set i x, e => by simp only [evS]; exact .of (evE_mono L x e) fun d e => .rfl
  | .setO i x, e => by simp only [evS]; exact .of (evE_mono L x e) fun d e => .rfl
  | .setT t x, e => by simp only [evS]; exact .of (evE_mono L x e) fun d e => .rfl
  | .par2 i j oi oj a b, e => by simp only [evS]; exact .of (evE_mono L a e) fun d e => .of (evE_mono L b e) fun d e => .rfl
  | .par3 i j k oi oj ok a b c, e => by simp only [evS]; exact .of (evE_mono L a e) fun d e => .of (evE_mono L b e) fun d e => .of (evE_mono L c e) fun d e => .rfl
  | .sub i k x, e => by simp only [evS]; exact .of (evA_mono L (.e x) e) fun d e => .ite (.of (evA_mono L (.e k) e) fun d e => .rfl) .rfl
  | .fldS i k x, e => by simp only [evS]; exact .of (evE_mono L x e) fun d e => .rfl
  | .expr x, e => by simp only [evS]; exact .of (evE_mono L x e) fun d e => .rfl
  | .ret x, e => by simp only [evS]; exact .of (evE_mono L x e) fun d e => .rfl
  | .retN, e => by simp only [evS]; exact .rfl
  | .pass, e => by simp only [evS]; exact .rfl
  | .dead, e => by simp only [evS]; exact .rfl
  | .ite c a b, e => by simp only [evS]; exact .of (evE_mono L c e) fun x e => .of .rfl fun t e => .ite (evSs_mono a e) (evSs_mono b e)
  | .while_ c b, e => by simp only [evS]; exact loopW_mono (fun e => .bind (evE_mono L c e) fun x e => .rfl) (fun e => evSs_mono b e) _ e
  | .for_ t it b, e => by
    simp only [evS]
    refine .of (evIt_mono L it e) fun l e => loopF_mono (fun d e => ?_) l e
    cases asg t d e with
    | none => exact .rfl
    | some e => exact evSs_mono b e
theorem evSs_mono : ∀ (x : Ss) (e : Env), (evSs Φ x e).le (evSs Ψ x e)
  | .nil, e => by simp only [evSs]; exact .rfl
  | .cons s ss, e => by simp only [evSs]; exact .bind (evS_mono s e) fun e => evSs_mono ss e
end
theorem runF_mono (n : Nat) (body : Ss) (as : List Slot) : (runF Φ n body as).le (runF Ψ n body as) := by
  unfold runF
  rcases evSs_mono L body (as ++ List.replicate (n - as.length) .un) with h | h
  · rw [h]; exact .inl rfl
  · rw [h]; exact .inr rfl
end
structure Bd where
  ps : Nat
  n : Nat
  body : Ss
structure Rest where
  fresh : Nat → Bool
  glob : Nat → Option D
  init : Nat → Nat
  ncls : Nat
def fnK (bs : Nat → Option Bd) (r : Rest) : Nat → Nat → List Slot → FR
  | 0, _, _ => .bad
  | k + 1, f, as => match bs f with
    | some b => if as.length = b.ps then runF ⟨fnK bs r k, r.fresh, r.glob, r.init, r.ncls⟩ b.n b.body as else .bad
    | none => .bad
def fns (bs : Nat → Option Bd) (r : Rest) (k : Nat) : Fns := ⟨fnK bs r k, r.fresh, r.glob, r.init, r.ncls⟩
theorem fns_le (bs : Nat → Option Bd) (r : Rest) : ∀ k, (fns bs r k).le (fns bs r (k + 1))
  | 0 => ⟨fun f as => .inl rfl, rfl, rfl, rfl⟩
  | k + 1 => ⟨fun f as => by
    show (fnK bs r (k + 1) f as).le (fnK bs r (k + 2) f as)
    unfold fnK
    cases bs f with
    | none => exact .inl rfl
    | some b =>
      dsimp only
      split
      · exact runF_mono (fns_le bs r k) b.n b.body as
      · exact .inl rfl, rfl, rfl, rfl⟩
theorem fns_run {bs : Nat → Option Bd} {r : Rest} {k f : Nat} {b : Bd} {as : List Slot} (hb : bs f = some b) (h : (fns bs r k).fn f as ≠ .bad) : as.length = b.ps ∧ runF (fns bs r k) b.n b.body as = (fns bs r k).fn f as := by
  cases k with
  | zero => exact absurd rfl h
  | succ k =>
    have e : (fns bs r (k + 1)).fn f as = if as.length = b.ps then runF (fns bs r k) b.n b.body as else .bad := by
      show fnK bs r (k + 1) f as = _
      unfold fnK
      rw [hb]
      rfl
    rw [e] at h ⊢
    split at h
    · rename_i hl
      refine ⟨hl, ?_⟩
      rw [if_pos hl]
      rcases runF_mono (fns_le bs r k) b.n b.body as with z | z
      · exact absurd z h
      · exact z.symm
    · exact absurd rfl h
end TI
set_option Elab.async false
set_option linter.all false
set_option maxRecDepth 100000
set_option maxHeartbeats 2000000
namespace TI
open PySem PySem.Spec L2
def bdOf (tbl : List FnI) (f : Nat) : Option Bd := (tbl[f]?).map fun i => ⟨i.ps.length, i.N.length, i.body⟩
def restOf (tbl : List FnI) (gls : List (Str × Lit)) : Rest := ⟨fun f => match tbl[f]? with
    | some i => i.fresh
    | none => false, fun g => (gls[g]?).map fun q => q.2.d, fun _ => 0, 0⟩
def fnsOf (tbl : List FnI) (gls : List (Str × Lit)) (k : Nat) : Fns := fns (bdOf tbl) (restOf tbl gls) k
theorem law_tbl {tbl : List FnI} {gls : List (Str × Lit)} {tys : List Ty} {blt : List Str} {P : Program} {n f k : Nat} {i : FnI} {x nm : Str} (hat : (tbl.all fun i => i.at_.2.isNone) = true) (hgl : (gls.all fun q => litOk q.2) = true)
    (hty : (tys.all fun t => match t with | .cls _ => false | _ => true) = true) (hchk : (tbl.all fun i => fnB (mkTab tbl (gls.map (·.1)) [] tys blt) 0 i) = true)
    (hi : tbl[f]? = some i) (hl : i.lev ≤ far) (hx : i.ps = [x]) (hnm : i.at_ = (nm, none))
    (hlaw : ∀ ns : List Int, ns.length ≤ n → (fnsOf tbl gls k).fn f [.val (.scr ns)] = .ok (.bl true) []) (w : World) (mg : Str → Option Value) (fa : Addr) (h : Heap) (Y : ∃ K : PySem.W.Frag, K.In h ∧ He.SaysD (faOf tbl blt gls) (tbl.map FnI.d) K) (G : h.Ns mainGlobals mg) (hmg : mg nm = some (.ref fa)) :
    ∃ (K : PySem.W.Frag) (fd : FuncData) (sp : Sp), K.In h ∧ (∀ (s : Shared) (u : Value), BindsTo s fd ⟨[u], []⟩ [(x, u)]) ∧
      (∀ (H : Hp) (a : Addr) (ns : List Int), ns.length ≤ n → SqL K H a (ns.map V.int) → sp [.ref a] H (fun v _ => v = .bl true) fun _ _ _ => False) ∧ ∀ base : Heap, FnG P w K mg base (L2.CX P w) (i.lev + 1) fa fd [x] sp :=
  law_plain (Φ := fnsOf tbl gls k) hat (fun g => rfl) hgl rfl hty (fun f => by
    show (match tbl[f]? with
      | some i => i.fresh
      | none => false) = _
    rfl) hchk (fun f i as hi h => fns_run (b := ⟨i.ps.length, i.N.length, i.body⟩) (by show (tbl[f]?).map _ = _; rw [hi]; rfl) h) hi hl hx hnm hlaw w mg fa h Y G hmg
end TI
set_option Elab.async false
set_option linter.all false
set_option maxRecDepth 100000
set_option maxHeartbeats 2000000
namespace TI
open PySem
theorem fns_succ {bs : Nat → Option Bd} {r : Rest} {k f : Nat} {b : Bd} {as : List Slot} (hb : bs f = some b) (hl : as.length = b.ps) : (fns bs r (k + 1)).fn f as = runF (fns bs r k) b.n b.body as := by
  show fnK bs r (k + 1) f as = _
  unfold fnK
  rw [hb]
  exact if_pos hl
def foldC {σ : Type} (step : D → σ → Option D × σ) : List D → σ → List D × σ
  | [], s => ([], s)
  | d :: l, s => (match (step d s).1 with
    | some y => y :: (foldC step l (step d s).2).1
    | none => (foldC step l (step d s).2).1, (foldC step l (step d s).2).2)
theorem compL_fold {σ : Type} {f : D → Env → R (Option D)} {fill : σ → Env} {step : D → σ → Option D × σ} : ∀ (l : List D) (s : σ), (∀ d ∈ l, ∀ s, f d (fill s) = .ok (step d s).1 (fill (step d s).2)) → compL f l (fill s) = .ok (foldC step l s).1 (fill (foldC step l s).2)
  | [], s, _ => rfl
  | d :: l, s, h => by
    simp only [compL, h d List.mem_cons_self s, R.bind, compL_fold l (step d s).2 (fun x hx => h x (List.mem_cons_of_mem _ hx)), foldC] <;> rfl
theorem compL_map {σ : Type} {f : D → Env → R (Option D)} {fill : σ → Env} {g : D → Option D} (nxt : D → σ → σ) : ∀ (l : List D) (s : σ), (∀ d ∈ l, ∀ s, f d (fill s) = .ok (g d) (fill (nxt d s))) → ∃ s', compL f l (fill s) = .ok (l.filterMap g) (fill s')
  | [], s, _ => ⟨s, rfl⟩
  | d :: l, s, h => by
    obtain ⟨s', e⟩ := compL_map nxt l (nxt d s) fun x hx => h x (List.mem_cons_of_mem _ hx)
    refine ⟨s', ?_⟩
    simp only [compL, h d List.mem_cons_self s, R.bind, e]
    cases hg : g d <;> simp [List.filterMap_cons, hg]
theorem compL_rel {σ : Type} {f : D → Env → R (Option D)} {fill : σ → Env} {Iv : σ → Prop} {Q : D → Prop} : ∀ (l : List D) (s : σ), Iv s → (∀ d ∈ l, ∀ s, Iv s → ∃ y s', f d (fill s) = .ok (some y) (fill s') ∧ Iv s' ∧ Q y) →
    ∃ ys s', compL f l (fill s) = .ok ys (fill s') ∧ Iv s' ∧ ys.length = l.length ∧ ∀ y ∈ ys, Q y
  | [], s, i, _ => ⟨[], s, rfl, i, rfl, fun _ h => nomatch h⟩
  | d :: l, s, i, h => by
    obtain ⟨y, s1, e1, i1, q1⟩ := h d List.mem_cons_self s i
    obtain ⟨ys, s2, e2, i2, n2, q2⟩ := compL_rel l s1 i1 fun x hx => h x (List.mem_cons_of_mem _ hx)
    refine ⟨y :: ys, s2, ?_, i2, by simp [n2], fun z hz => ?_⟩
    · simp only [compL, e1, R.bind, e2]
    · rcases List.mem_cons.mp hz with rfl | hz
      · exact q1
      · exact q2 z hz
theorem ev_comp {Φ : Fns} {elt : E} {tg : Tg} {it : It} {c : E} {own : List Nat} {e e1 e2 : Env} {items r : List D} (hi : evIt Φ it e = .ok items e1)
    (hb : compL (fun d e' => R.noX ((R.of (asg tg d (wipe e' own)) e').bind fun e₁ _ => ((evE Φ c e₁).bind fun x e => R.of (tru x) e).bind fun t e₂ => if t then (evE Φ elt e₂).bind fun y e₃ => .ok (some y) e₃ else .ok none e₂)) items e1 = .ok r e2)
    (hl : r.length ≤ lim) : evE Φ (.comp elt (.mk tg it c) own) e = .ok (.lst r) (rest e1 e2 own) := by
  simp only [evE, hi, R.bind, hb]
  rw [if_pos hl]
theorem loopF_inv {σ : Type} {f : D → Env → RS} {fill : σ → Env} {Iv : List D → σ → Prop} : ∀ (l pre : List D) (s : σ), Iv pre s → (∀ (pre : List D) (d : D) (s : σ), d ∈ l → Iv pre s → ∃ s', f d (fill s) = .nx (fill s') ∧ Iv (pre ++ [d]) s') → ∃ s', loopF f l (fill s) = .nx (fill s') ∧ Iv (pre ++ l) s'
  | [], pre, s, i, _ => ⟨s, rfl, by simpa using i⟩
  | d :: l, pre, s, i, h => by
    obtain ⟨s1, e1, i1⟩ := h pre d s List.mem_cons_self i
    obtain ⟨s2, e2, i2⟩ := loopF_inv l (pre ++ [d]) s1 i1 fun p x s hx => h p x s (List.mem_cons_of_mem _ hx)
    refine ⟨s2, ?_, by simpa using i2⟩
    simp only [loopF, e1, RS.bind_nx, e2]
theorem loopW_inv {σ : Type} {c : Env → R Bool} {b : Env → RS} {fill : σ → Env} {Iv : σ → Prop} (m : σ → Nat) (st : ∀ s, Iv s → (∃ s', c (fill s) = .ok false (fill s') ∧ Iv s' ∧ m s' = 0) ∨ (∃ s' s'', c (fill s) = .ok true (fill s') ∧ b (fill s') = .nx (fill s'') ∧ Iv s'' ∧ m s'' < m s)) :
    ∀ (n : Nat) (s : σ), Iv s → m s < n → ∃ s', loopW n c b (fill s) = .nx (fill s') ∧ Iv s' ∧ m s' = 0
  | 0, s, _, h => absurd h (Nat.not_lt_zero _)
  | n + 1, s, i, h => by
    rcases st s i with ⟨s1, e1, i1, m1⟩ | ⟨s1, s2, e1, e2, i2, m2⟩
    · exact ⟨s1, by simp [loopW, e1], i1, m1⟩
    · obtain ⟨s3, e3, i3, m3⟩ := loopW_inv m st n s2 i2 (by omega)
      refine ⟨s3, ?_, i3, m3⟩
      simp only [loopW, e1, RS.of_ok, if_true, e2, RS.bind_nx, e3]
def cl (w : List Char) : List D := w.map fun c => .str [c]
theorem cl_len (w : List Char) : (cl w).length = w.length := by simp [cl]
theorem cl_app (u v : List Char) : cl (u ++ v) = cl u ++ cl v := by simp [cl]
theorem cl_plain : ∀ w : List Char, plainDs (cl w) = true
  | [] => rfl
  | c :: w => by simpa [cl, plainDs, plainD] using cl_plain w
theorem cl_dep : ∀ w : List Char, depDs (cl w) = 0
  | [] => rfl
  | c :: w => by simpa [cl, depDs, depD] using cl_dep w
theorem cl_eqs : ∀ u v : List Char, eqDs (cl u) (cl v) = some (decide (u = v))
  | [], [] => by simp [cl, eqDs]
  | [], _ :: _ => by simp [cl, eqDs]
  | _ :: _, [] => by simp [cl, eqDs]
  | a :: u, b :: v => by
    have ih := cl_eqs u v
    unfold cl at ih
    simp only [cl, List.map_cons, eqDs, eqD, ih]
    by_cases h1 : a = b <;> by_cases h2 : u = v <;> simp [h1, h2]
theorem cl_eqT (u v : List Char) : eqT (.lst (cl u)) (.lst (cl v)) = some (decide (u = v)) := by
  unfold eqT
  simp only [plainD, depD, cl_plain, cl_dep, eqD, cl_eqs]
  rfl
theorem cl_eq0 (u : List Char) : eqT (.lst (cl u)) (.lst []) = some (decide (u = [])) := cl_eqT u []
theorem cl_strL : ∀ w : List Char, strL (cl w) = some (w.map fun c => [c])
  | [] => rfl
  | c :: w => by
    have := cl_strL w
    unfold cl at this
    simp only [cl, List.map_cons, strL, this, Option.map]
theorem flat_one : ∀ w : List Char, (w.map fun c => [c]).flatten = w
  | [] => rfl
  | c :: w => by simp [flat_one w]
theorem cl_join {w : List Char} (h : w.length ≤ lim) : joinD (.str []) [.lst (cl w)] = some (.str w) := by
  simp only [joinD, cl_strL, Option.bind, flat_one]
  rw [if_pos h]
theorem at_last {α : Type} (l : List α) : at? l (-1) = l.getLast? := by
  unfold at?
  rw [if_neg (by omega)]
  cases l with
  | nil => simp
  | cons a r =>
    rw [if_pos (by simp only [List.length_cons]; omega)]
    rw [List.getLast?_eq_getElem?]
    congr 1
    simp only [List.length_cons]
    omega
theorem cl_last (w : List Char) : (cl w).getLast? = w.getLast?.map fun c => .str [c] := by simp [cl]
theorem cl_drop (w : List Char) : (cl w).dropLast = cl w.dropLast := by simp [cl, List.map_dropLast]
theorem eqT_str (a b : List Char) : eqT (.str a) (.str b) = some (a == b) := rfl
theorem eqT_int (a b : Int) : eqT (.int a) (.int b) = some (a == b) := rfl
theorem eqT_bl (a b : Bool) : eqT (.bl a) (.bl b) = some (a == b) := rfl
def sl (ws : List (List Char)) : List D := ws.map .str
theorem ints_plain : ∀ l : List Int, plainDs (l.map .int) = true
  | [] => rfl
  | a :: l => by simpa [plainDs, plainD] using ints_plain l
theorem ints_dep : ∀ l : List Int, depDs (l.map .int) = 0
  | [] => rfl
  | a :: l => by simpa [depDs, depD] using ints_dep l
theorem ints_eqs : ∀ u v : List Int, eqDs (u.map .int) (v.map .int) = some (decide (u = v))
  | [], [] => by simp [eqDs]
  | [], _ :: _ => by simp [eqDs]
  | _ :: _, [] => by simp [eqDs]
  | a :: u, b :: v => by
    simp only [List.map_cons, eqDs, eqD, ints_eqs u v]
    by_cases h1 : a = b <;> by_cases h2 : u = v <;> simp [h1, h2]
theorem ints_eq0 (u : List Int) : eqT (.lst (u.map .int)) (.lst []) = some (decide (u = [])) := by
  unfold eqT
  simp only [plainD, depD, ints_plain, ints_dep, eqD]
  have := ints_eqs u []
  simp only [List.map_nil] at this
  rw [this]
  rfl
end TI
set_option Elab.async false
set_option linter.all false
set_option maxRecDepth 100000
set_option maxHeartbeats 2000000
namespace TI
open PySem
theorem filterMap_if {α β : Type} (p : α → Bool) (g : α → β) : ∀ l : List α, (l.filterMap fun d => if p d then some (g d) else none) = (l.filter p).map g
  | [] => rfl
  | a :: l => by
    have ih := filterMap_if p g l
    cases h : p a <;> simp [List.filterMap_cons, List.filter_cons, h, ih]
theorem set_back {e : Env} {i : Nat} {s0 : Slot} (h : e[i]? = some s0) : e.set i s0 = e := by
  obtain ⟨hl, he⟩ := List.getElem?_eq_some_iff.mp h
  rw [← he]
  exact List.set_getElem_self hl
theorem getD_of {e : Env} {i : Nat} {s0 t : Slot} (h : e[i]? = some s0) : e.getD i t = s0 := by
  rw [List.getD_eq_getElem?_getD, h]
  rfl
theorem ev_gen {Φ : Fns} {elt c : E} {i : Nat} {it : It} {e e1 : Env} {items : List D} {s0 : Slot} (p : D → Bool) (g : D → D) (hi : evIt Φ it e = .ok items e1) (h0 : e1[i]? = some s0)
    (hc : ∀ d ∈ items, evE Φ c (e1.set i (.val d)) = .ok (.bl (p d)) (e1.set i (.val d))) (hg : ∀ d ∈ items, p d = true → evE Φ elt (e1.set i (.val d)) = .ok (g d) (e1.set i (.val d))) (hl : items.length ≤ lim) :
    evE Φ (.comp elt (.mk (.n i) it c) [i]) e = .ok (.lst ((items.filter p).map g)) e1 := by
  have key := compL_map (f := fun d e' => R.noX ((R.of (asg (.n i) d (wipe e' [i])) e').bind fun e₁ _ => ((evE Φ c e₁).bind fun x e => R.of (tru x) e).bind fun t e₂ => if t then (evE Φ elt e₂).bind fun y e₃ => .ok (some y) e₃ else .ok none e₂))
    (fill := fun s : Slot => e1.set i s) (g := fun d => if p d then some (g d) else none) (fun d _ => .val d) items s0 (by
      intro d hd s
      have e2 : (wipe (e1.set i s) [i]).set i (.val d) = e1.set i (.val d) := by
        simp only [wipe, List.set_set]
      simp only [asg, e2, R.of, R.bind, hc d hd, tru]
      cases hp : p d
      · simp [R.noX]
      · simp [hg d hd hp, R.noX])
  obtain ⟨s', hk⟩ := key
  simp only [set_back h0] at hk
  have h2 := ev_comp (own := [i]) hi hk (by
    rw [filterMap_if, List.length_map]
    exact Nat.le_trans (List.length_filter_le _ _) hl)
  rw [h2, filterMap_if]
  simp only [rest, getD_of h0, List.set_set, set_back h0]
theorem ev_map {Φ : Fns} {elt : E} {i : Nat} {it : It} {e e1 : Env} {items : List D} {s0 : Slot} (g : D → D) (hi : evIt Φ it e = .ok items e1) (h0 : e1[i]? = some s0)
    (hg : ∀ d ∈ items, evE Φ elt (e1.set i (.val d)) = .ok (g d) (e1.set i (.val d))) (hl : items.length ≤ lim) :
    evE Φ (.comp elt (.mk (.n i) it (.lit (.bl true))) [i]) e = .ok (.lst (items.map g)) e1 := by
  have := ev_gen (c := .lit (.bl true)) (fun _ => true) g hi h0 (fun d _ => by simp only [evE, Lit.d]) (fun d hd _ => hg d hd) hl
  rw [this, List.filter_eq_self.mpr (fun _ _ => rfl)]
theorem ev_mapL {α : Type} {Φ : Fns} {elt : E} {i : Nat} {it : It} {e e1 : Env} {items : List α} {s0 : Slot} (f g : α → D) (hi : evIt Φ it e = .ok (items.map f) e1) (h0 : e1[i]? = some s0) (inj : ∀ a b, f a = f b → g a = g b)
    (hg : ∀ d ∈ items, evE Φ elt (e1.set i (.val (f d))) = .ok (g d) (e1.set i (.val (f d)))) (hl : items.length ≤ lim) :
    evE Φ (.comp elt (.mk (.n i) it (.lit (.bl true))) [i]) e = .ok (.lst (items.map g)) e1 := by
  classical
  let G : D → D := fun d => if h : ∃ a, f a = d then g h.choose else .non
  have hG : ∀ a, G (f a) = g a := by
    intro a
    have h : ∃ b, f b = f a := ⟨a, rfl⟩
    show (if h : ∃ b, f b = f a then g h.choose else .non) = g a
    rw [dif_pos h]
    exact inj _ _ h.choose_spec
  have := ev_map G hi h0 (by
    intro d hd
    obtain ⟨a, ha, rfl⟩ := List.mem_map.mp hd
    rw [hG]
    exact hg a ha) (by simpa using hl)
  rw [this, List.map_map]
  have : (G ∘ f) = g := funext hG
  rw [this]
theorem ev_map2 {Φ : Fns} {elt : E} {i j : Nat} {it : It} {e e1 : Env} {items : List (D × D)} {s0 t0 : Slot} (hij : i ≠ j) (g : D × D → D) (hi : evIt Φ it e = .ok (items.map fun p => .tup [p.1, p.2]) e1) (h0 : e1[i]? = some s0) (h1 : e1[j]? = some t0)
    (hg : ∀ p ∈ items, evE Φ elt ((e1.set i (.val p.1)).set j (.val p.2)) = .ok (g p) ((e1.set i (.val p.1)).set j (.val p.2))) (hl : items.length ≤ lim) :
    evE Φ (.comp elt (.mk (.cons (.n i) (.cons (.n j) .nil)) it (.lit (.bl true))) [i, j]) e = .ok (.lst (items.map g)) e1 := by
  let G : D → Option D := fun d => match d with
    | .tup [x, y] => some (g (x, y))
    | _ => none
  let nx : D → Slot × Slot → Slot × Slot := fun d _ => match d with
    | .tup [x, y] => (.val x, .val y)
    | _ => (.un, .un)
  have key := compL_map (f := fun d e' => R.noX ((R.of (asg (.cons (.n i) (.cons (.n j) .nil)) d (wipe e' [i, j])) e').bind fun e₁ _ => ((evE Φ (.lit (.bl true)) e₁).bind fun x e => R.of (tru x) e).bind fun t e₂ => if t then (evE Φ elt e₂).bind fun y e₃ => .ok (some y) e₃ else .ok none e₂))
    (fill := fun s : Slot × Slot => (e1.set i s.1).set j s.2) (g := G) nx (items.map fun p => .tup [p.1, p.2]) (s0, t0) (by
      intro d hd s
      obtain ⟨p, hp, rfl⟩ := List.mem_map.mp hd
      have e2 : ((wipe ((e1.set i s.1).set j s.2) [i, j]).set i (.val p.1)).set j (.val p.2) = (e1.set i (.val p.1)).set j (.val p.2) := by
        simp only [wipe, List.set_set]
        rw [List.set_comm _ _ hij.symm, List.set_set, List.set_set]
      simp only [asg, Option.bind, e2, R.of, R.bind, evE, Lit.d, tru, if_true, hg p hp, R.noX]
      rfl)
  obtain ⟨s', hk⟩ := key
  have hb : (e1.set i s0).set j t0 = e1 := by rw [set_back h0, set_back h1]
  have e3 : ((items.map fun p : D × D => (.tup [p.1, p.2] : D)).filterMap G) = items.map g := by
    rw [List.filterMap_map]
    have : (G ∘ fun p : D × D => (.tup [p.1, p.2] : D)) = fun p => some (g p) := funext fun p => rfl
    rw [this]
    exact List.filterMap_eq_map' ▸ rfl
  simp only [hb, e3] at hk
  have h2 := ev_comp (own := [i, j]) hi hk (by simpa using hl)
  rw [h2]
  simp only [rest, getD_of h0, getD_of h1]
  rw [List.set_set, List.set_comm _ _ hij, List.set_set, set_back h1, set_back h0]
theorem ev_draw {σ : Type} {Φ : Fns} {elt : E} {i : Nat} {it : It} {e : Env} {items : List D} {fill : σ → Slot → Env} {Iv : σ → Prop} {Q : D → Prop} (hf : ∀ a s t, (fill a s).set i t = fill a t) (hg0 : ∀ a s, (fill a s)[i]? = some s) {a : σ} {s0 : Slot}
    (hi : evIt Φ it e = .ok items (fill a s0)) (ha : Iv a) (hg : ∀ d ∈ items, ∀ a, Iv a → ∃ y a', evE Φ elt (fill a (.val d)) = .ok y (fill a' (.val d)) ∧ Iv a' ∧ Q y) (hl : items.length ≤ lim) :
    ∃ ys a', evE Φ (.comp elt (.mk (.n i) it (.lit (.bl true))) [i]) e = .ok (.lst ys) (fill a' s0) ∧ Iv a' ∧ ys.length = items.length ∧ ∀ y ∈ ys, Q y := by
  have key := compL_rel (f := fun d e' => R.noX ((R.of (asg (.n i) d (wipe e' [i])) e').bind fun e₁ _ => ((evE Φ (.lit (.bl true)) e₁).bind fun x e => R.of (tru x) e).bind fun t e₂ => if t then (evE Φ elt e₂).bind fun y e₃ => .ok (some y) e₃ else .ok none e₂))
    (fill := fun p : σ × Slot => fill p.1 p.2) (Iv := fun p => Iv p.1) (Q := Q) items (a, s0) ha (by
      intro d hd p hp
      obtain ⟨y, a', h1, h2, h3⟩ := hg d hd p.1 hp
      refine ⟨y, (a', .val d), ?_, h2, h3⟩
      have e2 : (wipe (fill p.1 p.2) [i]).set i (.val d) = fill p.1 (.val d) := by
        simp only [wipe, hf]
      simp only [asg, e2, R.of, R.bind, evE, Lit.d, tru, if_true, h1, R.noX])
  obtain ⟨ys, p, hk, h2, h3, h4⟩ := key
  refine ⟨ys, p.1, ?_, h2, h3, h4⟩
  have h5 := ev_comp (own := [i]) hi hk (by rw [h3]; exact hl)
  rw [h5]
  simp only [rest, getD_of (hg0 a s0), hf]
theorem outs_nil (e : Env) : outsOf [] e = some [] := by cases e <;> rfl
theorem outs_val (d : D) (r : List Slot) (s : Slot) (e : Env) : outsOf (.val d :: r) (s :: e) = outsOf r e := rfl
theorem outs_un (r : List Slot) (s : Slot) (e : Env) : outsOf (.un :: r) (s :: e) = outsOf r e := rfl
theorem outs_own (d x : D) (r : List Slot) (e : Env) : outsOf (.own d :: r) (.own x :: e) = (outsOf r e).map (x :: ·) := rfl
theorem bf_all {α : Type} (l : List α) (p : α → Bool) : bfD .all [.lst (l.map fun a => .bl (p a))] = some (.bl (l.all p)) := by
  have : (l.map fun a => (D.bl (p a))) = (l.map p).map .bl := by rw [List.map_map]; rfl
  show (boolL (l.map fun a => (D.bl (p a)))).map _ = _
  rw [this, boolL_map]
  simp [List.all_map]
theorem mul_l {a b : Int} (h : a.natAbs < 2 ^ 64) : mulOk a b = true := by
  unfold mulOk
  rw [decide_eq_true h]
  rfl
theorem mul_r {a b : Int} (h : b.natAbs < 2 ^ 64) : mulOk a b = true := by
  unfold mulOk
  rw [decide_eq_true h]
  exact Bool.or_true _
theorem div_ok {b : Int} (h0 : 0 < b) (h1 : b.natAbs < 2 ^ 8000) : divOk b = true := by
  unfold divOk
  rw [decide_eq_true h0, decide_eq_true h1]
  rfl
theorem at_pos {α : Type} (l : List α) {i : Int} (h : 0 ≤ i) : at? l i = l[i.toNat]? := if_pos h
theorem cut_pre {α : Type} (l : List α) {i : Int} (h : 0 ≤ i) : cut l none (some i) = l.take i.toNat := by
  simp only [cut, cutAt]
  rw [if_neg (by omega)]
  simp only [List.drop_zero, Nat.sub_zero]
  by_cases h2 : i.toNat ≤ l.length
  · rw [Nat.min_eq_left h2]
  · rw [Nat.min_eq_right (by omega), List.take_length, List.take_of_length_le (by omega)]
theorem cut_suf {α : Type} (l : List α) {i : Int} (h : 0 ≤ i) : cut l (some i) none = l.drop i.toNat := by
  simp only [cut, cutAt]
  rw [if_neg (by omega)]
  by_cases h2 : i.toNat ≤ l.length
  · rw [Nat.min_eq_left h2, List.take_of_length_le (by simp)]
  · rw [Nat.min_eq_right (by omega), List.drop_length, List.drop_of_length_le (by omega), List.take_nil]
mutual
theorem eqD_self : ∀ d : D, plainD d = true → eqD d d = some true
  | .non, _ => rfl
  | .bl a, _ => by simp [eqD]
  | .int a, _ => by simp [eqD]
  | .str a, _ => by simp [eqD]
  | .lst a, h => by simp only [eqD]; exact eqDs_self a h
  | .tup a, h => by simp only [eqD]; exact eqDs_self a h
  | .dk _, h => nomatch h
  | .dt _, h => nomatch h
  | .ins _ _, h => nomatch h
  | .scr _, h => nomatch h
theorem eqDs_self : ∀ l : List D, plainDs l = true → eqDs l l = some true
  | [], _ => rfl
  | a :: l, h => by
    simp only [plainDs, Bool.and_eq_true] at h
    simp only [eqDs, eqD_self a h.1, eqDs_self l h.2]
    rfl
end
theorem eqT_self {d : D} (h : plainD d = true) (h2 : depD d ≤ 60) : eqT d d = some true := by
  unfold eqT
  rw [h, decide_eq_true h2]
  exact eqD_self d h
theorem ints_eqT (u v : List Int) : eqT (.lst (u.map .int)) (.lst (v.map .int)) = some (decide (u = v)) := by
  unfold eqT
  simp only [plainD, depD, ints_plain, ints_dep, eqD, ints_eqs]
  rfl
theorem leLim0 : (0 ≤ lim) = True := eq_true (by decide)
theorem leLim1 : (1 ≤ lim) = True := eq_true (by decide)
theorem leLim2 : (2 ≤ lim) = True := eq_true (by decide)
theorem leLim3 : (3 ≤ lim) = True := eq_true (by decide)
theorem leLim4 : (4 ≤ lim) = True := eq_true (by decide)
theorem leLim5 : (5 ≤ lim) = True := eq_true (by decide)
theorem leLim6 : (6 ≤ lim) = True := eq_true (by decide)
theorem leLim7 : (7 ≤ lim) = True := eq_true (by decide)
theorem leLim8 : (8 ≤ lim) = True := eq_true (by decide)
theorem leLim9 : (9 ≤ lim) = True := eq_true (by decide)
theorem leLim10 : (10 ≤ lim) = True := eq_true (by decide)
theorem leLim11 : (11 ≤ lim) = True := eq_true (by decide)
theorem leLim12 : (12 ≤ lim) = True := eq_true (by decide)
theorem ins1_cl (lt : List Char → List Char → Bool) (f : Char → Char → Bool) (h : ∀ a b, lt [a] [b] = f a b) (a : Char) : ∀ l : List Char, ins1 lt [a] (l.map fun c => [c]) = (ins1 f a l).map fun c => [c]
  | [] => rfl
  | b :: l => by
    simp only [List.map_cons, ins1, h]
    cases f b a
    · rfl
    · simp only [if_true, List.map_cons, ins1_cl lt f h a l]
theorem isort_cl (lt : List Char → List Char → Bool) (f : Char → Char → Bool) (h : ∀ a b, lt [a] [b] = f a b) : ∀ l : List Char, isort lt (l.map fun c => [c]) = (isort f l).map fun c => [c]
  | [] => rfl
  | a :: l => by simp only [List.map_cons, isort, isort_cl lt f h l, ins1_cl lt f h]
def ltc (a b : Char) : Bool := decide (a.toNat < b.toNat)
theorem ltC_one (a b : Char) : ltC [a] [b] = ltc a b := by
  simp only [ltC, ltc]
  split
  · rename_i h; exact (decide_eq_true h).symm
  · rename_i h; rw [decide_eq_false h]; split <;> rfl
theorem sort_cl {u : List Char} (h : u.length < 64) : sortL (cl u) = some (.lst (cl (isort ltc u))) := by
  unfold sortL
  rw [cl_len, if_pos h]
  cases u with
  | nil => rfl
  | cons a u =>
    have e1 : intL (cl (a :: u)) = none := rfl
    rw [e1, cl_strL]
    simp only [isort_cl ltC ltc ltC_one, List.map_map]
    rfl
theorem sorted_cl {u : List Char} (h : u.length < 64) : bfD .sorted [.lst (cl u)] = some (.lst (cl (isort ltc u))) := sort_cl h
end TI
set_option Elab.async false
set_option linter.all false
set_option maxRecDepth 100000
set_option maxHeartbeats 4000000
namespace KL
open PySem PySem.Spec L2 TI
def top (i : Nat) : Stmt := PySem.Challenge.pw_cancelwalks_k01_rows_that_cancel.main.body.getD i (.Pass ⟨0, 0, 0, 0⟩)
def b0 : Ss := (.cons (.ret (.bf .all (.cons (.e (.comp (.cmp .lt (.o 1) (.o 2)) (.mk (.cons (.n 1) (.cons (.n 2) .nil)) (.zip (.e (.var 0)) (.e (.slc (.o 0) (.cons (.e (.lit (.int 1))) .nil) .nil))) (.lit (.bl true))) [1, 2])) .nil))) .nil)
def i0 : FnI := ⟨("is_ascending", none), "is_ascending", "is_ascending", top 8, ["items", "one", "other"], b0, 0, false⟩
def b1 : Ss := (.cons (.ret (.and_ (.isi (.o 0) [.str]) (.bf .all (.cons (.e (.comp (.cmp .in_ (.o 1) (.e (.glob 1))) (.mk (.n 1) (.seq (.var 0)) (.lit (.bl true))) [1])) .nil)))) .nil)
def i1 : FnI := ⟨("is_word", none), "is_word", "is_word", top 9, ["value", "sign"], b1, 0, false⟩
def b2 : Ss := (.cons (.ret (.and_ (.isi (.o 0) [.str]) (.bf .all (.cons (.e (.comp (.or_ (.cmp .in_ (.o 1) (.e (.glob 1))) (.cmp .in_ (.o 1) (.e (.glob 2)))) (.mk (.n 1) (.seq (.var 0)) (.lit (.bl true))) [1])) .nil)))) .nil)
def i2 : FnI := ⟨("is_row", none), "is_row", "is_row", top 11, ["value", "sign"], b2, 0, false⟩
def b3 : Ss := (.cons (.ret (.bf .all (.cons (.e (.comp (.cmp .in_ (.o 2) (.o 1)) (.mk (.n 2) (.seq (.bm .lower (.o 0) .nil)) (.lit (.bl true))) [2])) .nil))) .nil)
def i3 : FnI := ⟨("is_over", none), "is_over", "is_over", top 14, ["row", "letters", "sign"], b3, 0, false⟩
def b4 : Ss := (.cons (.ret (.ite (.cmp .in_ (.o 0) (.e (.glob 1))) (.bm .upper (.o 0) .nil) (.bm .lower (.o 0) .nil))) .nil)
def i4 : FnI := ⟨("other_sign", none), "other_sign", "other_sign", top 16, ["sign"], b4, 0, false⟩
def b5 : Ss := (.cons (.ret (.bf .tuple (.cons (.e (.comp (.bin .sub (.e (.bm .count (.o 0) (.cons (.o 2) .nil))) (.e (.bm .count (.o 0) (.cons (.e (.bm .upper (.o 2) .nil)) .nil)))) (.mk (.n 2) (.seq (.var 1)) (.lit (.bl true))) [2])) .nil))) .nil)
def i5 : FnI := ⟨("sums_in", none), "sums_in", "sums_in", top 19, ["row", "letters", "letter"], b5, 0, false⟩
def b6 : Ss := (.cons (.set 2 (.bin .add (.e (.bin .mul (.e (.lit (.int 59))) (.o 1))) (.e (.lit (.int 31))))) (.cons (.ite (.cmp .lt (.o 1) (.e (.bf .len (.cons (.o 0) .nil)))) (.cons (.set 2 (.idx (.o 0) (.o 1))) .nil) .nil) (.cons (.set 3 (.bin .mod (.e (.bf .int (.cons (.e (.bf .abs (.cons (.o 2) .nil))) .nil))) (.e (.bin .pow (.e (.bin .pow (.e (.lit (.int 10))) (.e (.lit (.int 60))))) (.e (.lit (.int 10))))))) (.cons (.set 4 (.bin .fdiv (.o 3) (.e (.bin .pow (.e (.lit (.int 10))) (.e (.lit (.int 18))))))) (.cons (.set 5 (.bin .add (.e (.bin .add (.e (.bin .add (.e (.bin .mul (.e (.bin .mod (.o 3) (.e (.lit (.int 2147483249))))) (.e (.lit (.int 53239))))) (.e (.bin .mul (.e (.lit (.int 2909))) (.o 1))))) (.e (.bin .mul (.e (.lit (.int 43))) (.e (.bf .int (.cons (.e (.cmp .lt (.o 2) (.e (.lit (.int 0))))) .nil))))))) (.e (.lit (.int 89))))) (.cons (.ret (.lst (.cons (.e (.var 4)) (.cons (.e (.bin .mod (.o 5) (.e (.lit (.int 2147483237))))) (.cons (.e (.lit (.int 0))) .nil))))) .nil))))))
def i6 : FnI := ⟨("_law_dice", none), "_law_dice", "_law_dice", top 25, ["_law_script", "_law_at", "_law_cell", "_law_great", "_law_left", "_law_mixed_here"], b6, 0, true⟩
def b7 : Ss := (.cons (.set 2 (.bf .int (.cons (.o 1) .nil))) (.cons (.ite (.cmp .gt (.e (.idx (.o 0) (.e (.lit (.int 0))))) (.e (.lit (.int 0)))) (.cons (.set 5 (.bin .mod (.e (.idx (.o 0) (.e (.lit (.int 0))))) (.o 2))) (.cons (.sub 0 (.lit (.int 0)) (.bin .fdiv (.e (.idx (.o 0) (.e (.lit (.int 0))))) (.o 2))) (.cons (.ret (.bf .int (.cons (.o 5) .nil))) .nil))) .nil) (.cons (.sub 0 (.lit (.int 2)) (.bin .add (.e (.idx (.o 0) (.e (.lit (.int 2))))) (.e (.lit (.int 1))))) (.cons (.set 3 (.bin .mod (.e (.bin .add (.e (.idx (.o 0) (.e (.lit (.int 1))))) (.e (.bin .mul (.e (.lit (.int 1000183))) (.e (.idx (.o 0) (.e (.lit (.int 2))))))))) (.e (.lit (.int 2305843009213693951))))) (.cons (.set 4 (.bin .add (.e (.bin .mul (.e (.bin .mod (.e (.bin .mul (.o 3) (.o 3))) (.e (.lit (.int 2305843009213693921))))) (.o 3))) (.e (.bin .mul (.e (.lit (.int 9241))) (.e (.idx (.o 0) (.e (.lit (.int 2))))))))) (.cons (.set 4 (.bin .mod (.o 4) (.e (.lit (.int 2305843009213693907))))) (.cons (.ret (.bf .int (.cons (.e (.bin .mod (.e (.bin .fdiv (.o 4) (.e (.lit (.int 4096))))) (.o 2))) .nil))) .nil)))))))
def i7 : FnI := ⟨("_law_roll", none), "_law_roll", "_law_roll", top 26, ["_law_dice_here", "_law_total", "_law_number", "_law_one", "_law_two", "_law_drawn"], b7, 0, false⟩
def b8 : Ss := (.cons (.setT (.cons (.n 1) (.cons (.n 2) .nil)) (.tup (.cons (.e (.lit (.str ['a', 'b', 'c', 'd', 'e', 'f', 'g', 'h', 'i', 'j', 'k', 'l', 'm', 'n', 'o', 'p', 'q', 'r', 's', 't', 'u', 'v', 'w', 'x', 'y', 'z']))) (.cons (.e (.lit (.str ['A', 'B', 'C', 'D', 'E', 'F', 'G', 'H', 'I', 'J', 'K', 'L', 'M', 'N', 'O', 'P', 'Q', 'R', 'S', 'T', 'U', 'V', 'W', 'X', 'Y', 'Z']))) .nil)))) (.cons (.ret (.ite (.cmp .in_ (.o 0) (.o 1)) (.idx (.o 2) (.e (.bm .index (.o 1) (.cons (.o 0) .nil)))) (.idx (.o 1) (.e (.bm .index (.o 2) (.cons (.o 0) .nil)))))) .nil))
def i8 : FnI := ⟨("_law_swapped", none), "_law_swapped", "_law_swapped", top 30, ["_law_sign", "_law_small", "_law_great"], b8, 0, false⟩
def b9 : Ss := (.cons (.ret (.and_ (.call 1 (.cons (.e (.var 0)) .nil)) (.and_ (.chain .le .le (.e (.lit (.int 1))) (.e (.bf .len (.cons (.o 0) .nil))) (.e (.glob 0))) (.call 0 (.cons (.e (.var 0)) .nil))))) .nil)
def i9 : FnI := ⟨("is_letters", none), "is_letters", "is_letters", top 10, ["value"], b9, 1, false⟩
def b10 : Ss := (.cons (.ite (.not_ (.call 2 (.cons (.e (.var 0)) .nil))) (.cons .dead .nil) .nil) .nil)
def i10 : FnI := ⟨("require_row", none), "require_row", "require_row", top 12, ["value"], b10, 1, false⟩
def b11 : Ss := (.cons (.ite (.not_ (.call 3 (.cons (.e (.var 0)) (.cons (.e (.var 1)) .nil)))) (.cons .dead .nil) .nil) .nil)
def i11 : FnI := ⟨("require_known", none), "require_known", "require_known", top 15, ["row", "letters"], b11, 1, false⟩
def b12 : Ss := (.cons (.ret (.bm .join (.e (.lit (.str []))) (.cons (.e (.comp (.call 4 (.cons (.e (.var 1)) .nil)) (.mk (.n 1) (.seq (.rev (.o 0))) (.lit (.bl true))) [1])) .nil))) .nil)
def i12 : FnI := ⟨("opposite_in", none), "opposite_in", "opposite_in", top 17, ["row", "sign"], b12, 1, false⟩
def b13 : Ss := (.cons (.setO 1 (.lst .nil)) (.cons (.for_ (.n 2) (.seq (.var 0)) (.cons (.ite (.and_ (.cmp .ne (.o 1) (.e (.lst .nil))) (.cmp .eq (.e (.idx (.o 1) (.e (.neg (.lit (.int 1)))))) (.e (.call 4 (.cons (.e (.var 2)) .nil))))) (.cons (.expr (.mu .pop 1 .nil)) .nil) (.cons (.expr (.mu .append 1 (.cons (.e (.var 2)) .nil))) .nil)) .nil)) (.cons (.ret (.bm .join (.e (.lit (.str []))) (.cons (.o 1) .nil))) .nil)))
def i13 : FnI := ⟨("short_in", none), "short_in", "short_in", top 18, ["row", "found", "sign"], b13, 1, false⟩
def b14 : Ss := (.cons (.ret (.idx (.o 1) (.e (.call 7 (.cons (.o 0) (.cons (.e (.bf .len (.cons (.o 1) .nil))) .nil)))))) .nil)
def i14 : FnI := ⟨("_law_one_of", none), "_law_one_of", "_law_one_of", top 27, ["_law_dice_here", "_law_items"], b14, 1, false⟩
def b15 : Ss := (.cons (.par2 2 3 true true (.bf .list (.cons (.o 1) .nil)) (.lst .nil)) (.cons (.while_ (.cmp .ne (.o 2) (.e (.lst .nil))) (.cons (.expr (.mu .append 3 (.cons (.e (.mu .popat 2 (.cons (.e (.call 7 (.cons (.o 0) (.cons (.e (.bf .len (.cons (.o 2) .nil))) .nil)))) .nil))) .nil))) .nil)) (.cons (.ret (.mv 3)) .nil)))
def i15 : FnI := ⟨("_law_mixed", none), "_law_mixed", "_law_mixed", top 28, ["_law_dice_here", "_law_items", "_law_left", "_law_found"], b15, 1, true⟩
def b16 : Ss := (.cons (.ret (.bm .join (.e (.lit (.str []))) (.cons (.e (.comp (.call 8 (.cons (.e (.var 1)) .nil)) (.mk (.n 1) (.seq (.rev (.o 0))) (.lit (.bl true))) [1])) .nil))) .nil)
def i16 : FnI := ⟨("_law_opposite", none), "_law_opposite", "_law_opposite", top 31, ["_law_row_here", "_law_sign"], b16, 1, false⟩
def b17 : Ss := (.cons (.setO 1 (.lst .nil)) (.cons (.for_ (.n 2) (.seq (.var 0)) (.cons (.ite (.and_ (.cmp .ne (.o 1) (.e (.lst .nil))) (.cmp .eq (.e (.idx (.o 1) (.e (.neg (.lit (.int 1)))))) (.e (.call 8 (.cons (.e (.var 2)) .nil))))) (.cons (.expr (.mu .pop 1 .nil)) .nil) (.cons (.expr (.mu .append 1 (.cons (.e (.var 2)) .nil))) .nil)) .nil)) (.cons (.ret (.bm .join (.e (.lit (.str []))) (.cons (.o 1) .nil))) .nil)))
def i17 : FnI := ⟨("_law_short", none), "_law_short", "_law_short", top 32, ["_law_row_here", "_law_found", "_law_sign"], b17, 1, false⟩
def b18 : Ss := (.cons (.ret (.bf .sorted (.cons (.e (.bin .add (.e (.bf .list (.cons (.o 0) .nil))) (.e (.comp (.call 8 (.cons (.e (.var 1)) .nil)) (.mk (.n 1) (.seq (.var 0)) (.lit (.bl true))) [1])))) .nil))) .nil)
def i18 : FnI := ⟨("_law_signs", none), "_law_signs", "_law_signs", top 33, ["_law_letters_here", "_law_letter"], b18, 1, true⟩
def b19 : Ss := (.cons (.ret (.bf .tuple (.cons (.e (.comp (.bin .sub (.e (.bm .count (.o 0) (.cons (.o 2) .nil))) (.e (.bm .count (.o 0) (.cons (.e (.call 8 (.cons (.e (.var 2)) .nil))) .nil)))) (.mk (.n 2) (.seq (.var 1)) (.lit (.bl true))) [2])) .nil))) .nil)
def i19 : FnI := ⟨("_law_sums", none), "_law_sums", "_law_sums", top 35, ["_law_row_here", "_law_letters_here", "_law_letter"], b19, 1, false⟩
def b20 : Ss := (.cons (.ite (.not_ (.call 9 (.cons (.e (.var 0)) .nil))) (.cons .dead .nil) .nil) .nil)
def i20 : FnI := ⟨("require_letters", none), "require_letters", "require_letters", top 13, ["value"], b20, 2, false⟩
def b21 : Ss := (.cons (.expr (.call 10 (.cons (.e (.var 0)) .nil))) (.cons (.ret (.call 12 (.cons (.e (.var 0)) .nil))) .nil))
def i21 : FnI := ⟨("opposite", none), "opposite", "opposite", top 20, ["row"], b21, 2, false⟩
def b22 : Ss := (.cons (.expr (.call 10 (.cons (.e (.var 0)) .nil))) (.cons (.ret (.call 13 (.cons (.e (.var 0)) .nil))) .nil))
def i22 : FnI := ⟨("short", none), "short", "short", top 21, ["row"], b22, 2, false⟩
def b23 : Ss := (.cons (.expr (.call 10 (.cons (.e (.var 0)) .nil))) (.cons (.expr (.call 10 (.cons (.e (.var 1)) .nil))) (.cons (.ret (.cmp .eq (.e (.call 13 (.cons (.e (.var 0)) .nil))) (.e (.call 13 (.cons (.e (.var 1)) .nil))))) .nil)))
def i23 : FnI := ⟨("are_alike", none), "are_alike", "are_alike", top 22, ["one", "other"], b23, 2, false⟩
def b24 : Ss := (.cons (.ret (.bm .join (.e (.lit (.str []))) (.cons (.e (.bf .sorted (.cons (.e (.slc (.e (.call 15 (.cons (.o 0) (.cons (.e (.bf .list (.cons (.e (.lit (.str ['a', 'b', 'c', 'k', 'n', 'x', 'z']))) .nil))) .nil)))) .nil (.cons (.o 1) .nil))) .nil))) .nil))) .nil)
def i24 : FnI := ⟨("_law_letters", none), "_law_letters", "_law_letters", top 29, ["_law_dice_here", "_law_total"], b24, 2, false⟩
def b25 : Ss := (.cons (.ret (.bm .join (.e (.lit (.str []))) (.cons (.e (.comp (.call 14 (.cons (.o 0) (.cons (.e (.call 18 (.cons (.e (.var 1)) .nil))) .nil))) (.mk (.n 3) (.rng1 (.e (.call 7 (.cons (.o 0) (.cons (.e (.bin .add (.o 2) (.e (.lit (.int 1))))) .nil))))) (.lit (.bl true))) [3])) .nil))) .nil)
def i25 : FnI := ⟨("_law_row", none), "_law_row", "_law_row", top 34, ["_law_dice_here", "_law_letters_here", "_law_most", "_law_turn"], b25, 2, false⟩
def b26 : Ss := (.cons (.set 2 (.var 1)) (.cons (.for_ (.n 3) (.rng1 (.e (.call 7 (.cons (.o 0) (.cons (.e (.lit (.int 6))) .nil))))) (.cons (.par2 4 5 false false (.call 7 (.cons (.o 0) (.cons (.e (.bin .add (.e (.bf .len (.cons (.o 2) .nil))) (.e (.lit (.int 1))))) .nil))) (.call 14 (.cons (.o 0) (.cons (.e (.call 18 (.cons (.e (.lit (.str ['a', 'b', 'c']))) .nil))) .nil)))) (.cons (.set 2 (.bin .add (.e (.bin .add (.e (.bin .add (.e (.slc (.o 2) .nil (.cons (.o 4) .nil))) (.o 5))) (.e (.call 8 (.cons (.e (.var 5)) .nil))))) (.e (.slc (.o 2) (.cons (.o 4) .nil) .nil)))) .nil))) (.cons (.ret (.var 2)) .nil)))
def i26 : FnI := ⟨("_law_thrown", none), "_law_thrown", "_law_thrown", top 36, ["_law_dice_here", "_law_row_here", "_law_found", "_law_turn", "_law_at", "_law_sign"], b26, 2, false⟩
def b27 : Ss := (.cons (.set 2 (.var 1)) (.cons (.set 3 (.comp (.var 4) (.mk (.n 4) (.rng1 (.e (.bin .sub (.e (.bf .len (.cons (.o 2) .nil))) (.e (.lit (.int 1)))))) (.cmp .eq (.e (.idx (.o 2) (.e (.bin .add (.o 4) (.e (.lit (.int 1))))))) (.e (.call 8 (.cons (.e (.idx (.o 2) (.o 4))) .nil))))) [4])) (.cons (.while_ (.cmp .ne (.o 3) (.e (.lst .nil))) (.cons (.set 4 (.call 14 (.cons (.o 0) (.cons (.e (.var 3)) .nil)))) (.cons (.set 2 (.bin .add (.e (.slc (.o 2) .nil (.cons (.o 4) .nil))) (.e (.slc (.o 2) (.cons (.e (.bin .add (.o 4) (.e (.lit (.int 2))))) .nil) .nil)))) (.cons (.set 3 (.comp (.var 4) (.mk (.n 4) (.rng1 (.e (.bin .sub (.e (.bf .len (.cons (.o 2) .nil))) (.e (.lit (.int 1)))))) (.cmp .eq (.e (.idx (.o 2) (.e (.bin .add (.o 4) (.e (.lit (.int 1))))))) (.e (.call 8 (.cons (.e (.idx (.o 2) (.o 4))) .nil))))) [4])) .nil)))) (.cons (.ret (.var 2)) .nil))))
def i27 : FnI := ⟨("_law_cancelled", none), "_law_cancelled", "_law_cancelled", top 37, ["_law_dice_here", "_law_row_here", "_law_found", "_law_spots", "_law_at"], b27, 2, false⟩
def b28 : Ss := (.cons (.set 1 (.lst (.cons (.e (.lit (.str []))) (.cons (.e (.lit (.str ['a']))) (.cons (.e (.lit (.str ['a', 'b']))) (.cons (.e (.lit (.str ['a', 'b', 'c']))) (.cons (.e (.lit (.str ['a', 'b', 'c', 'd']))) (.cons (.e (.lit (.str ['b', 'a']))) (.cons (.e (.lit (.str ['a', 'a']))) (.cons (.e (.lit (.str ['a', 'B']))) (.cons (.e (.lit (.str ['A', 'B']))) (.cons (.e (.lit (.str ['x', 'z']))) (.cons (.e (.lit (.str ['a', ' ', 'b']))) (.cons (.e (.lit (.str ['a', '1']))) (.cons (.e (.lit (.str ['e', '-']))) (.cons (.e (.lit (.str ['z', 'z', 'z']))) (.cons (.e (.lit (.str ['\n']))) .nil))))))))))))))))) (.cons (.set 1 (.bin .add (.o 1) (.e (.lst (.cons (.e (.lit .non)) (.cons (.e (.lit (.int 0))) (.cons (.e (.lit (.bl true))) (.cons (.e (.tup (.cons (.e (.lit (.str ['a']))) (.cons (.e (.lit (.str ['b']))) .nil)))) (.cons (.e (.lst (.cons (.e (.lit (.str ['a']))) .nil))) (.cons (.e (.dk .nil)) (.cons (.e (.lit (.str ['A', 'b', 'c']))) (.cons (.e (.lit (.str ['a', 'b', 'z']))) .nil)))))))))))) (.cons (.set 2 (.lit (.str ['a', 'b', 'c', 'd', 'e', 'f', 'g', 'h', 'i', 'j', 'k', 'l', 'm', 'n', 'o', 'p', 'q', 'r', 's', 't', 'u', 'v', 'w', 'x', 'y', 'z']))) (.cons (.for_ (.n 3) (.seq (.var 1)) (.cons (.set 4 (.isi (.o 3) [.str])) (.cons (.set 5 (.and_ (.var 4) (.cmp .eq (.e (.comp (.var 8) (.mk (.n 8) (.seq (.var 3)) (.cmp .notin (.o 8) (.o 2))) [8])) (.e (.lst .nil))))) (.cons (.set 6 (.and_ (.var 4) (.cmp .eq (.e (.comp (.var 8) (.mk (.n 8) (.seq (.var 3)) (.or_ (.cmp .notin (.e (.bm .lower (.o 8) .nil)) (.o 2)) (.cmp .eq (.o 8) (.e (.lit (.str [])))))) [8])) (.e (.lst .nil))))) (.cons (.set 7 (.lst (.cons (.e (.and_ (.var 5) (.and_ (.chain .lt .lt (.e (.lit (.int 0))) (.e (.bf .len (.cons (.o 3) .nil))) (.e (.lit (.int 4)))) (.cmp .eq (.e (.bf .list (.cons (.o 3) .nil))) (.e (.bf .sortedset (.cons (.o 3) .nil))))))) (.cons (.e (.var 5)) (.cons (.e (.var 6)) .nil))))) (.cons (.ite (.cmp .ne (.e (.bf .repr (.cons (.e (.lst (.cons (.e (.call 9 (.cons (.e (.var 3)) .nil))) (.cons (.e (.call 1 (.cons (.e (.var 3)) .nil))) (.cons (.e (.call 2 (.cons (.e (.var 3)) .nil))) .nil))))) .nil))) (.e (.bf .repr (.cons (.o 7) .nil)))) (.cons (.ret (.lit (.bl false))) .nil) .nil) .nil)))))) (.cons (.ret (.lit (.bl true))) .nil)))))
def i28 : FnI := ⟨("_law_kinds_right", none), "_law_kinds_right", "_law_kinds_right", top 38, ["_law_dice_here", "_law_some", "_law_small", "_law_one", "_law_is_text", "_law_word", "_law_row_here", "_law_due", "_law_sign"], b28, 2, false⟩
def b29 : Ss := (.cons (.expr (.call 10 (.cons (.e (.var 0)) .nil))) (.cons (.expr (.call 20 (.cons (.e (.var 1)) .nil))) (.cons (.expr (.call 11 (.cons (.e (.var 0)) (.cons (.e (.var 1)) .nil)))) (.cons (.ret (.call 5 (.cons (.e (.var 0)) (.cons (.e (.var 1)) .nil)))) .nil))))
def i29 : FnI := ⟨("sums", none), "sums", "sums", top 23, ["row", "letters"], b29, 3, false⟩
def b30 : Ss := (.cons (.set 1 (.call 24 (.cons (.o 0) (.cons (.e (.bin .add (.e (.lit (.int 1))) (.e (.call 7 (.cons (.o 0) (.cons (.e (.lit (.int 3))) .nil)))))) .nil)))) (.cons (.par2 6 7 false false (.call 25 (.cons (.o 0) (.cons (.e (.var 1)) (.cons (.e (.lit (.int 12))) .nil)))) (.call 25 (.cons (.o 0) (.cons (.e (.var 1)) (.cons (.e (.lit (.int 12))) .nil))))) (.cons (.set 2 (.call 26 (.cons (.o 0) (.cons (.e (.var 6)) .nil)))) (.cons (.set 3 (.call 17 (.cons (.e (.var 6)) .nil))) (.cons (.ite (.cmp .ne (.e (.lst (.cons (.e (.call 22 (.cons (.e (.var 6)) .nil))) (.cons (.e (.call 22 (.cons (.e (.var 2)) .nil))) (.cons (.e (.call 27 (.cons (.o 0) (.cons (.e (.var 2)) .nil)))) (.cons (.e (.call 27 (.cons (.o 0) (.cons (.e (.var 6)) .nil)))) .nil)))))) (.e (.bin .mul (.e (.lst (.cons (.e (.var 3)) .nil))) (.e (.lit (.int 4)))))) (.cons (.ret (.lit (.bl false))) .nil) .nil) (.cons (.ite (.or_ (.cmp .ne (.e (.call 21 (.cons (.e (.var 6)) .nil))) (.e (.call 16 (.cons (.e (.var 6)) .nil)))) (.or_ (.cmp .ne (.e (.call 21 (.cons (.e (.call 21 (.cons (.e (.var 2)) .nil))) .nil))) (.o 2)) (.cmp .ne (.e (.call 22 (.cons (.e (.bin .add (.o 6) (.e (.call 21 (.cons (.e (.var 6)) .nil))))) .nil))) (.e (.lit (.str [])))))) (.cons (.ret (.lit (.bl false))) .nil) .nil) (.cons (.ite (.or_ (.cmp .isnot (.e (.call 23 (.cons (.e (.var 6)) (.cons (.e (.var 2)) .nil)))) (.e (.lit (.bl true)))) (.cmp .ne (.e (.call 23 (.cons (.e (.var 6)) (.cons (.e (.var 7)) .nil)))) (.e (.cmp .eq (.o 3) (.e (.call 17 (.cons (.e (.var 7)) .nil))))))) (.cons (.ret (.lit (.bl false))) .nil) .nil) (.cons (.ite (.or_ (.cmp .ne (.e (.call 22 (.cons (.e (.bin .add (.o 6) (.o 7))) .nil))) (.e (.call 22 (.cons (.e (.bin .add (.e (.call 22 (.cons (.e (.var 6)) .nil))) (.e (.call 22 (.cons (.e (.var 7)) .nil))))) .nil)))) (.not_ (.call 23 (.cons (.e (.bin .add (.o 2) (.o 7))) (.cons (.e (.bin .add (.o 6) (.o 7))) .nil))))) (.cons (.ret (.lit (.bl false))) .nil) .nil) (.cons (.ite (.or_ (.cmp .ne (.e (.call 21 (.cons (.e (.bin .add (.o 6) (.o 7))) .nil))) (.e (.bin .add (.e (.call 21 (.cons (.e (.var 7)) .nil))) (.e (.call 21 (.cons (.e (.var 6)) .nil)))))) (.cmp .ne (.e (.call 22 (.cons (.e (.call 21 (.cons (.e (.var 6)) .nil))) .nil))) (.e (.call 21 (.cons (.e (.call 22 (.cons (.e (.var 6)) .nil))) .nil))))) (.cons (.ret (.lit (.bl false))) .nil) .nil) (.cons (.set 4 (.lst (.cons (.e (.call 29 (.cons (.e (.var 6)) (.cons (.e (.var 1)) .nil)))) (.cons (.e (.call 29 (.cons (.e (.call 22 (.cons (.e (.var 6)) .nil))) (.cons (.e (.var 1)) .nil)))) (.cons (.e (.call 29 (.cons (.e (.call 21 (.cons (.e (.var 6)) .nil))) (.cons (.e (.var 1)) .nil)))) (.cons (.e (.call 29 (.cons (.e (.bin .add (.o 6) (.o 7))) (.cons (.e (.var 1)) .nil)))) .nil)))))) (.cons (.par2 8 9 false false (.call 19 (.cons (.e (.var 6)) (.cons (.e (.var 1)) .nil))) (.call 19 (.cons (.e (.var 7)) (.cons (.e (.var 1)) .nil)))) (.cons (.set 5 (.bf .tuple (.cons (.e (.comp (.bin .add (.o 10) (.o 11)) (.mk (.cons (.n 10) (.cons (.n 11) .nil)) (.zip (.e (.var 8)) (.e (.var 9))) (.lit (.bl true))) [10, 11])) .nil))) (.cons (.ret (.cmp .eq (.o 4) (.e (.lst (.cons (.e (.var 8)) (.cons (.e (.var 8)) (.cons (.e (.bf .tuple (.cons (.e (.comp (.neg (.var 12)) (.mk (.n 12) (.seq (.var 8)) (.lit (.bl true))) [12])) .nil))) (.cons (.e (.var 5)) .nil)))))))) .nil)))))))))))))
def i30 : FnI := ⟨("_law_right", none), "_law_right", "_law_right", top 39, ["_law_dice_here", "_law_letters_here", "_law_wide", "_law_due", "_law_told", "_law_both", "_law_one", "_law_other", "_law_left", "_law_right_here", "_law_here", "_law_there", "_law_number"], b30, 4, false⟩
def b31 : Ss := (.cons (.for_ (.n 1) (.rng1 (.e (.bf .max2 (.cons (.e (.lit (.int 1))) (.cons (.e (.bf .min2 (.cons (.e (.lit (.int 10))) (.cons (.e (.bf .len (.cons (.o 0) .nil))) .nil)))) .nil))))) (.cons (.setO 3 (.call 6 (.cons (.e (.var 0)) (.cons (.e (.var 1)) .nil)))) (.cons (.for_ (.n 4) (.rng1 (.e (.lit (.int 4)))) (.cons (.ite (.not_ (.call 30 (.cons (.o 3) .nil))) (.cons (.ret (.lit (.bl false))) .nil) .nil) .nil)) (.cons (.ite (.not_ (.call 28 (.cons (.e (.frz 3)) .nil))) (.cons (.ret (.lit (.bl false))) .nil) .nil) .nil)))) (.cons (.set 2 (.lst (.cons (.e (.call 22 (.cons (.e (.lit (.str ['a', 'b', 'B', 'A', 'c']))) .nil))) (.cons (.e (.call 22 (.cons (.e (.lit (.str ['a', 'b', 'A', 'B']))) .nil))) (.cons (.e (.call 21 (.cons (.e (.lit (.str ['a', 'b', 'C']))) .nil))) (.cons (.e (.call 23 (.cons (.e (.lit (.str ['a', 'A']))) (.cons (.e (.lit (.str []))) .nil)))) (.cons (.e (.call 29 (.cons (.e (.lit (.str ['a', 'a', 'b', 'A']))) (.cons (.e (.lit (.str ['a', 'b']))) .nil)))) (.cons (.e (.call 29 (.cons (.e (.lit (.str []))) (.cons (.e (.lit (.str ['x', 'y', 'z']))) .nil)))) .nil)))))))) (.cons (.ret (.cmp .eq (.e (.bin .add (.o 2) (.e (.lst (.cons (.e (.glob 0)) .nil))))) (.e (.lst (.cons (.e (.lit (.str ['c']))) (.cons (.e (.lit (.str ['a', 'b', 'A', 'B']))) (.cons (.e (.lit (.str ['c', 'B', 'A']))) (.cons (.e (.lit (.bl true))) (.cons (.e (.tup (.cons (.e (.lit (.int 1))) (.cons (.e (.lit (.int 1))) .nil)))) (.cons (.e (.tup (.cons (.e (.lit (.int 0))) (.cons (.e (.lit (.int 0))) (.cons (.e (.lit (.int 0))) .nil))))) (.cons (.e (.lit (.int 3))) .nil))))))))))) .nil)))
def i31 : FnI := ⟨("law", none), "law", "law", top 40, ["_law_script", "_law_at", "_law_told", "_law_dice_here", "_law_turn"], b31, 5, false⟩
def tbl : List FnI := [i0, i1, i2, i3, i4, i5, i6, i7, i8, i9, i10, i11, i12, i13, i14, i15, i16, i17, i18, i19, i20, i21, i22, i23, i24, i25, i26, i27, i28, i29, i30, i31]
def gls : List (Str × Lit) := [("MAX_LETTERS", .int 3), ("LETTERS", .str ['a', 'b', 'c', 'd', 'e', 'f', 'g', 'h', 'i', 'j', 'k', 'l', 'm', 'n', 'o', 'p', 'q', 'r', 's', 't', 'u', 'v', 'w', 'x', 'y', 'z']), ("CAPITALS", .str ['A', 'B', 'C', 'D', 'E', 'F', 'G', 'H', 'I', 'J', 'K', 'L', 'M', 'N', 'O', 'P', 'Q', 'R', 'S', 'T', 'U', 'V', 'W', 'X', 'Y', 'Z'])]
def blts : List Str := ["abs", "all", "int", "isinstance", "len", "list", "max", "min", "range", "repr", "set", "sorted", "str", "tuple", "zip"]
def tyl : List Ty := [.str]
theorem chk : (tbl.all fun i => fnB (mkTab tbl (gls.map (·.1)) [] tyl blts) 0 i) = true := by decide +kernel
end KL
set_option Elab.async false
set_option linter.all false
namespace KM
section
variable {α : Type} [DecidableEq α] (sw : α → α)
def push (st : List α) (c : α) : List α := if st.getLast? = some (sw c) then st.dropLast else st ++ [c]
def run (st w : List α) : List α := w.foldl (push sw) st
def shortL (w : List α) : List α := run sw [] w
def Red : List α → Prop
  | [] => True
  | [_] => True
  | a :: b :: l => a ≠ sw b ∧ Red (b :: l)
def inv (w : List α) : List α := (w.reverse).map sw
variable {sw}
theorem red_app : ∀ (l : List α) (a b : α) (r : List α), Red sw (l ++ a :: b :: r) → a ≠ sw b
  | [], a, b, r, h => h.1
  | [x], a, b, r, h => red_app [] a b r h.2
  | x :: y :: l, a, b, r, h => red_app (y :: l) a b r h.2
theorem red_left : ∀ (l r : List α), Red sw (l ++ r) → Red sw l
  | [], r, h => trivial
  | [a], r, h => trivial
  | a :: b :: l, r, h => ⟨h.1, red_left (b :: l) r h.2⟩
theorem red_snoc : ∀ (l : List α) (c : α), Red sw l → l.getLast? ≠ some (sw c) → Red sw (l ++ [c])
  | [], c, _, _ => trivial
  | [a], c, _, h => ⟨fun z => h (by simp [z]), trivial⟩
  | a :: b :: l, c, h, hn => ⟨h.1, red_snoc (b :: l) c h.2 (by simpa using hn)⟩
theorem last_split : ∀ {l : List α} {c : α}, l.getLast? = some c → l = l.dropLast ++ [c]
  | [], c, h => by simp at h
  | [a], c, h => by simp at h; simp [h]
  | a :: b :: l, c, h => by
    have := last_split (l := b :: l) (c := c) (by simpa using h)
    rw [List.dropLast_cons₂, List.cons_append, ← this]
theorem push_red {st : List α} {c : α} (h : Red sw st) : Red sw (push sw st c) := by
  unfold push
  split
  · rename_i hl
    have e := last_split hl
    rw [e] at h
    exact red_left _ _ h
  · rename_i hl
    exact red_snoc st c h hl
theorem run_red : ∀ (w st : List α), Red sw st → Red sw (run sw st w)
  | [], st, h => h
  | c :: w, st, h => run_red w _ (push_red h)
theorem push_push (hs : ∀ c, sw (sw c) = c) {st : List α} (h : Red sw st) (c : α) : push sw (push sw st c) (sw c) = st := by
  by_cases hl : st.getLast? = some (sw c)
  · have e := last_split hl
    have e1 : push sw st c = st.dropLast := by unfold push; rw [if_pos hl]
    rw [e1]
    unfold push
    rw [hs]
    rw [if_neg, ← e]
    intro z
    have e2 := last_split z
    rw [e2] at e
    rw [e, List.append_assoc] at h
    have := red_app st.dropLast.dropLast c (sw c) [] h
    rw [hs] at this
    exact this rfl
  · have e1 : push sw st c = st ++ [c] := by unfold push; rw [if_neg hl]
    rw [e1]
    unfold push
    rw [hs]
    simp
theorem run_app (st u v : List α) : run sw st (u ++ v) = run sw (run sw st u) v := by unfold run; rw [List.foldl_append]
theorem run_ins (hs : ∀ c, sw (sw c) = c) {st : List α} (h : Red sw st) (u v : List α) (c : α) : run sw st (u ++ [c] ++ [sw c] ++ v) = run sw st (u ++ v) := by
  rw [List.append_assoc, List.append_assoc, run_app, run_app st u v]
  have h2 := run_red u st h
  show run sw (push sw (push sw (run sw st u) c) (sw c)) v = _
  rw [push_push hs h2]
theorem short_ins (hs : ∀ c, sw (sw c) = c) (u v : List α) (c : α) : shortL sw (u ++ [c] ++ [sw c] ++ v) = shortL sw (u ++ v) := run_ins hs (st := []) trivial u v c
theorem run_short : ∀ (w st : List α), Red sw (st ++ w) → run sw st w = st ++ w
  | [], st, _ => by simp [run]
  | c :: w, st, h => by
    have e : push sw st c = st ++ [c] := by
      unfold push
      rw [if_neg]
      intro z
      have e := last_split z
      rw [e, List.append_assoc] at h
      exact red_app st.dropLast (sw c) c w h rfl
    show run sw (push sw st c) w = _
    rw [e, run_short w (st ++ [c]) (by rw [List.append_assoc]; exact h), List.append_assoc]
    rfl
theorem short_of_red {w : List α} (h : Red sw w) : shortL sw w = w := run_short w [] h
theorem short_red (w : List α) : Red sw (shortL sw w) := run_red w [] trivial
theorem short_short (w : List α) : shortL sw (shortL sw w) = shortL sw w := short_of_red (short_red w)
theorem run_from (hs : ∀ c, sw (sw c) = c) : ∀ (n : Nat) (w st : List α), w.length ≤ n → Red sw st → run sw st (shortL sw w) = run sw st w := by
  have key : ∀ (w : List α) (st : List α), Red sw st → run sw st (shortL sw w) = run sw st w := by
    intro w
    have : ∀ (r : List α) (st : List α), Red sw st → run sw st (shortL sw r.reverse) = run sw st r.reverse := by
      intro r
      induction r with
      | nil => intro st _; rfl
      | cons c r ih =>
        intro st h
        rw [List.reverse_cons]
        have e1 : shortL sw (r.reverse ++ [c]) = push sw (shortL sw r.reverse) c := run_app [] r.reverse [c]
        rw [e1, run_app st r.reverse [c], ← ih st h]
        show _ = push sw (run sw st (shortL sw r.reverse)) c
        generalize hS : shortL sw r.reverse = S
        have hR : Red sw S := by rw [← hS]; exact short_red _
        by_cases hl : S.getLast? = some (sw c)
        · have e := last_split hl
          have e2 : push sw S c = S.dropLast := by unfold push; rw [if_pos hl]
          rw [e2]
          have e3 : run sw st S = push sw (run sw st S.dropLast) (sw c) := by
            conv => lhs; rw [e]
            exact run_app st S.dropLast [sw c]
          rw [e3]
          have := push_push hs (run_red S.dropLast st h) (sw c)
          rw [hs] at this
          exact this.symm
        · have e2 : push sw S c = S ++ [c] := by unfold push; rw [if_neg hl]
          rw [e2, run_app]
          rfl
    intro st h
    have := this w.reverse st h
    rwa [List.reverse_reverse] at this
  exact fun _ w st _ h => key w st h
theorem short_app (hs : ∀ c, sw (sw c) = c) (u v : List α) : shortL sw (shortL sw u ++ shortL sw v) = shortL sw (u ++ v) := by
  unfold shortL
  rw [run_app, run_app]
  have h1 : run sw [] (run sw [] u) = run sw [] u := short_short u
  rw [h1]
  exact run_from hs v.length v _ (Nat.le_refl _) (short_red u)
theorem inv_app (u v : List α) : inv sw (u ++ v) = inv sw v ++ inv sw u := by simp [inv]
theorem inv_inv (hs : ∀ c, sw (sw c) = c) (u : List α) : inv sw (inv sw u) = u := by
  simp only [inv, List.map_reverse, List.reverse_reverse, List.map_map]
  have : sw ∘ sw = id := funext hs
  rw [this, List.map_id]
theorem red_rev : ∀ (l : List α), (∀ c, sw (sw c) = c) → Red sw l → Red sw (inv sw l)
  | [], _, _ => trivial
  | [a], _, _ => trivial
  | a :: b :: l, hs, h => by
    have h2 := red_rev (b :: l) hs h.2
    have e : inv sw (a :: b :: l) = inv sw (b :: l) ++ [sw a] := inv_app [a] (b :: l)
    rw [e]
    refine red_snoc _ _ h2 ?_
    have e2 : inv sw (b :: l) = inv sw l ++ [sw b] := inv_app [b] l
    rw [e2, hs]
    simp
    exact fun z => h.1 z.symm
theorem inv_cancel (hs : ∀ c, sw (sw c) = c) : ∀ (w st : List α), Red sw st → run sw (run sw st w) (inv sw w) = st
  | [], st, _ => rfl
  | c :: w, st, h => by
    have e : inv sw (c :: w) = inv sw w ++ [sw c] := inv_app [c] w
    rw [e, run_app]
    show push sw (run sw (run sw (push sw st c) w) (inv sw w)) (sw c) = st
    rw [inv_cancel hs w _ (push_red h), push_push hs h]
theorem short_self (hs : ∀ c, sw (sw c) = c) (w : List α) : shortL sw (w ++ inv sw w) = [] := by
  unfold shortL
  rw [run_app]
  exact inv_cancel hs w [] trivial
theorem short_inv (hs : ∀ c, sw (sw c) = c) (w : List α) : shortL sw (inv sw w) = inv sw (shortL sw w) := by
  have h1 : shortL sw (inv sw w ++ (shortL sw w ++ inv sw (shortL sw w))) = shortL sw (inv sw w) := by
    rw [← short_app hs (inv sw w), short_self hs, List.append_nil, short_short]
  have h2 : shortL sw (inv sw w ++ shortL sw w) = [] := by
    rw [← short_app hs, short_short, short_app hs]
    have := short_self hs (inv sw w)
    rwa [inv_inv hs] at this
  rw [← h1, ← List.append_assoc, ← short_app hs (inv sw w ++ shortL sw w), h2, List.nil_append, short_short, short_of_red (red_rev _ hs (short_red w))]
def diff (sw : α → α) (a : α) (w : List α) : Int := (w.count a : Int) - (w.count (sw a) : Int)
theorem diff_app (a : α) (u v : List α) : diff sw a (u ++ v) = diff sw a u + diff sw a v := by
  simp only [diff, List.count_append]
  omega
theorem diff_pair (hs : ∀ c, sw (sw c) = c) (a c : α) : diff sw a [c] + diff sw a [sw c] = 0 := by
  have e1 : (c = sw a) ↔ (sw c = a) := ⟨fun h => by rw [h, hs], fun h => by rw [← h, hs]⟩
  have e2 : (c = a) ↔ (sw c = sw a) := ⟨fun h => by rw [h], fun h => by rw [← hs c, h, hs]⟩
  simp only [diff, List.count_singleton, beq_iff_eq]
  by_cases h1 : c = a
  · have h2 := e2.mp h1
    by_cases h3 : c = sw a
    · have h4 := e1.mp h3
      rw [if_pos h1, if_pos h3, if_pos h4, if_pos h2]
      rfl
    · have h4 : ¬ sw c = a := fun z => h3 (e1.mpr z)
      rw [if_pos h1, if_neg h3, if_neg h4, if_pos h2]
      rfl
  · have h2 : ¬ sw c = sw a := fun z => h1 (e2.mpr z)
    by_cases h3 : c = sw a
    · have h4 := e1.mp h3
      rw [if_neg h1, if_pos h3, if_pos h4, if_neg h2]
      rfl
    · have h4 : ¬ sw c = a := fun z => h3 (e1.mpr z)
      rw [if_neg h1, if_neg h3, if_neg h4, if_neg h2]
      rfl
theorem diff_push (hs : ∀ c, sw (sw c) = c) (a c : α) (st : List α) : diff sw a (push sw st c) = diff sw a st + diff sw a [c] := by
  unfold push
  split
  · rename_i hl
    have e := last_split hl
    have h1 : diff sw a st = diff sw a st.dropLast + diff sw a [sw c] := by
      conv => lhs; rw [e]
      exact diff_app a _ _
    have h2 := diff_pair hs a c
    omega
  · exact diff_app a st [c]
theorem diff_run (hs : ∀ c, sw (sw c) = c) (a : α) : ∀ (w st : List α), diff sw a (run sw st w) = diff sw a st + diff sw a w
  | [], st => by simp [run, diff]
  | c :: w, st => by
    have h1 := diff_run hs a w (push sw st c)
    have h2 := diff_push hs a c st
    have h3 : diff sw a (c :: w) = diff sw a [c] + diff sw a w := diff_app a [c] w
    show diff sw a (run sw (push sw st c) w) = _
    omega
theorem diff_short (hs : ∀ c, sw (sw c) = c) (a : α) (w : List α) : diff sw a (shortL sw w) = diff sw a w := by
  have := diff_run hs a w []
  have e : diff sw a ([] : List α) = 0 := by simp [diff]
  unfold shortL
  omega
theorem diff_inv (hs : ∀ c, sw (sw c) = c) (a : α) : ∀ w : List α, diff sw a (inv sw w) = -diff sw a w
  | [] => by simp [diff, inv]
  | c :: w => by
    have e : inv sw (c :: w) = inv sw w ++ [sw c] := inv_app [c] w
    have h1 := diff_inv hs a w
    have h2 := diff_app (sw := sw) a [c] w
    have h3 := diff_app (sw := sw) a (inv sw w) [sw c]
    have h4 := diff_pair hs a c
    rw [e]
    show _ = - diff sw a ([c] ++ w)
    omega
end
end KM
set_option Elab.async false
set_option linter.all false
set_option maxRecDepth 100000
set_option maxHeartbeats 4000000
namespace KL
open PySem TI
abbrev Fk (k : Nat) : Fns := fnsOf tbl gls k
theorem f_succ {k f : Nat} {i : FnI} {as : List Slot} (hi : tbl[f]? = some i) (hl : as.length = i.ps.length) : (Fk (k + 1)).fn f as = runF (Fk k) i.N.length i.body as :=
  fns_succ (b := ⟨i.ps.length, i.N.length, i.body⟩) (by show (tbl[f]?).map _ = _; rw [hi]; rfl) hl
def lows : List Char := ['a', 'b', 'c', 'd', 'e', 'f', 'g', 'h', 'i', 'j', 'k', 'l', 'm', 'n', 'o', 'p', 'q', 'r', 's', 't', 'u', 'v', 'w', 'x', 'y', 'z']
def caps : List Char := ['A', 'B', 'C', 'D', 'E', 'F', 'G', 'H', 'I', 'J', 'K', 'L', 'M', 'N', 'O', 'P', 'Q', 'R', 'S', 'T', 'U', 'V', 'W', 'X', 'Y', 'Z']
def sw (c : Char) : Char := if c ∈ lows then upC c else if c ∈ caps then loC c else c
def ok (c : Char) : Prop := c ∈ lows ∨ c ∈ caps
def okw (w : List Char) : Prop := ∀ c ∈ w, ok c
theorem sw_sw (c : Char) : sw (sw c) = c := by
  by_cases h : c ∈ lows
  · have : ∀ c ∈ lows, sw (sw c) = c := by decide
    exact this c h
  · by_cases h2 : c ∈ caps
    · have : ∀ c ∈ caps, sw (sw c) = c := by decide
      exact this c h2
    · have : sw c = c := by unfold sw; rw [if_neg h, if_neg h2]
      rw [this, this]
theorem sw_ok {c : Char} (h : ok c) : ok (sw c) := by
  rcases h with h | h
  · have : ∀ c ∈ lows, sw c ∈ caps := by decide
    exact .inr (this c h)
  · have : ∀ c ∈ caps, sw c ∈ lows := by decide
    exact .inl (this c h)
theorem ok_ascii {c : Char} (h : ok c) : asciiC c = true := by
  rcases h with h | h
  · have : ∀ c ∈ lows, asciiC c = true := by decide
    exact this c h
  · have : ∀ c ∈ caps, asciiC c = true := by decide
    exact this c h
theorem g0 (k : Nat) : (Fk k).glob 0 = some (.int 3) := rfl
theorem g1 (k : Nat) : (Fk k).glob 1 = some (.str lows) := rfl
theorem g2 (k : Nat) : (Fk k).glob 2 = some (.str caps) := rfl
theorem in_str (c : Char) (w : List Char) : inD (.str [c]) (.str w) = some (decide (c ∈ w)) := rfl
theorem up1 {c : Char} (h : asciiC c = true) : bmD .upper (.str [c]) [] = some (.str [upC c]) := by
  show upperD (.str [c]) [] = _
  simp [upperD, h]
theorem lo1 {c : Char} (h : asciiC c = true) : bmD .lower (.str [c]) [] = some (.str [loC c]) := by
  show lowerD (.str [c]) [] = _
  simp [lowerD, h]
theorem sp4 (k : Nat) {c : Char} (h : ok c) : (Fk (k + 1)).fn 4 [.val (.str [c])] = .ok (.str [sw c]) [] := by
  rw [f_succ (i := i4) rfl rfl]
  show TI.finish [.val (.str [c])] (evSs (Fk k) b4 [.val (.str [c])]) = _
  have ha := ok_ascii h
  simp only [b4, evSs, evS, evE, evA, evAs, evB, evIt, R.bind, RS.of, RS.bind, TI.finish, outs_nil, outs_val, outs_un, outs_own, R.of, R.noX, strOf, res, resL, valsL, slotsL, ownIx, putOuts, callR, muR, muOwn, lstAt, ownAt, isBox, mk, nodupB, asg, cmpD, Option.bind, Option.map, tru, List.getElem?_cons_zero, List.getElem?_cons_succ, List.set_cons_zero, List.set_cons_succ, List.cons_append, List.nil_append, Lit.d, List.contains_nil, List.contains_cons, List.length_cons, List.length_nil, List.map_cons, List.map_nil, Bool.not_false, Bool.not_true, Bool.and_true, Bool.true_and, Bool.or_true, Bool.or_false, Bool.false_eq_true, if_true, if_false, reduceCtorEq, Nat.reduceAdd, leLim0, leLim1, leLim2, leLim3, leLim4, leLim5, leLim6, leLim7, leLim8, leLim9, leLim10, leLim11, leLim12, g1, in_str]
  by_cases hl : c ∈ lows
  · simp [hl, up1 ha, sw, outs_val, outs_nil]
  · have hc : c ∈ caps := h.resolve_left hl
    simp [hl, hc, lo1 ha, sw, outs_val, outs_nil]
theorem sp8 (k : Nat) {c : Char} (h : ok c) : (Fk (k + 1)).fn 8 [.val (.str [c])] = .ok (.str [sw c]) [] := by
  rw [f_succ (i := i8) rfl rfl]
  show TI.finish [.val (.str [c])] (evSs (Fk k) b8 [.val (.str [c]), .un, .un]) = _
  rcases h with h | h
  · have : ∀ c ∈ lows, TI.finish [.val (.str [c])] (evSs (Fk k) b8 [.val (.str [c]), .un, .un]) = .ok (.str [sw c]) [] := by
      intro c hc
      simp only [lows, List.mem_cons, List.not_mem_nil, or_false] at hc
      rcases hc with rfl | rfl | rfl | rfl | rfl | rfl | rfl | rfl | rfl | rfl | rfl | rfl | rfl | rfl | rfl | rfl | rfl | rfl | rfl | rfl | rfl | rfl | rfl | rfl | rfl | rfl <;> rfl
    exact this c h
  · have : ∀ c ∈ caps, TI.finish [.val (.str [c])] (evSs (Fk k) b8 [.val (.str [c]), .un, .un]) = .ok (.str [sw c]) [] := by
      intro c hc
      simp only [caps, List.mem_cons, List.not_mem_nil, or_false] at hc
      rcases hc with rfl | rfl | rfl | rfl | rfl | rfl | rfl | rfl | rfl | rfl | rfl | rfl | rfl | rfl | rfl | rfl | rfl | rfl | rfl | rfl | rfl | rfl | rfl | rfl | rfl | rfl <;> rfl
    exact this c h
theorem cl_mem {w : List Char} {d : D} (h : d ∈ cl w) : ∃ c ∈ w, d = .str [c] := by
  obtain ⟨c, hc, rfl⟩ := List.mem_map.mp h
  exact ⟨c, hc, rfl⟩
theorem seq_str (Φ : Fns) {e : TI.Env} {i : Nat} {w : List Char} (h : e[i]? = some (.val (.str w))) : evIt Φ (.seq (.var i)) e = .ok (cl w) e := by
  simp only [evIt, evE, h, R.bind, R.of, itemsD]
  rfl
theorem all_true (l : List D) : bfD .all [.lst (l.map fun _ => .bl true)] = some (.bl true) := by
  rw [bf_all l fun _ => true]
  simp
def c1 : E := (.comp (.cmp .in_ (.o 1) (.e (.glob 1))) (.mk (.n 1) (.seq (.var 0)) (.lit (.bl true))) [1])
theorem b1_eq : b1 = (.cons (.ret (.and_ (.isi (.o 0) [.str]) (.bf .all (.cons (.e c1) .nil)))) .nil) := rfl
theorem sp1 (k : Nat) {w : List Char} (h : ∀ c ∈ w, c ∈ lows) (hl : w.length ≤ lim) : (Fk (k + 1)).fn 1 [.val (.str w)] = .ok (.bl true) [] := by
  rw [f_succ (i := i1) rfl rfl]
  show TI.finish [.val (.str w)] (evSs (Fk k) b1 [.val (.str w), .un]) = _
  have hm := ev_map (Φ := Fk k) (elt := .cmp .in_ (.o 1) (.e (.glob 1))) (i := 1) (it := .seq (.var 0)) (e := [.val (.str w), .un]) (items := cl w) (s0 := .un) (fun _ => .bl true) (seq_str _ rfl) rfl (by
    intro d hd
    obtain ⟨c, hc, rfl⟩ := cl_mem hd
    simp only [evSs, evS, evE, evA, evAs, evB, evIt, R.bind, RS.of, RS.bind, TI.finish, outs_nil, outs_val, outs_un, outs_own, R.of, R.noX, strOf, res, resL, valsL, slotsL, ownIx, putOuts, callR, muR, muOwn, lstAt, ownAt, isBox, mk, nodupB, asg, cmpD, Option.bind, Option.map, tru, List.getElem?_cons_zero, List.getElem?_cons_succ, List.set_cons_zero, List.set_cons_succ, List.cons_append, List.nil_append, Lit.d, List.contains_nil, List.contains_cons, List.length_cons, List.length_nil, List.map_cons, List.map_nil, Bool.not_false, Bool.not_true, Bool.and_true, Bool.true_and, Bool.or_true, Bool.or_false, Bool.false_eq_true, if_true, if_false, reduceCtorEq, Nat.reduceAdd, leLim0, leLim1, leLim2, leLim3, leLim4, leLim5, leLim6, leLim7, leLim8, leLim9, leLim10, leLim11, leLim12, g1, in_str, h c hc, decide_true]) (by rw [cl_len]; exact hl)
  have hm : evE (Fk k) c1 [.val (.str w), .un] = .ok (.lst ((cl w).map fun _ => .bl true)) [.val (.str w), .un] := hm
  rw [b1_eq]
  simp only [evSs, evS, evE, evA, evAs, evB, evIt, R.bind, RS.of, RS.bind, TI.finish, outs_nil, outs_val, outs_un, outs_own, R.of, R.noX, strOf, res, resL, valsL, slotsL, ownIx, putOuts, callR, muR, muOwn, lstAt, ownAt, isBox, mk, nodupB, asg, cmpD, Option.bind, Option.map, tru, List.getElem?_cons_zero, List.getElem?_cons_succ, List.set_cons_zero, List.set_cons_succ, List.cons_append, List.nil_append, Lit.d, List.contains_nil, List.contains_cons, List.length_cons, List.length_nil, List.map_cons, List.map_nil, Bool.not_false, Bool.not_true, Bool.and_true, Bool.true_and, Bool.or_true, Bool.or_false, Bool.false_eq_true, if_true, if_false, reduceCtorEq, Nat.reduceAdd, leLim0, leLim1, leLim2, leLim3, leLim4, leLim5, leLim6, leLim7, leLim8, leLim9, leLim10, leLim11, leLim12, isiOk, tyD, List.any_cons, List.any_nil, hm, all_true]
def c2 : E := (.comp (.or_ (.cmp .in_ (.o 1) (.e (.glob 1))) (.cmp .in_ (.o 1) (.e (.glob 2)))) (.mk (.n 1) (.seq (.var 0)) (.lit (.bl true))) [1])
theorem b2_eq : b2 = (.cons (.ret (.and_ (.isi (.o 0) [.str]) (.bf .all (.cons (.e c2) .nil)))) .nil) := rfl
theorem sp2 (k : Nat) {w : List Char} (h : okw w) (hl : w.length ≤ lim) : (Fk (k + 1)).fn 2 [.val (.str w)] = .ok (.bl true) [] := by
  rw [f_succ (i := i2) rfl rfl]
  show TI.finish [.val (.str w)] (evSs (Fk k) b2 [.val (.str w), .un]) = _
  have hm := ev_map (Φ := Fk k) (elt := .or_ (.cmp .in_ (.o 1) (.e (.glob 1))) (.cmp .in_ (.o 1) (.e (.glob 2)))) (i := 1) (it := .seq (.var 0)) (e := [.val (.str w), .un]) (items := cl w) (s0 := .un) (fun _ => .bl true) (seq_str _ rfl) rfl (by
    intro d hd
    obtain ⟨c, hc, rfl⟩ := cl_mem hd
    by_cases h1 : c ∈ lows
    · simp only [evSs, evS, evE, evA, evAs, evB, evIt, R.bind, RS.of, RS.bind, TI.finish, outs_nil, outs_val, outs_un, outs_own, R.of, R.noX, strOf, res, resL, valsL, slotsL, ownIx, putOuts, callR, muR, muOwn, lstAt, ownAt, isBox, mk, nodupB, asg, cmpD, Option.bind, Option.map, tru, List.getElem?_cons_zero, List.getElem?_cons_succ, List.set_cons_zero, List.set_cons_succ, List.cons_append, List.nil_append, Lit.d, List.contains_nil, List.contains_cons, List.length_cons, List.length_nil, List.map_cons, List.map_nil, Bool.not_false, Bool.not_true, Bool.and_true, Bool.true_and, Bool.or_true, Bool.or_false, Bool.false_eq_true, if_true, if_false, reduceCtorEq, Nat.reduceAdd, leLim0, leLim1, leLim2, leLim3, leLim4, leLim5, leLim6, leLim7, leLim8, leLim9, leLim10, leLim11, leLim12, g1, g2, in_str, h1, decide_true]
    · have h2 : c ∈ caps := (h c hc).resolve_left h1
      simp only [evSs, evS, evE, evA, evAs, evB, evIt, R.bind, RS.of, RS.bind, TI.finish, outs_nil, outs_val, outs_un, outs_own, R.of, R.noX, strOf, res, resL, valsL, slotsL, ownIx, putOuts, callR, muR, muOwn, lstAt, ownAt, isBox, mk, nodupB, asg, cmpD, Option.bind, Option.map, tru, List.getElem?_cons_zero, List.getElem?_cons_succ, List.set_cons_zero, List.set_cons_succ, List.cons_append, List.nil_append, Lit.d, List.contains_nil, List.contains_cons, List.length_cons, List.length_nil, List.map_cons, List.map_nil, Bool.not_false, Bool.not_true, Bool.and_true, Bool.true_and, Bool.or_true, Bool.or_false, Bool.false_eq_true, if_true, if_false, reduceCtorEq, Nat.reduceAdd, leLim0, leLim1, leLim2, leLim3, leLim4, leLim5, leLim6, leLim7, leLim8, leLim9, leLim10, leLim11, leLim12, g1, g2, in_str, h1, h2, decide_true, decide_false]) (by rw [cl_len]; exact hl)
  have hm : evE (Fk k) c2 [.val (.str w), .un] = .ok (.lst ((cl w).map fun _ => .bl true)) [.val (.str w), .un] := hm
  rw [b2_eq]
  simp only [evSs, evS, evE, evA, evAs, evB, evIt, R.bind, RS.of, RS.bind, TI.finish, outs_nil, outs_val, outs_un, outs_own, R.of, R.noX, strOf, res, resL, valsL, slotsL, ownIx, putOuts, callR, muR, muOwn, lstAt, ownAt, isBox, mk, nodupB, asg, cmpD, Option.bind, Option.map, tru, List.getElem?_cons_zero, List.getElem?_cons_succ, List.set_cons_zero, List.set_cons_succ, List.cons_append, List.nil_append, Lit.d, List.contains_nil, List.contains_cons, List.length_cons, List.length_nil, List.map_cons, List.map_nil, Bool.not_false, Bool.not_true, Bool.and_true, Bool.true_and, Bool.or_true, Bool.or_false, Bool.false_eq_true, if_true, if_false, reduceCtorEq, Nat.reduceAdd, leLim0, leLim1, leLim2, leLim3, leLim4, leLim5, leLim6, leLim7, leLim8, leLim9, leLim10, leLim11, leLim12, isiOk, tyD, List.any_cons, List.any_nil, hm, all_true]
theorem sp10 (k : Nat) {w : List Char} (h : okw w) (hl : w.length ≤ lim) : (Fk (k + 1 + 1)).fn 10 [.val (.str w)] = .ok .non [] := by
  rw [f_succ (i := i10) rfl rfl]
  show TI.finish [.val (.str w)] (evSs (Fk (k + 1)) b10 [.val (.str w)]) = _
  simp only [b10, evSs, evS, evE, evA, evAs, evB, evIt, R.bind, RS.of, RS.bind, TI.finish, outs_nil, outs_val, outs_un, outs_own, R.of, R.noX, strOf, res, resL, valsL, slotsL, ownIx, putOuts, callR, muR, muOwn, lstAt, ownAt, isBox, mk, nodupB, asg, cmpD, Option.bind, Option.map, tru, List.getElem?_cons_zero, List.getElem?_cons_succ, List.set_cons_zero, List.set_cons_succ, List.cons_append, List.nil_append, Lit.d, List.contains_nil, List.contains_cons, List.length_cons, List.length_nil, List.map_cons, List.map_nil, Bool.not_false, Bool.not_true, Bool.and_true, Bool.true_and, Bool.or_true, Bool.or_false, Bool.false_eq_true, if_true, if_false, reduceCtorEq, Nat.reduceAdd, leLim0, leLim1, leLim2, leLim3, leLim4, leLim5, leLim6, leLim7, leLim8, leLim9, leLim10, leLim11, leLim12, sp2 k h hl]
def c12 : E := (.comp (.call 4 (.cons (.e (.var 1)) .nil)) (.mk (.n 1) (.seq (.rev (.o 0))) (.lit (.bl true))) [1])
theorem b12_eq : b12 = (.cons (.ret (.bm .join (.e (.lit (.str []))) (.cons (.e c12) .nil))) .nil) := rfl
theorem sp12 (k : Nat) {w : List Char} (h : okw w) (hl : w.length ≤ lim) : (Fk (k + 1 + 1)).fn 12 [.val (.str w)] = .ok (.str (KM.inv sw w)) [] := by
  rw [f_succ (i := i12) rfl rfl]
  show TI.finish [.val (.str w)] (evSs (Fk (k + 1)) b12 [.val (.str w), .un]) = _
  have hi : evIt (Fk (k + 1)) (.seq (.rev (.o 0))) [.val (.str w), .un] = .ok (w.reverse.map fun c => .str [c]) [.val (.str w), .un] := by
    simp only [evSs, evS, evE, evA, evAs, evB, evIt, R.bind, RS.of, RS.bind, TI.finish, outs_nil, outs_val, outs_un, outs_own, R.of, R.noX, strOf, res, resL, valsL, slotsL, ownIx, putOuts, callR, muR, muOwn, lstAt, ownAt, isBox, mk, nodupB, asg, cmpD, Option.bind, Option.map, tru, List.getElem?_cons_zero, List.getElem?_cons_succ, List.set_cons_zero, List.set_cons_succ, List.cons_append, List.nil_append, Lit.d, List.contains_nil, List.contains_cons, List.length_cons, List.length_nil, List.map_cons, List.map_nil, Bool.not_false, Bool.not_true, Bool.and_true, Bool.true_and, Bool.or_true, Bool.or_false, Bool.false_eq_true, if_true, if_false, reduceCtorEq, Nat.reduceAdd, leLim0, leLim1, leLim2, leLim3, leLim4, leLim5, leLim6, leLim7, leLim8, leLim9, leLim10, leLim11, leLim12, revD, hl, itemsD]
  have hm := ev_mapL (Φ := Fk (k + 1)) (elt := .call 4 (.cons (.e (.var 1)) .nil)) (i := 1) (s0 := .un) (fun c => .str [c]) (fun c => .str [sw c]) hi rfl (by
    intro a b z
    injection z with z
    injection z with z
    rw [z]) (by
    intro c hc
    have ho : ok c := h c (List.mem_reverse.mp hc)
    simp only [evSs, evS, evE, evA, evAs, evB, evIt, R.bind, RS.of, RS.bind, TI.finish, outs_nil, outs_val, outs_un, outs_own, R.of, R.noX, strOf, res, resL, valsL, slotsL, ownIx, putOuts, callR, muR, muOwn, lstAt, ownAt, isBox, mk, nodupB, asg, cmpD, Option.bind, Option.map, tru, List.getElem?_cons_zero, List.getElem?_cons_succ, List.set_cons_zero, List.set_cons_succ, List.cons_append, List.nil_append, Lit.d, List.contains_nil, List.contains_cons, List.length_cons, List.length_nil, List.map_cons, List.map_nil, Bool.not_false, Bool.not_true, Bool.and_true, Bool.true_and, Bool.or_true, Bool.or_false, Bool.false_eq_true, if_true, if_false, reduceCtorEq, Nat.reduceAdd, leLim0, leLim1, leLim2, leLim3, leLim4, leLim5, leLim6, leLim7, leLim8, leLim9, leLim10, leLim11, leLim12, sp4 k ho]) (by rw [List.length_reverse]; exact hl)
  have hj : bmD .join (.str []) [.lst (w.reverse.map fun c => .str [sw c])] = some (.str (KM.inv sw w)) := by
    have : (w.reverse.map fun c => (D.str [sw c])) = cl (KM.inv sw w) := by simp [cl, KM.inv]
    rw [this]
    exact cl_join (by simp [KM.inv]; exact hl)
  have hm : evE (Fk (k + 1)) c12 [.val (.str w), .un] = .ok (.lst (w.reverse.map fun c => .str [sw c])) [.val (.str w), .un] := hm
  rw [b12_eq]
  simp only [evSs, evS, evE, evA, evAs, evB, evIt, R.bind, RS.of, RS.bind, TI.finish, outs_nil, outs_val, outs_un, outs_own, R.of, R.noX, strOf, res, resL, valsL, slotsL, ownIx, putOuts, callR, muR, muOwn, lstAt, ownAt, isBox, mk, nodupB, asg, cmpD, Option.bind, Option.map, tru, List.getElem?_cons_zero, List.getElem?_cons_succ, List.set_cons_zero, List.set_cons_succ, List.cons_append, List.nil_append, Lit.d, List.contains_nil, List.contains_cons, List.length_cons, List.length_nil, List.map_cons, List.map_nil, Bool.not_false, Bool.not_true, Bool.and_true, Bool.true_and, Bool.or_true, Bool.or_false, Bool.false_eq_true, if_true, if_false, reduceCtorEq, Nat.reduceAdd, leLim0, leLim1, leLim2, leLim3, leLim4, leLim5, leLim6, leLim7, leLim8, leLim9, leLim10, leLim11, leLim12, hm, hj]
def c16 : E := (.comp (.call 8 (.cons (.e (.var 1)) .nil)) (.mk (.n 1) (.seq (.rev (.o 0))) (.lit (.bl true))) [1])
theorem b16_eq : b16 = (.cons (.ret (.bm .join (.e (.lit (.str []))) (.cons (.e c16) .nil))) .nil) := rfl
theorem sp16 (k : Nat) {w : List Char} (h : okw w) (hl : w.length ≤ lim) : (Fk (k + 1 + 1)).fn 16 [.val (.str w)] = .ok (.str (KM.inv sw w)) [] := by
  rw [f_succ (i := i16) rfl rfl]
  show TI.finish [.val (.str w)] (evSs (Fk (k + 1)) b16 [.val (.str w), .un]) = _
  have hi : evIt (Fk (k + 1)) (.seq (.rev (.o 0))) [.val (.str w), .un] = .ok (w.reverse.map fun c => .str [c]) [.val (.str w), .un] := by
    simp only [evSs, evS, evE, evA, evAs, evB, evIt, R.bind, RS.of, RS.bind, TI.finish, outs_nil, outs_val, outs_un, outs_own, R.of, R.noX, strOf, res, resL, valsL, slotsL, ownIx, putOuts, callR, muR, muOwn, lstAt, ownAt, isBox, mk, nodupB, asg, cmpD, Option.bind, Option.map, tru, List.getElem?_cons_zero, List.getElem?_cons_succ, List.set_cons_zero, List.set_cons_succ, List.cons_append, List.nil_append, Lit.d, List.contains_nil, List.contains_cons, List.length_cons, List.length_nil, List.map_cons, List.map_nil, Bool.not_false, Bool.not_true, Bool.and_true, Bool.true_and, Bool.or_true, Bool.or_false, Bool.false_eq_true, if_true, if_false, reduceCtorEq, Nat.reduceAdd, leLim0, leLim1, leLim2, leLim3, leLim4, leLim5, leLim6, leLim7, leLim8, leLim9, leLim10, leLim11, leLim12, revD, hl, itemsD]
  have hm := ev_mapL (Φ := Fk (k + 1)) (elt := .call 8 (.cons (.e (.var 1)) .nil)) (i := 1) (s0 := .un) (fun c => .str [c]) (fun c => .str [sw c]) hi rfl (by
    intro a b z
    injection z with z
    injection z with z
    rw [z]) (by
    intro c hc
    have ho : ok c := h c (List.mem_reverse.mp hc)
    simp only [evSs, evS, evE, evA, evAs, evB, evIt, R.bind, RS.of, RS.bind, TI.finish, outs_nil, outs_val, outs_un, outs_own, R.of, R.noX, strOf, res, resL, valsL, slotsL, ownIx, putOuts, callR, muR, muOwn, lstAt, ownAt, isBox, mk, nodupB, asg, cmpD, Option.bind, Option.map, tru, List.getElem?_cons_zero, List.getElem?_cons_succ, List.set_cons_zero, List.set_cons_succ, List.cons_append, List.nil_append, Lit.d, List.contains_nil, List.contains_cons, List.length_cons, List.length_nil, List.map_cons, List.map_nil, Bool.not_false, Bool.not_true, Bool.and_true, Bool.true_and, Bool.or_true, Bool.or_false, Bool.false_eq_true, if_true, if_false, reduceCtorEq, Nat.reduceAdd, leLim0, leLim1, leLim2, leLim3, leLim4, leLim5, leLim6, leLim7, leLim8, leLim9, leLim10, leLim11, leLim12, sp8 k ho]) (by rw [List.length_reverse]; exact hl)
  have hj : bmD .join (.str []) [.lst (w.reverse.map fun c => .str [sw c])] = some (.str (KM.inv sw w)) := by
    have : (w.reverse.map fun c => (D.str [sw c])) = cl (KM.inv sw w) := by simp [cl, KM.inv]
    rw [this]
    exact cl_join (by simp [KM.inv]; exact hl)
  have hm : evE (Fk (k + 1)) c16 [.val (.str w), .un] = .ok (.lst (w.reverse.map fun c => .str [sw c])) [.val (.str w), .un] := hm
  rw [b16_eq]
  simp only [evSs, evS, evE, evA, evAs, evB, evIt, R.bind, RS.of, RS.bind, TI.finish, outs_nil, outs_val, outs_un, outs_own, R.of, R.noX, strOf, res, resL, valsL, slotsL, ownIx, putOuts, callR, muR, muOwn, lstAt, ownAt, isBox, mk, nodupB, asg, cmpD, Option.bind, Option.map, tru, List.getElem?_cons_zero, List.getElem?_cons_succ, List.set_cons_zero, List.set_cons_succ, List.cons_append, List.nil_append, Lit.d, List.contains_nil, List.contains_cons, List.length_cons, List.length_nil, List.map_cons, List.map_nil, Bool.not_false, Bool.not_true, Bool.and_true, Bool.true_and, Bool.or_true, Bool.or_false, Bool.false_eq_true, if_true, if_false, reduceCtorEq, Nat.reduceAdd, leLim0, leLim1, leLim2, leLim3, leLim4, leLim5, leLim6, leLim7, leLim8, leLim9, leLim10, leLim11, leLim12, hm, hj]
theorem bm_join {w : List Char} (h : w.length ≤ lim) : bmD .join (.str []) [.lst (cl w)] = some (.str w) := cl_join h
theorem push_len (st : List Char) (c : Char) : (KM.push sw st c).length ≤ st.length + 1 := by
  unfold KM.push
  split <;> simp <;> omega
theorem run_len : ∀ (w st : List Char), (KM.run sw st w).length ≤ st.length + w.length
  | [], st => by simp [KM.run]
  | c :: w, st => by
    have h1 := run_len w (KM.push sw st c)
    have h2 := push_len st c
    show (KM.run sw (KM.push sw st c) w).length ≤ _
    simp only [List.length_cons]
    omega
theorem short_len (w : List Char) : (KM.shortL sw w).length ≤ w.length := by simpa [KM.shortL] using run_len w []
theorem short_ok {w : List Char} (h : okw w) : okw (KM.shortL sw w) := by
  have : ∀ (w st : List Char), okw st → okw w → okw (KM.run sw st w) := by
    intro w
    induction w with
    | nil => intro st hs _; exact hs
    | cons c w ih =>
      intro st hs hw
      refine ih _ ?_ fun x hx => hw x (List.mem_cons_of_mem _ hx)
      intro x hx
      unfold KM.push at hx
      split at hx
      · exact hs x ((List.dropLast_sublist st).subset hx)
      · rcases List.mem_append.mp hx with hx | hx
        · exact hs x hx
        · rw [List.mem_singleton.mp hx]; exact hw c List.mem_cons_self
  exact this w [] (fun _ h => nomatch h) h
theorem inv_ok {w : List Char} (h : okw w) : okw (KM.inv sw w) := by
  intro c hc
  obtain ⟨a, ha, rfl⟩ := List.mem_map.mp hc
  exact sw_ok (h a (List.mem_reverse.mp ha))
theorem inv_len (w : List Char) : (KM.inv sw w).length = w.length := by simp [KM.inv]
def sbody (f : Nat) : Ss := .cons (.ite (.and_ (.cmp .ne (.o 1) (.e (.lst .nil))) (.cmp .eq (.e (.idx (.o 1) (.e (.neg (.lit (.int 1)))))) (.e (.call f (.cons (.e (.var 2)) .nil))))) (.cons (.expr (.mu .pop 1 .nil)) .nil) (.cons (.expr (.mu .append 1 (.cons (.e (.var 2)) .nil))) .nil)) .nil
theorem ix_last {st : List Char} {x : Char} (h : st.getLast? = some x) : idxD (.lst (cl st)) (.int (-1)) = some (.str [x]) := by
  show at? (cl st) (-1) = _
  rw [at_last, cl_last, h]
  rfl
theorem s_turn {Φ : Fns} {f : Nat} (hf : ∀ c, ok c → Φ.fn f [.val (.str [c])] = .ok (.str [sw c]) []) {w st : List Char} {c : Char} (h : ok c) (hl : st.length < lim) : evSs Φ (sbody f) [.val (.str w), .own (.lst (cl st)), .val (.str [c])] = .nx [.val (.str w), .own (.lst (cl (KM.push sw st c))), .val (.str [c])] := by
  have hx : ∀ u : List Char, (u = ([] : List Char)) = (u = []) := fun _ => rfl
  have hm : muD .append (.lst (cl st)) [.str [c]] = some (.non, .lst (cl (st ++ [c]))) := by
    show (if (cl st).length < lim then _ else _) = _
    rw [cl_len, if_pos hl, cl_app]
    rfl
  by_cases he : st = []
  · subst he
    have hp : KM.push sw [] c = [] ++ [c] := rfl
    simp only [sbody, evSs, evS, evE, evA, evAs, evB, evIt, R.bind, RS.of, RS.bind, TI.finish, outs_nil, outs_val, outs_un, outs_own, R.of, R.noX, strOf, res, resL, valsL, slotsL, ownIx, putOuts, callR, muR, muOwn, lstAt, ownAt, isBox, mk, nodupB, asg, cmpD, Option.bind, Option.map, tru, List.getElem?_cons_zero, List.getElem?_cons_succ, List.set_cons_zero, List.set_cons_succ, List.cons_append, List.nil_append, Lit.d, List.contains_nil, List.contains_cons, List.length_cons, List.length_nil, List.map_cons, List.map_nil, Bool.not_false, Bool.not_true, Bool.and_true, Bool.true_and, Bool.or_true, Bool.or_false, Bool.false_eq_true, if_true, if_false, reduceCtorEq, Nat.reduceAdd, leLim0, leLim1, leLim2, leLim3, leLim4, leLim5, leLim6, leLim7, leLim8, leLim9, leLim10, leLim11, leLim12, cl_eq0, decide_true, hm, hp]
  · obtain ⟨x, hx⟩ : ∃ x, st.getLast? = some x := by
      cases e : st.getLast? with
      | none => exact absurd (List.getLast?_eq_none_iff.mp e) he
      | some x => exact ⟨x, rfl⟩
    have hpop : muD .pop (.lst (cl st)) [] = some (.str [x], .lst (cl st.dropLast)) := by
      show (cl st).getLast?.map _ = _
      rw [cl_last, hx, cl_drop]
      rfl
    have hneg : negD (.int 1) = some (.int (-1)) := rfl
    have heq : eqT (.str [x]) (.str [sw c]) = some (decide (x = sw c)) := by
      rw [eqT_str]
      by_cases h2 : x = sw c <;> simp [h2]
    by_cases h2 : x = sw c
    · subst h2
      have hp : KM.push sw st c = st.dropLast := by unfold KM.push; rw [hx, if_pos rfl]
      simp only [sbody, evSs, evS, evE, evA, evAs, evB, evIt, R.bind, RS.of, RS.bind, TI.finish, outs_nil, outs_val, outs_un, outs_own, R.of, R.noX, strOf, res, resL, valsL, slotsL, ownIx, putOuts, callR, muR, muOwn, lstAt, ownAt, isBox, mk, nodupB, asg, cmpD, Option.bind, Option.map, tru, List.getElem?_cons_zero, List.getElem?_cons_succ, List.set_cons_zero, List.set_cons_succ, List.cons_append, List.nil_append, Lit.d, List.contains_nil, List.contains_cons, List.length_cons, List.length_nil, List.map_cons, List.map_nil, Bool.not_false, Bool.not_true, Bool.and_true, Bool.true_and, Bool.or_true, Bool.or_false, Bool.false_eq_true, if_true, if_false, reduceCtorEq, Nat.reduceAdd, leLim0, leLim1, leLim2, leLim3, leLim4, leLim5, leLim6, leLim7, leLim8, leLim9, leLim10, leLim11, leLim12, cl_eq0, he, decide_true, decide_false, hm, hp, hneg, ix_last hx, hf c h, heq, hpop]
    · have hp : KM.push sw st c = st ++ [c] := by unfold KM.push; rw [hx, if_neg (fun z => h2 (Option.some.inj z))]
      simp only [sbody, evSs, evS, evE, evA, evAs, evB, evIt, R.bind, RS.of, RS.bind, TI.finish, outs_nil, outs_val, outs_un, outs_own, R.of, R.noX, strOf, res, resL, valsL, slotsL, ownIx, putOuts, callR, muR, muOwn, lstAt, ownAt, isBox, mk, nodupB, asg, cmpD, Option.bind, Option.map, tru, List.getElem?_cons_zero, List.getElem?_cons_succ, List.set_cons_zero, List.set_cons_succ, List.cons_append, List.nil_append, Lit.d, List.contains_nil, List.contains_cons, List.length_cons, List.length_nil, List.map_cons, List.map_nil, Bool.not_false, Bool.not_true, Bool.and_true, Bool.true_and, Bool.or_true, Bool.or_false, Bool.false_eq_true, if_true, if_false, reduceCtorEq, Nat.reduceAdd, leLim0, leLim1, leLim2, leLim3, leLim4, leLim5, leLim6, leLim7, leLim8, leLim9, leLim10, leLim11, leLim12, cl_eq0, he, decide_true, decide_false, hm, hp, hneg, ix_last hx, hf c h, heq, h2, hpop]
theorem s_loop {Φ : Fns} {f : Nat} (hf : ∀ c, ok c → Φ.fn f [.val (.str [c])] = .ok (.str [sw c]) []) (w0 : List Char) : ∀ (w st : List Char) (s : Slot), okw w → st.length + w.length < lim →
    ∃ s', loopF (fun d e => match asg (.n 2) d e with
      | some e => evSs Φ (sbody f) e
      | none => .bad) (cl w) [.val (.str w0), .own (.lst (cl st)), s] = .nx [.val (.str w0), .own (.lst (cl (KM.run sw st w))), s']
  | [], st, s, _, _ => ⟨s, rfl⟩
  | c :: w, st, s, h, hl => by
    simp only [List.length_cons] at hl
    have h2 := push_len st c
    obtain ⟨s', e⟩ := s_loop hf w0 w (KM.push sw st c) (.val (.str [c])) (fun x hx => h x (List.mem_cons_of_mem _ hx)) (by omega)
    refine ⟨s', ?_⟩
    have h3 := s_turn hf (w := w0) (st := st) (h c List.mem_cons_self) (by omega)
    show (evSs Φ (sbody f) [.val (.str w0), .own (.lst (cl st)), .val (.str [c])]).bind _ = _
    rw [h3]
    exact e
theorem sp13 (k : Nat) {w : List Char} (h : okw w) (hl : w.length < lim) : (Fk (k + 1 + 1)).fn 13 [.val (.str w)] = .ok (.str (KM.shortL sw w)) [] := by
  rw [f_succ (i := i13) rfl rfl]
  show TI.finish [.val (.str w)] (evSs (Fk (k + 1)) b13 [.val (.str w), .un, .un]) = _
  obtain ⟨s', e⟩ := s_loop (Φ := Fk (k + 1)) (f := 4) (fun c hc => sp4 k hc) w w [] .un h (by simpa using hl)
  have h1 : evS (Fk (k + 1)) (.setO 1 (.lst .nil)) [.val (.str w), .un, .un] = .nx [.val (.str w), .own (.lst (cl [])), .un] := rfl
  have h2 : evS (Fk (k + 1)) (.for_ (.n 2) (.seq (.var 0)) (sbody 4)) [.val (.str w), .own (.lst (cl [])), .un] = .nx [.val (.str w), .own (.lst (cl (KM.shortL sw w))), s'] := by
    rw [evS, seq_str _ rfl]
    exact e
  have h3 : evSs (Fk (k + 1)) b13 [.val (.str w), .un, .un] = ((evS (Fk (k + 1)) (.setO 1 (.lst .nil)) [.val (.str w), .un, .un]).bind fun e => (evS (Fk (k + 1)) (.for_ (.n 2) (.seq (.var 0)) (sbody 4)) e).bind (evSs (Fk (k + 1)) (.cons (.ret (.bm .join (.e (.lit (.str []))) (.cons (.o 1) .nil))) .nil))) := rfl
  have hj := bm_join (w := KM.shortL sw w) (Nat.le_trans (short_len w) (Nat.le_of_lt hl))
  rw [h3, h1, RS.bind_nx, h2, RS.bind_nx]
  simp only [evSs, evS, evE, evA, evAs, evB, evIt, R.bind, RS.of, RS.bind, TI.finish, outs_nil, outs_val, outs_un, outs_own, R.of, R.noX, strOf, res, resL, valsL, slotsL, ownIx, putOuts, callR, muR, muOwn, lstAt, ownAt, isBox, mk, nodupB, asg, cmpD, Option.bind, Option.map, tru, List.getElem?_cons_zero, List.getElem?_cons_succ, List.set_cons_zero, List.set_cons_succ, List.cons_append, List.nil_append, Lit.d, List.contains_nil, List.contains_cons, List.length_cons, List.length_nil, List.map_cons, List.map_nil, Bool.not_false, Bool.not_true, Bool.and_true, Bool.true_and, Bool.or_true, Bool.or_false, Bool.false_eq_true, if_true, if_false, reduceCtorEq, Nat.reduceAdd, leLim0, leLim1, leLim2, leLim3, leLim4, leLim5, leLim6, leLim7, leLim8, leLim9, leLim10, leLim11, leLim12, hj]
theorem sp17 (k : Nat) {w : List Char} (h : okw w) (hl : w.length < lim) : (Fk (k + 1 + 1)).fn 17 [.val (.str w)] = .ok (.str (KM.shortL sw w)) [] := by
  rw [f_succ (i := i17) rfl rfl]
  show TI.finish [.val (.str w)] (evSs (Fk (k + 1)) b17 [.val (.str w), .un, .un]) = _
  obtain ⟨s', e⟩ := s_loop (Φ := Fk (k + 1)) (f := 8) (fun c hc => sp8 k hc) w w [] .un h (by simpa using hl)
  have h1 : evS (Fk (k + 1)) (.setO 1 (.lst .nil)) [.val (.str w), .un, .un] = .nx [.val (.str w), .own (.lst (cl [])), .un] := rfl
  have h2 : evS (Fk (k + 1)) (.for_ (.n 2) (.seq (.var 0)) (sbody 8)) [.val (.str w), .own (.lst (cl [])), .un] = .nx [.val (.str w), .own (.lst (cl (KM.shortL sw w))), s'] := by
    rw [evS, seq_str _ rfl]
    exact e
  have h3 : evSs (Fk (k + 1)) b17 [.val (.str w), .un, .un] = ((evS (Fk (k + 1)) (.setO 1 (.lst .nil)) [.val (.str w), .un, .un]).bind fun e => (evS (Fk (k + 1)) (.for_ (.n 2) (.seq (.var 0)) (sbody 8)) e).bind (evSs (Fk (k + 1)) (.cons (.ret (.bm .join (.e (.lit (.str []))) (.cons (.o 1) .nil))) .nil))) := rfl
  have hj := bm_join (w := KM.shortL sw w) (Nat.le_trans (short_len w) (Nat.le_of_lt hl))
  rw [h3, h1, RS.bind_nx, h2, RS.bind_nx]
  simp only [evSs, evS, evE, evA, evAs, evB, evIt, R.bind, RS.of, RS.bind, TI.finish, outs_nil, outs_val, outs_un, outs_own, R.of, R.noX, strOf, res, resL, valsL, slotsL, ownIx, putOuts, callR, muR, muOwn, lstAt, ownAt, isBox, mk, nodupB, asg, cmpD, Option.bind, Option.map, tru, List.getElem?_cons_zero, List.getElem?_cons_succ, List.set_cons_zero, List.set_cons_succ, List.cons_append, List.nil_append, Lit.d, List.contains_nil, List.contains_cons, List.length_cons, List.length_nil, List.map_cons, List.map_nil, Bool.not_false, Bool.not_true, Bool.and_true, Bool.true_and, Bool.or_true, Bool.or_false, Bool.false_eq_true, if_true, if_false, reduceCtorEq, Nat.reduceAdd, leLim0, leLim1, leLim2, leLim3, leLim4, leLim5, leLim6, leLim7, leLim8, leLim9, leLim10, leLim11, leLim12, hj]
theorem sp21 (k : Nat) {w : List Char} (h : okw w) (hl : w.length ≤ lim) : (Fk (k + 1 + 1 + 1)).fn 21 [.val (.str w)] = .ok (.str (KM.inv sw w)) [] := by
  rw [f_succ (i := i21) rfl rfl]
  show TI.finish [.val (.str w)] (evSs (Fk (k + 1 + 1)) b21 [.val (.str w)]) = _
  simp only [b21, evSs, evS, evE, evA, evAs, evB, evIt, R.bind, RS.of, RS.bind, TI.finish, outs_nil, outs_val, outs_un, outs_own, R.of, R.noX, strOf, res, resL, valsL, slotsL, ownIx, putOuts, callR, muR, muOwn, lstAt, ownAt, isBox, mk, nodupB, asg, cmpD, Option.bind, Option.map, tru, List.getElem?_cons_zero, List.getElem?_cons_succ, List.set_cons_zero, List.set_cons_succ, List.cons_append, List.nil_append, Lit.d, List.contains_nil, List.contains_cons, List.length_cons, List.length_nil, List.map_cons, List.map_nil, Bool.not_false, Bool.not_true, Bool.and_true, Bool.true_and, Bool.or_true, Bool.or_false, Bool.false_eq_true, if_true, if_false, reduceCtorEq, Nat.reduceAdd, leLim0, leLim1, leLim2, leLim3, leLim4, leLim5, leLim6, leLim7, leLim8, leLim9, leLim10, leLim11, leLim12, sp10 k h hl, sp12 k h hl]
theorem sp22 (k : Nat) {w : List Char} (h : okw w) (hl : w.length < lim) : (Fk (k + 1 + 1 + 1)).fn 22 [.val (.str w)] = .ok (.str (KM.shortL sw w)) [] := by
  rw [f_succ (i := i22) rfl rfl]
  show TI.finish [.val (.str w)] (evSs (Fk (k + 1 + 1)) b22 [.val (.str w)]) = _
  simp only [b22, evSs, evS, evE, evA, evAs, evB, evIt, R.bind, RS.of, RS.bind, TI.finish, outs_nil, outs_val, outs_un, outs_own, R.of, R.noX, strOf, res, resL, valsL, slotsL, ownIx, putOuts, callR, muR, muOwn, lstAt, ownAt, isBox, mk, nodupB, asg, cmpD, Option.bind, Option.map, tru, List.getElem?_cons_zero, List.getElem?_cons_succ, List.set_cons_zero, List.set_cons_succ, List.cons_append, List.nil_append, Lit.d, List.contains_nil, List.contains_cons, List.length_cons, List.length_nil, List.map_cons, List.map_nil, Bool.not_false, Bool.not_true, Bool.and_true, Bool.true_and, Bool.or_true, Bool.or_false, Bool.false_eq_true, if_true, if_false, reduceCtorEq, Nat.reduceAdd, leLim0, leLim1, leLim2, leLim3, leLim4, leLim5, leLim6, leLim7, leLim8, leLim9, leLim10, leLim11, leLim12, sp10 k h (Nat.le_of_lt hl), sp13 k h hl]
theorem sp23 (k : Nat) {u w : List Char} (hu : okw u) (h : okw w) (hul : u.length < lim) (hl : w.length < lim) : (Fk (k + 1 + 1 + 1)).fn 23 [.val (.str u), .val (.str w)] = .ok (.bl (KM.shortL sw u == KM.shortL sw w)) [] := by
  rw [f_succ (i := i23) rfl rfl]
  show TI.finish [.val (.str u), .val (.str w)] (evSs (Fk (k + 1 + 1)) b23 [.val (.str u), .val (.str w)]) = _
  simp only [b23, evSs, evS, evE, evA, evAs, evB, evIt, R.bind, RS.of, RS.bind, TI.finish, outs_nil, outs_val, outs_un, outs_own, R.of, R.noX, strOf, res, resL, valsL, slotsL, ownIx, putOuts, callR, muR, muOwn, lstAt, ownAt, isBox, mk, nodupB, asg, cmpD, Option.bind, Option.map, tru, List.getElem?_cons_zero, List.getElem?_cons_succ, List.set_cons_zero, List.set_cons_succ, List.cons_append, List.nil_append, Lit.d, List.contains_nil, List.contains_cons, List.length_cons, List.length_nil, List.map_cons, List.map_nil, Bool.not_false, Bool.not_true, Bool.and_true, Bool.true_and, Bool.or_true, Bool.or_false, Bool.false_eq_true, if_true, if_false, reduceCtorEq, Nat.reduceAdd, leLim0, leLim1, leLim2, leLim3, leLim4, leLim5, leLim6, leLim7, leLim8, leLim9, leLim10, leLim11, leLim12, sp10 k h (Nat.le_of_lt hl), sp10 k hu (Nat.le_of_lt hul), sp13 k h hl, sp13 k hu hul, eqT_str]
end KL
set_option Elab.async false
set_option linter.all false
set_option maxRecDepth 100000
set_option maxHeartbeats 4000000
namespace KL
open PySem TI
def dv (s : Int × Int × Int) : D := .lst [.int s.1, .int s.2.1, .int s.2.2]
theorem dx0 (s : Int × Int × Int) : idxD (dv s) (.int 0) = some (.int s.1) := rfl
theorem dx1 (s : Int × Int × Int) : idxD (dv s) (.int 1) = some (.int s.2.1) := rfl
theorem dx2 (s : Int × Int × Int) : idxD (dv s) (.int 2) = some (.int s.2.2) := rfl
theorem ds0 (s : Int × Int × Int) (v : Int) : subD (dv s) (.int 0) (.int v) = some (dv (v, s.2.1, s.2.2)) := rfl
theorem ds2 (s : Int × Int × Int) (v : Int) : subD (dv s) (.int 2) (.int v) = some (dv (s.1, s.2.1, v)) := rfl
theorem b_add (a b : Int) : binD .add (.int a) (.int b) = some (.int (a + b)) := rfl
theorem b_sub (a b : Int) : binD .sub (.int a) (.int b) = some (.int (a - b)) := rfl
theorem b_mul {a b : Int} (h : mulOk a b = true) : binD .mul (.int a) (.int b) = some (.int (a * b)) := if_pos h
theorem b_div {a b : Int} (h : divOk b = true) : binD .fdiv (.int a) (.int b) = some (.int (a / b)) := if_pos h
theorem b_mod {a b : Int} (h : 0 < b) : binD .mod (.int a) (.int b) = some (.int (a % b)) := if_pos h
theorem b_pow {a b : Int} (h : powOk a b = true) : binD .pow (.int a) (.int b) = some (.int (a ^ b.toNat)) := if_pos h
theorem bf_int (a : Int) : bfD .int [.int a] = some (.int a) := rfl
theorem bf_intb (a : Bool) : bfD .int [.bl a] = some (.int (if a then 1 else 0)) := rfl
theorem bf_abs (a : Int) : bfD .abs [.int a] = some (.int (if a < 0 then -a else a)) := rfl
theorem bf_lenl (l : List D) : bfD .len [.lst l] = some (.int l.length) := rfl
theorem bf_lens {l : List Char} (h : l.length ≤ lim) : bfD .len [.str l] = some (.int l.length) := if_pos h
theorem lt_i (a b : Int) : ltD (.int a) (.int b) = some (decide (a < b)) := rfl
theorem sp7 (k : Nat) (s : Int × Int × Int) {n : Int} (h0 : 0 < n) (h1 : n.natAbs < 2 ^ 8000) : ∃ r s', (Fk (k + 1)).fn 7 [.own (dv s), .val (.int n)] = .ok (.int r) [dv s'] ∧ 0 ≤ r ∧ r < n := by
  rw [f_succ (i := i7) rfl rfl]
  have hn : n ≠ 0 := by omega
  by_cases ha : 0 < s.1
  · refine ⟨s.1 % n, (s.1 / n, s.2.1, s.2.2), ?_, Int.emod_nonneg _ hn, Int.emod_lt_of_pos _ h0⟩
    show TI.finish [.own (dv s), .val (.int n)] (evSs (Fk k) b7 [.own (dv s), .val (.int n), .un, .un, .un, .un]) = _
    simp only [b7, evSs, evS, evE, evA, evAs, evB, evIt, R.bind, RS.of, RS.bind, TI.finish, outs_nil, outs_val, outs_un, outs_own, R.of, R.noX, strOf, res, resL, valsL, slotsL, ownIx, putOuts, callR, muR, muOwn, lstAt, ownAt, isBox, mk, nodupB, asg, cmpD, Option.bind, Option.map, tru, List.getElem?_cons_zero, List.getElem?_cons_succ, List.set_cons_zero, List.set_cons_succ, List.cons_append, List.nil_append, Lit.d, List.contains_nil, List.contains_cons, List.length_cons, List.length_nil, List.map_cons, List.map_nil, Bool.not_false, Bool.not_true, Bool.and_true, Bool.true_and, Bool.or_true, Bool.or_false, Bool.false_eq_true, if_true, if_false, reduceCtorEq, Nat.reduceAdd, leLim0, leLim1, leLim2, leLim3, leLim4, leLim5, leLim6, leLim7, leLim8, leLim9, leLim10, leLim11, leLim12, bf_int, dx0, lt_i, ha, decide_true, b_mod h0, b_div (div_ok h0 h1), ds0]
  · have m1 : ∀ c : Int, binD .mul (.int 1000183) (.int c) = some (.int (1000183 * c)) := fun c => b_mul (mul_l (by decide))
    have m2 : ∀ c : Int, binD .mul (.int 9241) (.int c) = some (.int (9241 * c)) := fun c => b_mul (mul_l (by decide))
    have m3 : ∀ c : Int, binD .mod (.int c) (.int 2305843009213693951) = some (.int (c % 2305843009213693951)) := fun c => b_mod (by decide)
    have m4 : ∀ c : Int, binD .mod (.int c) (.int 2305843009213693921) = some (.int (c % 2305843009213693921)) := fun c => b_mod (by decide)
    have m5 : ∀ c : Int, binD .mod (.int c) (.int 2305843009213693907) = some (.int (c % 2305843009213693907)) := fun c => b_mod (by decide)
    have m6 : ∀ c : Int, binD .fdiv (.int c) (.int 4096) = some (.int (c / 4096)) := fun c => b_div (div_ok (by decide) (by decide))
    have q : ∀ x : Int, (x % 2305843009213693951).natAbs < 2 ^ 64 := by
      intro x
      have := Int.emod_nonneg x (b := 2305843009213693951) (by decide)
      have := Int.emod_lt_of_pos x (b := 2305843009213693951) (by decide)
      omega
    have m7 : ∀ x y : Int, binD .mul (.int y) (.int (x % 2305843009213693951)) = some (.int (y * (x % 2305843009213693951))) := fun x y => b_mul (mul_r (q x))
    have key : ∃ x, TI.finish [.own (dv s), .val (.int n)] (evSs (Fk k) b7 [.own (dv s), .val (.int n), .un, .un, .un, .un]) = .ok (.int (x % n)) [dv (s.1, s.2.1, s.2.2 + 1)] := by
      simp only [b7, evSs, evS, evE, evA, evAs, evB, evIt, R.bind, RS.of, RS.bind, TI.finish, outs_nil, outs_val, outs_un, outs_own, R.of, R.noX, strOf, res, resL, valsL, slotsL, ownIx, putOuts, callR, muR, muOwn, lstAt, ownAt, isBox, mk, nodupB, asg, cmpD, Option.bind, Option.map, tru, List.getElem?_cons_zero, List.getElem?_cons_succ, List.set_cons_zero, List.set_cons_succ, List.cons_append, List.nil_append, Lit.d, List.contains_nil, List.contains_cons, List.length_cons, List.length_nil, List.map_cons, List.map_nil, Bool.not_false, Bool.not_true, Bool.and_true, Bool.true_and, Bool.or_true, Bool.or_false, Bool.false_eq_true, if_true, if_false, reduceCtorEq, Nat.reduceAdd, leLim0, leLim1, leLim2, leLim3, leLim4, leLim5, leLim6, leLim7, leLim8, leLim9, leLim10, leLim11, leLim12, bf_int, dx0, dx1, dx2, lt_i, ha, decide_false, b_add, m1, m2, m3, m4, m5, m6, m7, ds2, b_mod h0]
      exact ⟨_, rfl⟩
    obtain ⟨x, key⟩ := key
    exact ⟨x % n, (s.1, s.2.1, s.2.2 + 1), key, Int.emod_nonneg _ hn, Int.emod_lt_of_pos _ h0⟩
theorem sp14 (k : Nat) (s : Int × Int × Int) {l : List D} (hn : l ≠ []) (hl : l.length ≤ lim) : ∃ d s', (Fk (k + 1 + 1)).fn 14 [.own (dv s), .val (.lst l)] = .ok d [dv s'] ∧ d ∈ l := by
  have hp : 0 < l.length := List.length_pos_iff.mpr hn
  obtain ⟨r, s', e, h1, h2⟩ := sp7 k s (n := (l.length : Int)) (by omega) (by
    have : l.length < 2 ^ 25 := by unfold lim at hl; omega
    have h3 : (2 : Nat) ^ 25 ≤ 2 ^ 8000 := Nat.pow_le_pow_right (by decide) (by decide)
    omega)
  have hr : r.toNat < l.length := by omega
  refine ⟨l[r.toNat], s', ?_, List.getElem_mem hr⟩
  rw [f_succ (i := i14) rfl rfl]
  show TI.finish [.own (dv s), .val (.lst l)] (evSs (Fk (k + 1)) b14 [.own (dv s), .val (.lst l)]) = _
  have hx : idxD (.lst l) (.int r) = some l[r.toNat] := by
    show at? l r = _
    rw [at_pos l h1, List.getElem?_eq_getElem hr]
  simp only [b14, evSs, evS, evE, evA, evAs, evB, evIt, R.bind, RS.of, RS.bind, TI.finish, outs_nil, outs_val, outs_un, outs_own, R.of, R.noX, strOf, res, resL, valsL, slotsL, ownIx, putOuts, callR, muR, muOwn, lstAt, ownAt, isBox, mk, nodupB, asg, cmpD, Option.bind, Option.map, tru, List.getElem?_cons_zero, List.getElem?_cons_succ, List.set_cons_zero, List.set_cons_succ, List.cons_append, List.nil_append, Lit.d, List.contains_nil, List.contains_cons, List.length_cons, List.length_nil, List.map_cons, List.map_nil, Bool.not_false, Bool.not_true, Bool.and_true, Bool.true_and, Bool.or_true, Bool.or_false, Bool.false_eq_true, if_true, if_false, reduceCtorEq, Nat.reduceAdd, leLim0, leLim1, leLim2, leLim3, leLim4, leLim5, leLim6, leLim7, leLim8, leLim9, leLim10, leLim11, leLim12, bf_lenl, e, hx]
theorem perm_erase {α : Type} : ∀ (l : List α) (i : Nat) (h : i < l.length), (l[i] :: l.eraseIdx i).Perm l
  | a :: l, 0, _ => List.Perm.refl _
  | a :: l, i + 1, h => by
    have := perm_erase l i (by simpa using h)
    simp only [List.getElem_cons_succ, List.eraseIdx_cons_succ]
    exact (List.Perm.swap _ _ _).trans (this.cons a)
theorem map_erase {α β : Type} (f : α → β) : ∀ (l : List α) (i : Nat), (l.map f).eraseIdx i = (l.eraseIdx i).map f
  | [], _ => rfl
  | _ :: _, 0 => rfl
  | a :: l, i + 1 => by simp only [List.map_cons, List.eraseIdx_cons_succ, map_erase f l i]
theorem sp15 (k : Nat) (s : Int × Int × Int) {w : List Char} (hl : w.length ≤ 1000) : ∃ u s', (Fk (k + 1 + 1)).fn 15 [.own (dv s), .val (.lst (cl w))] = .ok (.lst (cl u)) [dv s'] ∧ u.Perm w := by
  rw [f_succ (i := i15) rfl rfl]
  let fill : (Int × Int × Int) × List Char × List Char → TI.Env := fun p => [.own (dv p.1), .val (.lst (cl w)), .own (.lst (cl p.2.1)), .own (.lst (cl p.2.2))]
  let cnd : E := .cmp .ne (.o 2) (.e (.lst .nil))
  let bdy : Ss := .cons (.expr (.mu .append 3 (.cons (.e (.mu .popat 2 (.cons (.e (.call 7 (.cons (.o 0) (.cons (.e (.bf .len (.cons (.o 2) .nil))) .nil)))) .nil))) .nil))) .nil
  have key := loopW_inv (c := fun e => (evE (Fk (k + 1)) cnd e).bind fun x e => R.of (tru x) e) (b := evSs (Fk (k + 1)) bdy) (fill := fill) (Iv := fun p => (p.2.2 ++ p.2.1).Perm w) (fun p => p.2.1.length) (by
    intro p hp
    obtain ⟨s, lft, fnd⟩ := p
    by_cases he : lft = []
    · subst he
      left
      refine ⟨(s, [], fnd), ?_, hp, rfl⟩
      show (R.bind (evE (Fk (k + 1)) cnd [.own (dv s), .val (.lst (cl w)), .own (.lst (cl [])), .own (.lst (cl fnd))]) fun x e => R.of (tru x) e) = _
      simp only [cnd, evSs, evS, evE, evA, evAs, evB, evIt, R.bind, RS.of, RS.bind, TI.finish, outs_nil, outs_val, outs_un, outs_own, R.of, R.noX, strOf, res, resL, valsL, slotsL, ownIx, putOuts, callR, muR, muOwn, lstAt, ownAt, isBox, mk, nodupB, asg, cmpD, Option.bind, Option.map, tru, List.getElem?_cons_zero, List.getElem?_cons_succ, List.set_cons_zero, List.set_cons_succ, List.cons_append, List.nil_append, Lit.d, List.contains_nil, List.contains_cons, List.length_cons, List.length_nil, List.map_cons, List.map_nil, Bool.not_false, Bool.not_true, Bool.and_true, Bool.true_and, Bool.or_true, Bool.or_false, Bool.false_eq_true, if_true, if_false, reduceCtorEq, Nat.reduceAdd, leLim0, leLim1, leLim2, leLim3, leLim4, leLim5, leLim6, leLim7, leLim8, leLim9, leLim10, leLim11, leLim12, cl_eq0, decide_true]
      rfl
    · right
      have hpl : 0 < lft.length := List.length_pos_iff.mpr he
      have hsum : fnd.length + lft.length = w.length := by
        have := hp.length_eq
        simpa using this
      obtain ⟨r, s', e, h1, h2⟩ := sp7 k s (n := (lft.length : Int)) (by omega) (by
        have h3 : (2 : Nat) ^ 25 ≤ 2 ^ 8000 := Nat.pow_le_pow_right (by decide) (by decide)
        omega)
      have hr : r.toNat < lft.length := by omega
      have e' : (Fk (k + 1)).fn 7 [.own (dv s), .val (.int ((cl lft).length : Nat))] = .ok (.int r) [dv s'] := by rw [cl_len]; exact e
      have hpop : muD .popat (.lst (cl lft)) [.int r] = some (.str [lft[r.toNat]], .lst (cl (lft.eraseIdx r.toNat))) := by
        show (if 0 ≤ r ∧ r < 2 ^ 62 then _ else _) = _
        rw [if_pos ⟨h1, by omega⟩]
        have e1 : (cl lft)[r.toNat]? = some (.str [lft[r.toNat]]) := by
          simp only [cl, List.getElem?_map, List.getElem?_eq_getElem hr, Option.map]
        rw [e1]
        simp only [Option.map, cl, map_erase]
      have happ : ∀ c, muD .append (.lst (cl fnd)) [.str [c]] = some (.non, .lst (cl (fnd ++ [c]))) := by
        intro c
        show (if (cl fnd).length < lim then _ else _) = _
        rw [cl_len, if_pos (by unfold lim; omega), cl_app]
        rfl
      refine ⟨(s, lft, fnd), (s', lft.eraseIdx r.toNat, fnd ++ [lft[r.toNat]]), ?_, ?_, ?_, ?_⟩
      · show (R.bind (evE (Fk (k + 1)) cnd [.own (dv s), .val (.lst (cl w)), .own (.lst (cl lft)), .own (.lst (cl fnd))]) fun x e => R.of (tru x) e) = _
        simp only [cnd, evSs, evS, evE, evA, evAs, evB, evIt, R.bind, RS.of, RS.bind, TI.finish, outs_nil, outs_val, outs_un, outs_own, R.of, R.noX, strOf, res, resL, valsL, slotsL, ownIx, putOuts, callR, muR, muOwn, lstAt, ownAt, isBox, mk, nodupB, asg, cmpD, Option.bind, Option.map, tru, List.getElem?_cons_zero, List.getElem?_cons_succ, List.set_cons_zero, List.set_cons_succ, List.cons_append, List.nil_append, Lit.d, List.contains_nil, List.contains_cons, List.length_cons, List.length_nil, List.map_cons, List.map_nil, Bool.not_false, Bool.not_true, Bool.and_true, Bool.true_and, Bool.or_true, Bool.or_false, Bool.false_eq_true, if_true, if_false, reduceCtorEq, Nat.reduceAdd, leLim0, leLim1, leLim2, leLim3, leLim4, leLim5, leLim6, leLim7, leLim8, leLim9, leLim10, leLim11, leLim12, cl_eq0, he, decide_false]
        rfl
      · show evSs (Fk (k + 1)) bdy [.own (dv s), .val (.lst (cl w)), .own (.lst (cl lft)), .own (.lst (cl fnd))] = _
        simp only [bdy, evSs, evS, evE, evA, evAs, evB, evIt, R.bind, RS.of, RS.bind, TI.finish, outs_nil, outs_val, outs_un, outs_own, R.of, R.noX, strOf, res, resL, valsL, slotsL, ownIx, putOuts, callR, muR, muOwn, lstAt, ownAt, isBox, mk, nodupB, asg, cmpD, Option.bind, Option.map, tru, List.getElem?_cons_zero, List.getElem?_cons_succ, List.set_cons_zero, List.set_cons_succ, List.cons_append, List.nil_append, Lit.d, List.contains_nil, List.contains_cons, List.length_cons, List.length_nil, List.map_cons, List.map_nil, Bool.not_false, Bool.not_true, Bool.and_true, Bool.true_and, Bool.or_true, Bool.or_false, Bool.false_eq_true, if_true, if_false, reduceCtorEq, Nat.reduceAdd, leLim0, leLim1, leLim2, leLim3, leLim4, leLim5, leLim6, leLim7, leLim8, leLim9, leLim10, leLim11, leLim12, bf_lenl, e', hpop, happ]
        rfl
      · refine List.Perm.trans ?_ hp
        show ((fnd ++ [lft[r.toNat]]) ++ lft.eraseIdx r.toNat).Perm (fnd ++ lft)
        rw [List.append_assoc]
        exact (perm_erase lft r.toNat hr).append_left fnd
      · show (lft.eraseIdx r.toNat).length < lft.length
        rw [List.length_eraseIdx_of_lt hr]
        omega)
  obtain ⟨⟨s1, lft, fnd⟩, e, hp, hm⟩ := key fuel (s, w, []) (by simp) (by show w.length < fuel; unfold fuel; omega)
  have hz : lft = [] := List.length_eq_zero_iff.mp hm
  subst hz
  refine ⟨fnd, s1, ?_, by simpa using hp⟩
  show TI.finish [.own (dv s), .val (.lst (cl w))] (evSs (Fk (k + 1)) (.cons (.par2 2 3 true true (.bf .list (.cons (.o 1) .nil)) (.lst .nil)) (.cons (.while_ cnd bdy) (.cons (.ret (.mv 3)) .nil))) [.own (dv s), .val (.lst (cl w)), .un, .un]) = _
  have h1 : evS (Fk (k + 1)) (.par2 2 3 true true (.bf .list (.cons (.o 1) .nil)) (.lst .nil)) [.own (dv s), .val (.lst (cl w)), .un, .un] = .nx (fill (s, w, [])) := rfl
  have h2 : evS (Fk (k + 1)) (.while_ cnd bdy) (fill (s, w, [])) = .nx (fill (s1, [], fnd)) := by
    rw [evS]
    exact e
  rw [evSs, h1, RS.bind_nx, evSs, h2, RS.bind_nx]
  rfl
def asc (w : List Char) : Prop := w.Pairwise fun a b => a.toNat < b.toNat
theorem ltc_asc {w : List Char} (h : w.Nodup) : asc (isort ltc w) := by
  have hp := isort_pair (lt := ltc) (by
    intro a b h
    unfold ltc at *
    have := of_decide_eq_true h
    exact decide_eq_false (by omega)) (by
    intro a b c h1 h2
    unfold ltc at *
    have h1 := of_decide_eq_false h1
    have h2 := of_decide_eq_false h2
    exact decide_eq_false (by omega)) w
  have hn : (isort ltc w).Nodup := (isort_perm w).nodup_iff.mpr h
  have := List.Pairwise.and hp hn
  refine this.imp ?_
  intro a b ⟨h1, h2⟩
  have h1 : ltc b a = false := h1
  unfold ltc at h1
  have h1 := of_decide_eq_false h1
  have h3 : a.toNat ≠ b.toNat := fun z => h2 (Char.ext (UInt32.toNat_inj.mp z))
  omega
def pool : List Char := ['a', 'b', 'c', 'k', 'n', 'x', 'z']
theorem sp24 (k : Nat) (s : Int × Int × Int) {t : Int} (h0 : 1 ≤ t) (h1 : t ≤ 3) : ∃ w s', (Fk (k + 1 + 1 + 1)).fn 24 [.own (dv s), .val (.int t)] = .ok (.str w) [dv s'] ∧ (w.length : Int) = t ∧ (∀ c ∈ w, c ∈ pool) ∧ asc w := by
  obtain ⟨u, s', e, hp⟩ := sp15 k s (w := pool) (by decide)
  have hu : u.length = 7 := hp.length_eq
  have hn : u.Nodup := hp.nodup_iff.mpr (by decide)
  have hlen : (u.take t.toNat).length = t.toNat := by rw [List.length_take]; omega
  have hjl : (isort ltc (u.take t.toNat)).length = t.toNat := by rw [(isort_perm _).length_eq, hlen]
  refine ⟨isort ltc (u.take t.toNat), s', ?_, by rw [hjl]; omega, ?_, ltc_asc (hn.sublist (List.take_sublist _ _))⟩
  · rw [f_succ (i := i24) rfl rfl]
    show TI.finish [.own (dv s), .val (.int t)] (evSs (Fk (k + 1 + 1)) b24 [.own (dv s), .val (.int t)]) = _
    have hc : cutD (.lst (cl u)) none (some t) = some (.lst (cl (u.take t.toNat))) := by
      show some (D.lst (cut (cl u) none (some t))) = _
      rw [cut_pre _ (by omega)]
      simp only [cl, List.map_take]
    have hl : bfD .list [.str ['a', 'b', 'c', 'k', 'n', 'x', 'z']] = some (.lst (cl pool)) := rfl
    simp only [b24, evSs, evS, evE, evA, evAs, evB, evIt, R.bind, RS.of, RS.bind, TI.finish, outs_nil, outs_val, outs_un, outs_own, R.of, R.noX, strOf, res, resL, valsL, slotsL, ownIx, putOuts, callR, muR, muOwn, lstAt, ownAt, isBox, mk, nodupB, asg, cmpD, Option.bind, Option.map, tru, List.getElem?_cons_zero, List.getElem?_cons_succ, List.set_cons_zero, List.set_cons_succ, List.cons_append, List.nil_append, Lit.d, List.contains_nil, List.contains_cons, List.length_cons, List.length_nil, List.map_cons, List.map_nil, Bool.not_false, Bool.not_true, Bool.and_true, Bool.true_and, Bool.or_true, Bool.or_false, Bool.false_eq_true, if_true, if_false, reduceCtorEq, Nat.reduceAdd, leLim0, leLim1, leLim2, leLim3, leLim4, leLim5, leLim6, leLim7, leLim8, leLim9, leLim10, leLim11, leLim12, hl, e, hc, sorted_cl (u := u.take t.toNat) (by omega), bm_join (w := isort ltc (u.take t.toNat)) (by unfold lim; omega)]
  · intro c hc
    have := (isort_perm (lt := ltc) (u.take t.toNat)).mem_iff.mp hc
    exact hp.mem_iff.mp (List.mem_of_mem_take this)
def c18 : E := (.comp (.call 8 (.cons (.e (.var 1)) .nil)) (.mk (.n 1) (.seq (.var 0)) (.lit (.bl true))) [1])
theorem b18_eq : b18 = (.cons (.ret (.bf .sorted (.cons (.e (.bin .add (.e (.bf .list (.cons (.o 0) .nil))) (.e c18))) .nil))) .nil) := rfl
def sgs (w : List Char) : List Char := isort ltc (w ++ w.map sw)
theorem sgs_mem {w : List Char} {c : Char} (h : c ∈ sgs w) : c ∈ w ∨ ∃ a ∈ w, c = sw a := by
  have := (isort_perm (lt := ltc) (w ++ w.map sw)).mem_iff.mp h
  rcases List.mem_append.mp this with h | h
  · exact .inl h
  · obtain ⟨a, ha, rfl⟩ := List.mem_map.mp h
    exact .inr ⟨a, ha, rfl⟩
theorem sgs_len (w : List Char) : (sgs w).length = w.length + w.length := by
  unfold sgs
  rw [(isort_perm _).length_eq]
  simp
theorem sp18 (k : Nat) {w : List Char} (h : ∀ c ∈ w, c ∈ lows) (hl : w.length ≤ 26) : (Fk (k + 1 + 1)).fn 18 [.val (.str w)] = .ok (.lst (cl (sgs w))) [] := by
  rw [f_succ (i := i18) rfl rfl]
  show TI.finish [.val (.str w)] (evSs (Fk (k + 1)) b18 [.val (.str w), .un]) = _
  have hlim : w.length ≤ lim := by unfold lim; omega
  have hm := ev_mapL (Φ := Fk (k + 1)) (elt := .call 8 (.cons (.e (.var 1)) .nil)) (i := 1) (it := .seq (.var 0)) (e := [.val (.str w), .un]) (s0 := .un) (items := w) (fun c => .str [c]) (fun c => .str [sw c]) (seq_str _ rfl) rfl (by
    intro a b z
    injection z with z
    injection z with z
    rw [z]) (by
    intro c hc
    simp only [evSs, evS, evE, evA, evAs, evB, evIt, R.bind, RS.of, RS.bind, TI.finish, outs_nil, outs_val, outs_un, outs_own, R.of, R.noX, strOf, res, resL, valsL, slotsL, ownIx, putOuts, callR, muR, muOwn, lstAt, ownAt, isBox, mk, nodupB, asg, cmpD, Option.bind, Option.map, tru, List.getElem?_cons_zero, List.getElem?_cons_succ, List.set_cons_zero, List.set_cons_succ, List.cons_append, List.nil_append, Lit.d, List.contains_nil, List.contains_cons, List.length_cons, List.length_nil, List.map_cons, List.map_nil, Bool.not_false, Bool.not_true, Bool.and_true, Bool.true_and, Bool.or_true, Bool.or_false, Bool.false_eq_true, if_true, if_false, reduceCtorEq, Nat.reduceAdd, leLim0, leLim1, leLim2, leLim3, leLim4, leLim5, leLim6, leLim7, leLim8, leLim9, leLim10, leLim11, leLim12, sp8 k (.inl (h c hc))]) hlim
  have hL : bfD .list [.str w] = some (.lst (cl w)) := if_pos hlim
  have ha : binD .add (.lst (cl w)) (.lst (w.map fun c => .str [sw c])) = some (.lst (cl (w ++ w.map sw))) := by
    show (if _ then _ else _) = _
    rw [if_pos (by rw [cl_len, List.length_map]; unfold lim; omega), cl_app]
    simp [cl]
  have hm : evE (Fk (k + 1)) c18 [.val (.str w), .un] = .ok (.lst (w.map fun c => .str [sw c])) [.val (.str w), .un] := hm
  rw [b18_eq]
  simp only [evSs, evS, evE, evA, evAs, evB, evIt, R.bind, RS.of, RS.bind, TI.finish, outs_nil, outs_val, outs_un, outs_own, R.of, R.noX, strOf, res, resL, valsL, slotsL, ownIx, putOuts, callR, muR, muOwn, lstAt, ownAt, isBox, mk, nodupB, asg, cmpD, Option.bind, Option.map, tru, List.getElem?_cons_zero, List.getElem?_cons_succ, List.set_cons_zero, List.set_cons_succ, List.cons_append, List.nil_append, Lit.d, List.contains_nil, List.contains_cons, List.length_cons, List.length_nil, List.map_cons, List.map_nil, Bool.not_false, Bool.not_true, Bool.and_true, Bool.true_and, Bool.or_true, Bool.or_false, Bool.false_eq_true, if_true, if_false, reduceCtorEq, Nat.reduceAdd, leLim0, leLim1, leLim2, leLim3, leLim4, leLim5, leLim6, leLim7, leLim8, leLim9, leLim10, leLim11, leLim12, hm, hL, ha, sorted_cl (u := w ++ w.map sw) (by simp; omega)]
  rfl
def c25 : E := (.comp (.call 14 (.cons (.o 0) (.cons (.e (.call 18 (.cons (.e (.var 1)) .nil))) .nil))) (.mk (.n 3) (.rng1 (.e (.call 7 (.cons (.o 0) (.cons (.e (.bin .add (.o 2) (.e (.lit (.int 1))))) .nil))))) (.lit (.bl true))) [3])
theorem b25_eq : b25 = (.cons (.ret (.bm .join (.e (.lit (.str []))) (.cons (.e c25) .nil))) .nil) := rfl
theorem sp25 (k : Nat) (s : Int × Int × Int) {w : List Char} {m : Int} (h : ∀ c ∈ w, c ∈ lows) (hl : w.length ≤ 26) (hw : w ≠ []) (h0 : 0 ≤ m) (h1 : m ≤ 1000) :
    ∃ u s', (Fk (k + 1 + 1 + 1)).fn 25 [.own (dv s), .val (.str w), .val (.int m)] = .ok (.str u) [dv s'] ∧ (∀ c ∈ u, c ∈ w ∨ ∃ a ∈ w, c = sw a) ∧ (u.length : Int) ≤ m := by
  rw [f_succ (i := i25) rfl rfl]
  show ∃ u s', TI.finish [.own (dv s), .val (.str w), .val (.int m)] (evSs (Fk (k + 1 + 1)) b25 [.own (dv s), .val (.str w), .val (.int m), .un]) = _ ∧ _
  obtain ⟨r, s1, e1, hr0, hr1⟩ := sp7 (k + 1) s (n := m + 1) (by omega) (by
    have h3 : (2 : Nat) ^ 25 ≤ 2 ^ 8000 := Nat.pow_le_pow_right (by decide) (by decide)
    omega)
  let fill : (Int × Int × Int) → Slot → TI.Env := fun s t => [.own (dv s), .val (.str w), .val (.int m), t]
  have hi : evIt (Fk (k + 1 + 1)) (.rng1 (.e (.call 7 (.cons (.o 0) (.cons (.e (.bin .add (.o 2) (.e (.lit (.int 1))))) .nil))))) [.own (dv s), .val (.str w), .val (.int m), .un] = .ok (rangeD 0 r) (fill s1 .un) := by
    have hb : rngD [.int r] = some (rangeD 0 r) := if_pos ⟨by omega, by omega⟩
    simp only [evSs, evS, evE, evA, evAs, evB, evIt, R.bind, RS.of, RS.bind, TI.finish, outs_nil, outs_val, outs_un, outs_own, R.of, R.noX, strOf, res, resL, valsL, slotsL, ownIx, putOuts, callR, muR, muOwn, lstAt, ownAt, isBox, mk, nodupB, asg, cmpD, Option.bind, Option.map, tru, List.getElem?_cons_zero, List.getElem?_cons_succ, List.set_cons_zero, List.set_cons_succ, List.cons_append, List.nil_append, Lit.d, List.contains_nil, List.contains_cons, List.length_cons, List.length_nil, List.map_cons, List.map_nil, Bool.not_false, Bool.not_true, Bool.and_true, Bool.true_and, Bool.or_true, Bool.or_false, Bool.false_eq_true, if_true, if_false, reduceCtorEq, Nat.reduceAdd, leLim0, leLim1, leLim2, leLim3, leLim4, leLim5, leLim6, leLim7, leLim8, leLim9, leLim10, leLim11, leLim12, b_add, e1, hb]
    rfl
  have hlen : (rangeD 0 r).length = r.toNat := by simp [rangeD]
  obtain ⟨ys, s2, e2, _, hy, hq⟩ := ev_draw (Φ := Fk (k + 1 + 1)) (elt := .call 14 (.cons (.o 0) (.cons (.e (.call 18 (.cons (.e (.var 1)) .nil))) .nil))) (i := 3) (fill := fill) (Iv := fun _ => True) (Q := fun y => ∃ c ∈ sgs w, y = .str [c]) (fun _ _ _ => rfl) (fun _ _ => rfl) hi trivial (by
    intro d _ s _
    obtain ⟨y, s', e, hy⟩ := sp14 k s (l := cl (sgs w)) (by
      intro z
      have hz := congrArg List.length z
      rw [cl_len, sgs_len] at hz
      have := List.length_pos_iff.mpr hw
      simp only [List.length_nil] at hz
      omega) (by rw [cl_len, sgs_len]; unfold lim; omega)
    obtain ⟨c, hc, rfl⟩ := cl_mem hy
    refine ⟨_, s', ?_, trivial, c, hc, rfl⟩
    show evE (Fk (k + 1 + 1)) _ [.own (dv s), .val (.str w), .val (.int m), .val d] = _
    simp only [evSs, evS, evE, evA, evAs, evB, evIt, R.bind, RS.of, RS.bind, TI.finish, outs_nil, outs_val, outs_un, outs_own, R.of, R.noX, strOf, res, resL, valsL, slotsL, ownIx, putOuts, callR, muR, muOwn, lstAt, ownAt, isBox, mk, nodupB, asg, cmpD, Option.bind, Option.map, tru, List.getElem?_cons_zero, List.getElem?_cons_succ, List.set_cons_zero, List.set_cons_succ, List.cons_append, List.nil_append, Lit.d, List.contains_nil, List.contains_cons, List.length_cons, List.length_nil, List.map_cons, List.map_nil, Bool.not_false, Bool.not_true, Bool.and_true, Bool.true_and, Bool.or_true, Bool.or_false, Bool.false_eq_true, if_true, if_false, reduceCtorEq, Nat.reduceAdd, leLim0, leLim1, leLim2, leLim3, leLim4, leLim5, leLim6, leLim7, leLim8, leLim9, leLim10, leLim11, leLim12, sp18 k h hl, e]
    rfl) (by rw [hlen]; unfold lim; omega)
  have hys : ∃ u : List Char, ys = cl u ∧ ∀ c ∈ u, c ∈ sgs w := by
    clear e2 hy
    induction ys with
    | nil => exact ⟨[], rfl, fun _ h => nomatch h⟩
    | cons y ys ih =>
      obtain ⟨u, hu, hm⟩ := ih fun y hy => hq y (List.mem_cons_of_mem _ hy)
      obtain ⟨c, hc, rfl⟩ := hq y List.mem_cons_self
      refine ⟨c :: u, by rw [hu]; rfl, ?_⟩
      intro x hx
      rcases List.mem_cons.mp hx with rfl | hx
      · exact hc
      · exact hm x hx
  obtain ⟨u, rfl, hm⟩ := hys
  rw [cl_len, hlen] at hy
  refine ⟨u, s2, ?_, fun c hc => sgs_mem (hm c hc), by omega⟩
  have e2 : evE (Fk (k + 1 + 1)) c25 [.own (dv s), .val (.str w), .val (.int m), .un] = .ok (.lst (cl u)) [.own (dv s2), .val (.str w), .val (.int m), .un] := e2
  rw [b25_eq]
  simp only [evSs, evS, evE, evA, evAs, evB, evIt, R.bind, RS.of, RS.bind, TI.finish, outs_nil, outs_val, outs_un, outs_own, R.of, R.noX, strOf, res, resL, valsL, slotsL, ownIx, putOuts, callR, muR, muOwn, lstAt, ownAt, isBox, mk, nodupB, asg, cmpD, Option.bind, Option.map, tru, List.getElem?_cons_zero, List.getElem?_cons_succ, List.set_cons_zero, List.set_cons_succ, List.cons_append, List.nil_append, Lit.d, List.contains_nil, List.contains_cons, List.length_cons, List.length_nil, List.map_cons, List.map_nil, Bool.not_false, Bool.not_true, Bool.and_true, Bool.true_and, Bool.or_true, Bool.or_false, Bool.false_eq_true, if_true, if_false, reduceCtorEq, Nat.reduceAdd, leLim0, leLim1, leLim2, leLim3, leLim4, leLim5, leLim6, leLim7, leLim8, leLim9, leLim10, leLim11, leLim12, e2, bm_join (w := u) (by unfold lim; omega)]
end KL
set_option Elab.async false
set_option linter.all false
set_option maxRecDepth 100000
set_option maxHeartbeats 4000000
namespace KL
open PySem TI
theorem cut_str_pre {w : List Char} (hl : w.length ≤ lim) {r : Int} (h : 0 ≤ r) : cutD (.str w) none (some r) = some (.str (w.take r.toNat)) := by
  show (if _ then _ else _) = _
  rw [if_pos hl, cut_pre w h]
theorem cut_str_suf {w : List Char} (hl : w.length ≤ lim) {r : Int} (h : 0 ≤ r) : cutD (.str w) (some r) none = some (.str (w.drop r.toNat)) := by
  show (if _ then _ else _) = _
  rw [if_pos hl, cut_suf w h]
theorem add_str {u v : List Char} (h : u.length + v.length ≤ lim) : binD .add (.str u) (.str v) = some (.str (u ++ v)) := if_pos h
theorem big {n : Nat} (h : n < 2 ^ 60) : ((n : Int)).natAbs < 2 ^ 8000 := by
  have h3 : (2 : Nat) ^ 60 ≤ 2 ^ 8000 := Nat.pow_le_pow_right (by decide) (by decide)
  omega
theorem bigI {n : Int} (h0 : 0 ≤ n) (h : n < 2 ^ 60) : n.natAbs < 2 ^ 8000 := by
  have h3 : (2 : Nat) ^ 60 ≤ 2 ^ 8000 := Nat.pow_le_pow_right (by decide) (by decide)
  omega
def tbody : Ss := .cons (.par2 4 5 false false (.call 7 (.cons (.o 0) (.cons (.e (.bin .add (.e (.bf .len (.cons (.o 2) .nil))) (.e (.lit (.int 1))))) .nil))) (.call 14 (.cons (.o 0) (.cons (.e (.call 18 (.cons (.e (.lit (.str ['a', 'b', 'c']))) .nil))) .nil)))) (.cons (.set 2 (.bin .add (.e (.bin .add (.e (.bin .add (.e (.slc (.o 2) .nil (.cons (.o 4) .nil))) (.o 5))) (.e (.call 8 (.cons (.e (.var 5)) .nil))))) (.e (.slc (.o 2) (.cons (.o 4) .nil) .nil)))) .nil)
def abc : List Char := ['a', 'b', 'c']
theorem abc_low : ∀ c ∈ abc, c ∈ lows := by decide
theorem abc_ok {c : Char} (h : c ∈ sgs abc) : ok c := by
  rcases sgs_mem h with h | ⟨a, ha, rfl⟩
  · exact .inl (abc_low c h)
  · exact sw_ok (.inl (abc_low a ha))
theorem t_turn (k : Nat) (s : Int × Int × Int) (r u : List Char) (t3 t4 t5 : Slot) (h : okw u) (hl : u.length ≤ 1000) : ∃ s' u' t4' t5', evSs (Fk (k + 1 + 1)) tbody [.own (dv s), .val (.str r), .val (.str u), t3, t4, t5] = .nx [.own (dv s'), .val (.str r), .val (.str u'), t3, t4', t5'] ∧
    okw u' ∧ KM.shortL sw u' = KM.shortL sw u ∧ u'.length = u.length + 2 := by
  obtain ⟨q, s1, e1, h1, h2⟩ := sp7 (k + 1) s (n := (u.length : Int) + 1) (by omega) (bigI (by omega) (by omega))
  obtain ⟨d, s2, e2, hd⟩ := sp14 k s1 (l := cl (sgs abc)) (by
    intro z
    have := congrArg List.length z
    rw [cl_len, sgs_len] at this
    simp [abc] at this) (by rw [cl_len, sgs_len]; decide)
  obtain ⟨c, hc, rfl⟩ := cl_mem hd
  have ho := abc_ok hc
  have hq : q.toNat ≤ u.length := by omega
  have hlim : u.length ≤ lim := by unfold lim; omega
  have e18 := sp18 k (w := abc) abc_low (by decide)
  have e18' : (Fk (k + 1 + 1)).fn 18 [.val (.str ['a', 'b', 'c'])] = .ok (.lst (cl (sgs abc))) [] := e18
  have htk : (u.take q.toNat).length = q.toNat := by rw [List.length_take]; omega
  have a1 : binD .add (.str (u.take q.toNat)) (.str [c]) = some (.str (u.take q.toNat ++ [c])) := add_str (by rw [htk]; unfold lim; simp; omega)
  have a2 : binD .add (.str (u.take q.toNat ++ [c])) (.str [sw c]) = some (.str (u.take q.toNat ++ [c] ++ [sw c])) := add_str (by unfold lim; simp [htk]; omega)
  have a3 : binD .add (.str (u.take q.toNat ++ [c] ++ [sw c])) (.str (u.drop q.toNat)) = some (.str (u.take q.toNat ++ [c] ++ [sw c] ++ u.drop q.toNat)) := add_str (by unfold lim; simp [htk]; omega)
  refine ⟨s2, u.take q.toNat ++ [c] ++ [sw c] ++ u.drop q.toNat, .val (.int q), .val (.str [c]), ?_, ?_, ?_, ?_⟩
  · simp only [tbody, evSs, evS, evE, evA, evAs, evB, evIt, R.bind, RS.of, RS.bind, TI.finish, outs_nil, outs_val, outs_un, outs_own, R.of, R.noX, strOf, res, resL, valsL, slotsL, ownIx, putOuts, callR, muR, muOwn, lstAt, ownAt, isBox, mk, nodupB, asg, cmpD, Option.bind, Option.map, tru, List.getElem?_cons_zero, List.getElem?_cons_succ, List.set_cons_zero, List.set_cons_succ, List.cons_append, List.nil_append, Lit.d, List.contains_nil, List.contains_cons, List.length_cons, List.length_nil, List.map_cons, List.map_nil, Bool.not_false, Bool.not_true, Bool.and_true, Bool.true_and, Bool.or_true, Bool.or_false, Bool.false_eq_true, if_true, if_false, reduceCtorEq, Nat.reduceAdd, leLim0, leLim1, leLim2, leLim3, leLim4, leLim5, leLim6, leLim7, leLim8, leLim9, leLim10, leLim11, leLim12, bf_lens hlim, b_add, e1, e18', e2, cut_str_pre hlim h1, cut_str_suf hlim h1, a1, a2, a3, sp8 (k + 1) ho]
  · intro x hx
    simp only [List.mem_append, List.mem_singleton] at hx
    rcases hx with ((hx | rfl) | rfl) | hx
    · exact h x (List.mem_of_mem_take hx)
    · exact ho
    · exact sw_ok ho
    · exact h x (List.mem_of_mem_drop hx)
  · rw [KM.short_ins sw_sw, List.take_append_drop]
  · simp [htk]
    omega
theorem rangeD0 (n : Nat) : rangeD 0 (n : Int) = (List.range n).map fun (i : Nat) => .int (i : Int) := by
  unfold rangeD
  have : ((n : Int) - 0).toNat = n := by omega
  rw [this]
  refine List.map_congr_left fun i _ => ?_
  rw [Int.zero_add]
theorem sp26 (k : Nat) (s : Int × Int × Int) {r : List Char} (h : okw r) (hl : r.length ≤ 100) : ∃ u s', (Fk (k + 1 + 1 + 1)).fn 26 [.own (dv s), .val (.str r)] = .ok (.str u) [dv s'] ∧ okw u ∧ KM.shortL sw u = KM.shortL sw r ∧ u.length ≤ 1000 := by
  rw [f_succ (i := i26) rfl rfl]
  obtain ⟨q, s1, e1, h1, h2⟩ := sp7 (k + 1) s (n := 6) (by decide) (bigI (by decide) (by decide))
  let fill : (Int × Int × Int) × List Char × Slot × Slot × Slot → TI.Env := fun p => [.own (dv p.1), .val (.str r), .val (.str p.2.1), p.2.2.1, p.2.2.2.1, p.2.2.2.2]
  have hq : (rangeD 0 q).length = q.toNat := by simp [rangeD]
  have key : ∀ (l pre : List D) (p : (Int × Int × Int) × List Char × Slot × Slot × Slot), l.length + pre.length ≤ 6 → okw p.2.1 → KM.shortL sw p.2.1 = KM.shortL sw r → p.2.1.length = r.length + 2 * pre.length →
      ∃ p', loopF (fun d e => match asg (.n 3) d e with
        | some e => evSs (Fk (k + 1 + 1)) tbody e
        | none => .bad) l (fill p) = .nx (fill p') ∧ okw p'.2.1 ∧ KM.shortL sw p'.2.1 = KM.shortL sw r ∧ p'.2.1.length = r.length + 2 * (pre.length + l.length) := by
    intro l
    induction l with
    | nil => intro pre p _ a b c; exact ⟨p, rfl, a, b, by simpa using c⟩
    | cons d l ih =>
      intro pre p hn a b c
      simp only [List.length_cons] at hn
      obtain ⟨s', u', t4, t5, e, ho, hs, hlen⟩ := t_turn k p.1 r p.2.1 (.val d) p.2.2.2.1 p.2.2.2.2 a (by omega)
      obtain ⟨p', e', ho', hs', hl'⟩ := ih (pre ++ [d]) (s', u', .val d, t4, t5) (by simp; omega) ho (hs.trans b) (by simp only [List.length_append, List.length_cons, List.length_nil]; omega)
      refine ⟨p', ?_, ho', hs', by simp only [List.length_append, List.length_cons, List.length_nil] at *; omega⟩
      show (evSs (Fk (k + 1 + 1)) tbody [.own (dv p.1), .val (.str r), .val (.str p.2.1), .val d, p.2.2.2.1, p.2.2.2.2]).bind _ = _
      rw [e]
      exact e'
  obtain ⟨p', e', ho', hs', hl'⟩ := key (rangeD 0 q) [] (s1, r, .un, .un, .un) (by rw [hq]; simp; omega) h rfl (by simp)
  refine ⟨p'.2.1, p'.1, ?_, ho', hs', by rw [hq] at hl'; simp at hl'; omega⟩
  show TI.finish [.own (dv s), .val (.str r)] (evSs (Fk (k + 1 + 1)) (.cons (.set 2 (.var 1)) (.cons (.for_ (.n 3) (.rng1 (.e (.call 7 (.cons (.o 0) (.cons (.e (.lit (.int 6))) .nil))))) tbody) (.cons (.ret (.var 2)) .nil))) [.own (dv s), .val (.str r), .un, .un, .un, .un]) = _
  have hi : evIt (Fk (k + 1 + 1)) (.rng1 (.e (.call 7 (.cons (.o 0) (.cons (.e (.lit (.int 6))) .nil))))) [.own (dv s), .val (.str r), .val (.str r), .un, .un, .un] = .ok (rangeD 0 q) (fill (s1, r, .un, .un, .un)) := by
    have hb : rngD [.int q] = some (rangeD 0 q) := if_pos ⟨by omega, by omega⟩
    simp only [evSs, evS, evE, evA, evAs, evB, evIt, R.bind, RS.of, RS.bind, TI.finish, outs_nil, outs_val, outs_un, outs_own, R.of, R.noX, strOf, res, resL, valsL, slotsL, ownIx, putOuts, callR, muR, muOwn, lstAt, ownAt, isBox, mk, nodupB, asg, cmpD, Option.bind, Option.map, tru, List.getElem?_cons_zero, List.getElem?_cons_succ, List.set_cons_zero, List.set_cons_succ, List.cons_append, List.nil_append, Lit.d, List.contains_nil, List.contains_cons, List.length_cons, List.length_nil, List.map_cons, List.map_nil, Bool.not_false, Bool.not_true, Bool.and_true, Bool.true_and, Bool.or_true, Bool.or_false, Bool.false_eq_true, if_true, if_false, reduceCtorEq, Nat.reduceAdd, leLim0, leLim1, leLim2, leLim3, leLim4, leLim5, leLim6, leLim7, leLim8, leLim9, leLim10, leLim11, leLim12, e1, hb]
    rfl
  have h1 : evS (Fk (k + 1 + 1)) (.set 2 (.var 1)) [.own (dv s), .val (.str r), .un, .un, .un, .un] = .nx [.own (dv s), .val (.str r), .val (.str r), .un, .un, .un] := rfl
  have h3 : evS (Fk (k + 1 + 1)) (.for_ (.n 3) (.rng1 (.e (.call 7 (.cons (.o 0) (.cons (.e (.lit (.int 6))) .nil))))) tbody) [.own (dv s), .val (.str r), .val (.str r), .un, .un, .un] = .nx (fill p') := by
    rw [evS, hi]
    exact e'
  rw [evSs, h1, RS.bind_nx, evSs, h3, RS.bind_nx]
  rfl
def spots (w : List Char) : List Nat := (List.range (w.length - 1)).filter fun i => decide (w[i + 1]? = (w[i]?).map sw)
def spE : E := .comp (.var 4) (.mk (.n 4) (.rng1 (.e (.bin .sub (.e (.bf .len (.cons (.o 2) .nil))) (.e (.lit (.int 1)))))) (.cmp .eq (.e (.idx (.o 2) (.e (.bin .add (.o 4) (.e (.lit (.int 1))))))) (.e (.call 8 (.cons (.e (.idx (.o 2) (.o 4))) .nil))))) [4]
theorem ix_str {w : List Char} (hl : w.length ≤ lim) {i : Nat} (h : i < w.length) : idxD (.str w) (.int (i : Int)) = some (.str [w[i]]) := by
  show (if _ then _ else _) = _
  rw [if_pos hl, at_pos w (by omega)]
  have : ((i : Int)).toNat = i := by omega
  rw [this, List.getElem?_eq_getElem h]
  rfl
theorem ev_spots (k : Nat) (s : Int × Int × Int) (r : D) {w : List Char} (t3 t4 : Slot) (h : okw w) (hl : w.length ≤ 1000) : evE (Fk (k + 1)) spE [.own (dv s), .val r, .val (.str w), t3, t4] = .ok (.lst ((spots w).map fun (i : Nat) => .int (i : Int))) [.own (dv s), .val r, .val (.str w), t3, t4] := by
  have hlim : w.length ≤ lim := by unfold lim; omega
  have hi : evIt (Fk (k + 1)) (.rng1 (.e (.bin .sub (.e (.bf .len (.cons (.o 2) .nil))) (.e (.lit (.int 1)))))) [.own (dv s), .val r, .val (.str w), t3, t4] = .ok ((List.range (w.length - 1)).map fun (i : Nat) => .int (i : Int)) [.own (dv s), .val r, .val (.str w), t3, t4] := by
    have hb : rngD [.int ((w.length : Int) - 1)] = some ((List.range (w.length - 1)).map fun (i : Nat) => .int (i : Int)) := by
      show (if _ then _ else _) = _
      rw [if_pos ⟨by omega, by omega⟩]
      unfold rangeD
      have : ((w.length : Int) - 1 - 0).toNat = w.length - 1 := by omega
      rw [this]
      congr 1
      refine List.map_congr_left fun i _ => ?_
      rw [Int.zero_add]
    simp only [evSs, evS, evE, evA, evAs, evB, evIt, R.bind, RS.of, RS.bind, TI.finish, outs_nil, outs_val, outs_un, outs_own, R.of, R.noX, strOf, res, resL, valsL, slotsL, ownIx, putOuts, callR, muR, muOwn, lstAt, ownAt, isBox, mk, nodupB, asg, cmpD, Option.bind, Option.map, tru, List.getElem?_cons_zero, List.getElem?_cons_succ, List.set_cons_zero, List.set_cons_succ, List.cons_append, List.nil_append, Lit.d, List.contains_nil, List.contains_cons, List.length_cons, List.length_nil, List.map_cons, List.map_nil, Bool.not_false, Bool.not_true, Bool.and_true, Bool.true_and, Bool.or_true, Bool.or_false, Bool.false_eq_true, if_true, if_false, reduceCtorEq, Nat.reduceAdd, leLim0, leLim1, leLim2, leLim3, leLim4, leLim5, leLim6, leLim7, leLim8, leLim9, leLim10, leLim11, leLim12, bf_lens hlim, b_sub, hb]
  let p : D → Bool := fun d => match d with
    | .int i => decide (w[i.toNat + 1]? = (w[i.toNat]?).map sw)
    | _ => false
  have hm := ev_gen (Φ := Fk (k + 1)) (elt := .var 4) (c := .cmp .eq (.e (.idx (.o 2) (.e (.bin .add (.o 4) (.e (.lit (.int 1))))))) (.e (.call 8 (.cons (.e (.idx (.o 2) (.o 4))) .nil)))) (i := 4) p id hi rfl (by
    intro d hd
    obtain ⟨i, hi, rfl⟩ := List.mem_map.mp hd
    have hi := List.mem_range.mp hi
    have x1 := ix_str hlim (i := i) (by omega)
    have x2 := ix_str hlim (i := i + 1) (by omega)
    have x2' : idxD (.str w) (.int ((i : Int) + 1)) = some (.str [w[i + 1]]) := by
      have : ((i : Int) + 1) = ((i + 1 : Nat) : Int) := by omega
      rw [this]
      exact x2
    have hp : p (.int (i : Int)) = (w[i + 1] == sw w[i]) := by
      show decide _ = _
      have : ((i : Int)).toNat = i := by omega
      rw [this, List.getElem?_eq_getElem (by omega), List.getElem?_eq_getElem (by omega)]
      by_cases z : w[i + 1] = sw w[i] <;> simp [z]
    have he : eqT (.str [w[i + 1]]) (.str [sw w[i]]) = some (w[i + 1] == sw w[i]) := by
      rw [eqT_str]
      by_cases z : w[i + 1] = sw w[i] <;> simp [z]
    simp only [evSs, evS, evE, evA, evAs, evB, evIt, R.bind, RS.of, RS.bind, TI.finish, outs_nil, outs_val, outs_un, outs_own, R.of, R.noX, strOf, res, resL, valsL, slotsL, ownIx, putOuts, callR, muR, muOwn, lstAt, ownAt, isBox, mk, nodupB, asg, cmpD, Option.bind, Option.map, tru, List.getElem?_cons_zero, List.getElem?_cons_succ, List.set_cons_zero, List.set_cons_succ, List.cons_append, List.nil_append, Lit.d, List.contains_nil, List.contains_cons, List.length_cons, List.length_nil, List.map_cons, List.map_nil, Bool.not_false, Bool.not_true, Bool.and_true, Bool.true_and, Bool.or_true, Bool.or_false, Bool.false_eq_true, if_true, if_false, reduceCtorEq, Nat.reduceAdd, leLim0, leLim1, leLim2, leLim3, leLim4, leLim5, leLim6, leLim7, leLim8, leLim9, leLim10, leLim11, leLim12, b_add, x1, x2', sp8 k (h _ (List.getElem_mem (show i < w.length by omega))), he, hp]) (by
    intro d hd _
    simp only [evSs, evS, evE, evA, evAs, evB, evIt, R.bind, RS.of, RS.bind, TI.finish, outs_nil, outs_val, outs_un, outs_own, R.of, R.noX, strOf, res, resL, valsL, slotsL, ownIx, putOuts, callR, muR, muOwn, lstAt, ownAt, isBox, mk, nodupB, asg, cmpD, Option.bind, Option.map, tru, List.getElem?_cons_zero, List.getElem?_cons_succ, List.set_cons_zero, List.set_cons_succ, List.cons_append, List.nil_append, Lit.d, List.contains_nil, List.contains_cons, List.length_cons, List.length_nil, List.map_cons, List.map_nil, Bool.not_false, Bool.not_true, Bool.and_true, Bool.true_and, Bool.or_true, Bool.or_false, Bool.false_eq_true, if_true, if_false, reduceCtorEq, Nat.reduceAdd, leLim0, leLim1, leLim2, leLim3, leLim4, leLim5, leLim6, leLim7, leLim8, leLim9, leLim10, leLim11, leLim12, id]) (by rw [List.length_map, List.length_range]; unfold lim; omega)
  show evE (Fk (k + 1)) (.comp (.var 4) (.mk (.n 4) _ _) [4]) _ = _
  rw [hm, List.map_id]
  congr 2
  rw [List.filter_map]
  congr 1
theorem spots_mem {w : List Char} {i : Nat} (h : i ∈ spots w) : ∃ hi : i + 1 < w.length, w[i + 1] = sw w[i] := by
  unfold spots at h
  obtain ⟨h1, h2⟩ := List.mem_filter.mp h
  have h1 := List.mem_range.mp h1
  have h2 := of_decide_eq_true h2
  rw [List.getElem?_eq_getElem (by omega), List.getElem?_eq_getElem (by omega)] at h2
  exact ⟨by omega, Option.some.inj h2⟩
theorem red_of : ∀ (w : List Char), (∀ i, (hi : i + 1 < w.length) → w[i + 1] ≠ sw w[i]) → KM.Red sw w
  | [], _ => trivial
  | [_], _ => trivial
  | a :: b :: l, h => ⟨fun z => h 0 (by simp) (by
      show b = sw a
      rw [z, sw_sw]), red_of (b :: l) fun i hi => h (i + 1) (by simpa using hi)⟩
theorem spots_red {w : List Char} (h : spots w = []) : KM.Red sw w := by
  refine red_of w fun i hi z => ?_
  have : i ∈ spots w := by
    unfold spots
    refine List.mem_filter.mpr ⟨List.mem_range.mpr (by omega), ?_⟩
    refine decide_eq_true ?_
    rw [List.getElem?_eq_getElem hi, List.getElem?_eq_getElem (by omega), z]
    rfl
  rw [h] at this
  cases this
theorem split2 {w : List Char} {i : Nat} (hi : i + 1 < w.length) : w = w.take i ++ [w[i]] ++ [w[i + 1]] ++ w.drop (i + 2) := by
  have h1 : w.drop i = w[i] :: w.drop (i + 1) := List.drop_eq_getElem_cons (by omega)
  have h2 : w.drop (i + 1) = w[i + 1] :: w.drop (i + 2) := List.drop_eq_getElem_cons hi
  conv => lhs; rw [← List.take_append_drop i w, h1, h2]
  simp
def cbody : Ss := .cons (.set 4 (.call 14 (.cons (.o 0) (.cons (.e (.var 3)) .nil)))) (.cons (.set 2 (.bin .add (.e (.slc (.o 2) .nil (.cons (.o 4) .nil))) (.e (.slc (.o 2) (.cons (.e (.bin .add (.o 4) (.e (.lit (.int 2))))) .nil) .nil)))) (.cons (.set 3 spE) .nil))
def nats (l : List Nat) : List D := l.map fun (i : Nat) => .int (i : Int)
theorem nats_eq0 (l : List Nat) : eqT (.lst (nats l)) (.lst []) = some (decide (l = [])) := by
  have : nats l = (l.map fun (i : Nat) => (i : Int)).map .int := by simp [nats]
  rw [this, ints_eq0]
  simp
theorem sp27 (k : Nat) (s : Int × Int × Int) {r : List Char} (h : okw r) (hl : r.length ≤ 1000) : ∃ s', (Fk (k + 1 + 1 + 1)).fn 27 [.own (dv s), .val (.str r)] = .ok (.str (KM.shortL sw r)) [dv s'] := by
  rw [f_succ (i := i27) rfl rfl]
  let fill : (Int × Int × Int) × List Char × Slot → TI.Env := fun p => [.own (dv p.1), .val (.str r), .val (.str p.2.1), .val (.lst (nats (spots p.2.1))), p.2.2]
  let cnd : E := .cmp .ne (.o 3) (.e (.lst .nil))
  have key := loopW_inv (c := fun e => (evE (Fk (k + 1 + 1)) cnd e).bind fun x e => R.of (tru x) e) (b := evSs (Fk (k + 1 + 1)) cbody) (fill := fill) (Iv := fun p => okw p.2.1 ∧ KM.shortL sw p.2.1 = KM.shortL sw r ∧ p.2.1.length ≤ 1000) (fun p => if spots p.2.1 = [] then 0 else p.2.1.length) (by
    intro p hp
    obtain ⟨s, w, t4⟩ := p
    obtain ⟨ho, hs, hlen⟩ := hp
    have ho : okw w := ho
    have hlen : w.length ≤ 1000 := hlen
    by_cases he : spots w = []
    · left
      refine ⟨(s, w, t4), ?_, ⟨ho, hs, hlen⟩, if_pos he⟩
      show (R.bind (evE (Fk (k + 1 + 1)) cnd [.own (dv s), .val (.str r), .val (.str w), .val (.lst (nats (spots w))), t4]) fun x e => R.of (tru x) e) = _
      have hq : eqT (.lst (nats (spots w))) (.lst []) = some true := by rw [nats_eq0, he]; rfl
      simp only [cnd, evSs, evS, evE, evA, evAs, evB, evIt, R.bind, RS.of, RS.bind, TI.finish, outs_nil, outs_val, outs_un, outs_own, R.of, R.noX, strOf, res, resL, valsL, slotsL, ownIx, putOuts, callR, muR, muOwn, lstAt, ownAt, isBox, mk, nodupB, asg, cmpD, Option.bind, Option.map, tru, List.getElem?_cons_zero, List.getElem?_cons_succ, List.set_cons_zero, List.set_cons_succ, List.cons_append, List.nil_append, Lit.d, List.contains_nil, List.contains_cons, List.length_cons, List.length_nil, List.map_cons, List.map_nil, Bool.not_false, Bool.not_true, Bool.and_true, Bool.true_and, Bool.or_true, Bool.or_false, Bool.false_eq_true, if_true, if_false, reduceCtorEq, Nat.reduceAdd, leLim0, leLim1, leLim2, leLim3, leLim4, leLim5, leLim6, leLim7, leLim8, leLim9, leLim10, leLim11, leLim12, hq]
      rfl
    · right
      obtain ⟨d, s', e, hd⟩ := sp14 k s (l := nats (spots w)) (by
        intro z
        exact he (List.map_eq_nil_iff.mp z)) (by
        have h1 : (spots w).length ≤ (List.range (w.length - 1)).length := List.length_filter_le _ _
        rw [List.length_range] at h1
        simp only [nats, List.length_map]
        unfold lim
        omega)
      obtain ⟨i, hi, rfl⟩ := List.mem_map.mp hd
      obtain ⟨hi1, hsw⟩ := spots_mem hi
      have hsp := split2 hi1
      have hlim : w.length ≤ lim := by unfold lim; omega
      have hw2 : (w.take i ++ w.drop (i + 2)).length + 2 = w.length := by
        simp only [List.length_append, List.length_take, List.length_drop]
        omega
      have ho2 : okw (w.take i ++ w.drop (i + 2)) := by
        intro x hx
        rcases List.mem_append.mp hx with hx | hx
        · exact ho x (List.mem_of_mem_take hx)
        · exact ho x (List.mem_of_mem_drop hx)
      have hsh : KM.shortL sw (w.take i ++ w.drop (i + 2)) = KM.shortL sw w := by
        rw [hsw] at hsp
        rw [← KM.short_ins sw_sw (w.take i) (w.drop (i + 2)) w[i], ← hsp]
      have c1 : cutD (.str w) none (some (i : Int)) = some (.str (w.take i)) := by
        rw [cut_str_pre hlim (by omega)]
        rfl
      have c2 : cutD (.str w) (some ((i : Int) + 2)) none = some (.str (w.drop (i + 2))) := by
        rw [cut_str_suf hlim (by omega)]
        rfl
      have a1 := add_str (u := w.take i) (v := w.drop (i + 2)) (by simp only [List.length_append] at hw2; omega)
      have hev := ev_spots (k + 1) s' (.str r) (w := w.take i ++ w.drop (i + 2)) (.val (.lst (nats (spots w)))) (.val (.int (i : Int))) ho2 (by omega)
      refine ⟨(s, w, t4), (s', w.take i ++ w.drop (i + 2), .val (.int (i : Int))), ?_, ?_, ⟨ho2, hsh.trans hs, by show (w.take i ++ w.drop (i + 2)).length ≤ 1000; omega⟩, ?_⟩
      · show (R.bind (evE (Fk (k + 1 + 1)) cnd [.own (dv s), .val (.str r), .val (.str w), .val (.lst (nats (spots w))), t4]) fun x e => R.of (tru x) e) = _
        simp only [cnd, evSs, evS, evE, evA, evAs, evB, evIt, R.bind, RS.of, RS.bind, TI.finish, outs_nil, outs_val, outs_un, outs_own, R.of, R.noX, strOf, res, resL, valsL, slotsL, ownIx, putOuts, callR, muR, muOwn, lstAt, ownAt, isBox, mk, nodupB, asg, cmpD, Option.bind, Option.map, tru, List.getElem?_cons_zero, List.getElem?_cons_succ, List.set_cons_zero, List.set_cons_succ, List.cons_append, List.nil_append, Lit.d, List.contains_nil, List.contains_cons, List.length_cons, List.length_nil, List.map_cons, List.map_nil, Bool.not_false, Bool.not_true, Bool.and_true, Bool.true_and, Bool.or_true, Bool.or_false, Bool.false_eq_true, if_true, if_false, reduceCtorEq, Nat.reduceAdd, leLim0, leLim1, leLim2, leLim3, leLim4, leLim5, leLim6, leLim7, leLim8, leLim9, leLim10, leLim11, leLim12, nats_eq0, he, decide_false]
        rfl
      · show evSs (Fk (k + 1 + 1)) cbody [.own (dv s), .val (.str r), .val (.str w), .val (.lst (nats (spots w))), t4] = _
        simp only [cbody, evSs, evS, evE, evA, evAs, evB, evIt, R.bind, RS.of, RS.bind, TI.finish, outs_nil, outs_val, outs_un, outs_own, R.of, R.noX, strOf, res, resL, valsL, slotsL, ownIx, putOuts, callR, muR, muOwn, lstAt, ownAt, isBox, mk, nodupB, asg, cmpD, Option.bind, Option.map, tru, List.getElem?_cons_zero, List.getElem?_cons_succ, List.set_cons_zero, List.set_cons_succ, List.cons_append, List.nil_append, Lit.d, List.contains_nil, List.contains_cons, List.length_cons, List.length_nil, List.map_cons, List.map_nil, Bool.not_false, Bool.not_true, Bool.and_true, Bool.true_and, Bool.or_true, Bool.or_false, Bool.false_eq_true, if_true, if_false, reduceCtorEq, Nat.reduceAdd, leLim0, leLim1, leLim2, leLim3, leLim4, leLim5, leLim6, leLim7, leLim8, leLim9, leLim10, leLim11, leLim12, e, c1, c2, a1, b_add, hev]
        rfl
      · show (if spots (w.take i ++ w.drop (i + 2)) = [] then 0 else (w.take i ++ w.drop (i + 2)).length) < if spots w = [] then 0 else w.length
        rw [if_neg he]
        split <;> omega)
  obtain ⟨⟨s1, w, t4⟩, e, hp, hm⟩ := key fuel (s, r, .un) ⟨h, rfl, hl⟩ (by
    show (if spots r = [] then 0 else r.length) < fuel
    unfold fuel
    split <;> omega)
  obtain ⟨ho, hs, hlen⟩ := hp
  have hz : spots w = [] := by
    by_cases z : spots w = []
    · exact z
    · have : w.length = 0 := by
        have hm : (if spots w = [] then 0 else w.length) = 0 := hm
        rwa [if_neg z] at hm
      have : w = [] := List.length_eq_zero_iff.mp this
      subst this
      rfl
  have hw : w = KM.shortL sw r := by
    rw [← KM.short_of_red (spots_red hz)]
    exact hs
  refine ⟨s1, ?_⟩
  show TI.finish [.own (dv s), .val (.str r)] (evSs (Fk (k + 1 + 1)) (.cons (.set 2 (.var 1)) (.cons (.set 3 spE) (.cons (.while_ cnd cbody) (.cons (.ret (.var 2)) .nil)))) [.own (dv s), .val (.str r), .un, .un, .un]) = _
  have h1 : evS (Fk (k + 1 + 1)) (.set 2 (.var 1)) [.own (dv s), .val (.str r), .un, .un, .un] = .nx [.own (dv s), .val (.str r), .val (.str r), .un, .un] := rfl
  have h2 : evS (Fk (k + 1 + 1)) (.set 3 spE) [.own (dv s), .val (.str r), .val (.str r), .un, .un] = .nx (fill (s, r, .un)) := by
    rw [evS, ev_spots (k + 1) s (.str r) .un .un h hl]
    rfl
  have h3 : evS (Fk (k + 1 + 1)) (.while_ cnd cbody) (fill (s, r, .un)) = .nx (fill (s1, w, t4)) := by
    rw [evS]
    exact e
  rw [evSs, h1, RS.bind_nx, evSs, h2, RS.bind_nx, evSs, h3, RS.bind_nx, ← hw]
  rfl
end KL
set_option Elab.async false
set_option linter.all false
set_option maxRecDepth 100000
set_option maxHeartbeats 4000000
namespace KL
open PySem TI
theorem zip_asc : ∀ (w : List Char), asc w → ∀ p ∈ w.zip (w.drop 1), p.1.toNat < p.2.toNat
  | [], _, p, hp => by simp at hp
  | [a], _, p, hp => by simp at hp
  | a :: b :: l, h, p, hp => by
    have hp : p ∈ (a, b) :: (b :: l).zip l := hp
    rcases List.mem_cons.mp hp with rfl | hp
    · exact (List.pairwise_cons.mp h).1 b List.mem_cons_self
    · exact zip_asc (b :: l) (List.pairwise_cons.mp h).2 p hp
theorem zip_cl : ∀ u v : List Char, zipD (cl u) (cl v) = (u.zip v).map fun p => .tup [.str [p.1], .str [p.2]]
  | [], _ => rfl
  | _ :: _, [] => rfl
  | a :: u, b :: v => by
    have := zip_cl u v
    unfold cl at this
    simp only [cl, List.map_cons, zipD, this, List.zip_cons_cons]
theorem at_all {α : Type} (l : List α) : bfD .all [.lst (l.map fun _ => .bl true)] = some (.bl true) := by
  rw [bf_all l fun _ => true]
  simp
def c0 : E := (.comp (.cmp .lt (.o 1) (.o 2)) (.mk (.cons (.n 1) (.cons (.n 2) .nil)) (.zip (.e (.var 0)) (.e (.slc (.o 0) (.cons (.e (.lit (.int 1))) .nil) .nil))) (.lit (.bl true))) [1, 2])
theorem b0_eq : b0 = (.cons (.ret (.bf .all (.cons (.e c0) .nil))) .nil) := rfl
theorem sp0 (k : Nat) {w : List Char} (h : asc w) (hl : w.length ≤ lim) : (Fk (k + 1)).fn 0 [.val (.str w)] = .ok (.bl true) [] := by
  rw [f_succ (i := i0) rfl rfl]
  show TI.finish [.val (.str w)] (evSs (Fk k) b0 [.val (.str w), .un, .un]) = _
  have hi : evIt (Fk k) (.zip (.e (.var 0)) (.e (.slc (.o 0) (.cons (.e (.lit (.int 1))) .nil) .nil))) [.val (.str w), .un, .un] = .ok (((w.zip (w.drop 1)).map fun p => ((.str [p.1], .str [p.2]) : D × D)).map fun p => .tup [p.1, p.2]) [.val (.str w), .un, .un] := by
    have hc : cutD (.str w) (some 1) none = some (.str (w.drop 1)) := cut_str_suf hl (by decide)
    have hz := zip_cl w (w.drop 1)
    have e1 : itemsD (.str w) = some (cl w) := rfl
    have e2 : itemsD (.str (w.drop 1)) = some (cl (w.drop 1)) := rfl
    simp only [evSs, evS, evE, evA, evAs, evB, evIt, R.bind, RS.of, RS.bind, TI.finish, outs_nil, outs_val, outs_un, outs_own, R.of, R.noX, strOf, res, resL, valsL, slotsL, ownIx, putOuts, callR, muR, muOwn, lstAt, ownAt, isBox, mk, nodupB, asg, cmpD, Option.bind, Option.map, tru, List.getElem?_cons_zero, List.getElem?_cons_succ, List.set_cons_zero, List.set_cons_succ, List.cons_append, List.nil_append, Lit.d, List.contains_nil, List.contains_cons, List.length_cons, List.length_nil, List.map_cons, List.map_nil, Bool.not_false, Bool.not_true, Bool.and_true, Bool.true_and, Bool.or_true, Bool.or_false, Bool.false_eq_true, if_true, if_false, reduceCtorEq, Nat.reduceAdd, leLim0, leLim1, leLim2, leLim3, leLim4, leLim5, leLim6, leLim7, leLim8, leLim9, leLim10, leLim11, leLim12, hc, e1, e2, hz, List.map_map]
    rfl
  have hm := ev_map2 (Φ := Fk k) (elt := .cmp .lt (.o 1) (.o 2)) (i := 1) (j := 2) (by decide) (fun _ => .bl true) hi rfl rfl (by
    intro p hp
    obtain ⟨q, hq, rfl⟩ := List.mem_map.mp hp
    have := zip_asc w h q hq
    have e1 : ltD (.str [q.1]) (.str [q.2]) = some true := by
      show some (ltC [q.1] [q.2]) = _
      rw [ltC_one]
      unfold ltc
      rw [decide_eq_true this]
    simp only [evSs, evS, evE, evA, evAs, evB, evIt, R.bind, RS.of, RS.bind, TI.finish, outs_nil, outs_val, outs_un, outs_own, R.of, R.noX, strOf, res, resL, valsL, slotsL, ownIx, putOuts, callR, muR, muOwn, lstAt, ownAt, isBox, mk, nodupB, asg, cmpD, Option.bind, Option.map, tru, List.getElem?_cons_zero, List.getElem?_cons_succ, List.set_cons_zero, List.set_cons_succ, List.cons_append, List.nil_append, Lit.d, List.contains_nil, List.contains_cons, List.length_cons, List.length_nil, List.map_cons, List.map_nil, Bool.not_false, Bool.not_true, Bool.and_true, Bool.true_and, Bool.or_true, Bool.or_false, Bool.false_eq_true, if_true, if_false, reduceCtorEq, Nat.reduceAdd, leLim0, leLim1, leLim2, leLim3, leLim4, leLim5, leLim6, leLim7, leLim8, leLim9, leLim10, leLim11, leLim12, e1]) (by
    have : (w.zip (w.drop 1)).length ≤ w.length := by simp
    rw [List.length_map]
    omega)
  have hm : evE (Fk k) c0 [.val (.str w), .un, .un] = .ok (.lst (((w.zip (w.drop 1)).map fun p => ((.str [p.1], .str [p.2]) : D × D)).map fun _ => .bl true)) [.val (.str w), .un, .un] := hm
  rw [b0_eq]
  simp only [evSs, evS, evE, evA, evAs, evB, evIt, R.bind, RS.of, RS.bind, TI.finish, outs_nil, outs_val, outs_un, outs_own, R.of, R.noX, strOf, res, resL, valsL, slotsL, ownIx, putOuts, callR, muR, muOwn, lstAt, ownAt, isBox, mk, nodupB, asg, cmpD, Option.bind, Option.map, tru, List.getElem?_cons_zero, List.getElem?_cons_succ, List.set_cons_zero, List.set_cons_succ, List.cons_append, List.nil_append, Lit.d, List.contains_nil, List.contains_cons, List.length_cons, List.length_nil, List.map_cons, List.map_nil, Bool.not_false, Bool.not_true, Bool.and_true, Bool.true_and, Bool.or_true, Bool.or_false, Bool.false_eq_true, if_true, if_false, reduceCtorEq, Nat.reduceAdd, leLim0, leLim1, leLim2, leLim3, leLim4, leLim5, leLim6, leLim7, leLim8, leLim9, leLim10, leLim11, leLim12, hm, at_all]
theorem sp9 (k : Nat) {w : List Char} (h : ∀ c ∈ w, c ∈ lows) (ha : asc w) (h0 : 1 ≤ w.length) (h1 : w.length ≤ 3) : (Fk (k + 1 + 1)).fn 9 [.val (.str w)] = .ok (.bl true) [] := by
  rw [f_succ (i := i9) rfl rfl]
  show TI.finish [.val (.str w)] (evSs (Fk (k + 1)) b9 [.val (.str w)]) = _
  have hlim : w.length ≤ lim := by unfold lim; omega
  have c1 : decide ((w.length : Int) < 1) = false := decide_eq_false (by omega)
  have c2 : decide ((3 : Int) < (w.length : Int)) = false := decide_eq_false (by omega)
  simp only [b9, evSs, evS, evE, evA, evAs, evB, evIt, R.bind, RS.of, RS.bind, TI.finish, outs_nil, outs_val, outs_un, outs_own, R.of, R.noX, strOf, res, resL, valsL, slotsL, ownIx, putOuts, callR, muR, muOwn, lstAt, ownAt, isBox, mk, nodupB, asg, cmpD, Option.bind, Option.map, tru, List.getElem?_cons_zero, List.getElem?_cons_succ, List.set_cons_zero, List.set_cons_succ, List.cons_append, List.nil_append, Lit.d, List.contains_nil, List.contains_cons, List.length_cons, List.length_nil, List.map_cons, List.map_nil, Bool.not_false, Bool.not_true, Bool.and_true, Bool.true_and, Bool.or_true, Bool.or_false, Bool.false_eq_true, if_true, if_false, reduceCtorEq, Nat.reduceAdd, leLim0, leLim1, leLim2, leLim3, leLim4, leLim5, leLim6, leLim7, leLim8, leLim9, leLim10, leLim11, leLim12, sp1 k h hlim, sp0 k ha hlim, bf_lens hlim, lt_i, g0, c1, c2]
theorem sp20 (k : Nat) {w : List Char} (h : ∀ c ∈ w, c ∈ lows) (ha : asc w) (h0 : 1 ≤ w.length) (h1 : w.length ≤ 3) : (Fk (k + 1 + 1 + 1)).fn 20 [.val (.str w)] = .ok .non [] := by
  rw [f_succ (i := i20) rfl rfl]
  show TI.finish [.val (.str w)] (evSs (Fk (k + 1 + 1)) b20 [.val (.str w)]) = _
  simp only [b20, evSs, evS, evE, evA, evAs, evB, evIt, R.bind, RS.of, RS.bind, TI.finish, outs_nil, outs_val, outs_un, outs_own, R.of, R.noX, strOf, res, resL, valsL, slotsL, ownIx, putOuts, callR, muR, muOwn, lstAt, ownAt, isBox, mk, nodupB, asg, cmpD, Option.bind, Option.map, tru, List.getElem?_cons_zero, List.getElem?_cons_succ, List.set_cons_zero, List.set_cons_succ, List.cons_append, List.nil_append, Lit.d, List.contains_nil, List.contains_cons, List.length_cons, List.length_nil, List.map_cons, List.map_nil, Bool.not_false, Bool.not_true, Bool.and_true, Bool.true_and, Bool.or_true, Bool.or_false, Bool.false_eq_true, if_true, if_false, reduceCtorEq, Nat.reduceAdd, leLim0, leLim1, leLim2, leLim3, leLim4, leLim5, leLim6, leLim7, leLim8, leLim9, leLim10, leLim11, leLim12, sp9 k h ha h0 h1]
def over (w r : List Char) : Prop := ∀ c ∈ r, c ∈ w ∨ ∃ a ∈ w, c = sw a
theorem over_ok {w r : List Char} (hw : ∀ c ∈ w, c ∈ lows) (h : over w r) : okw r := by
  intro c hc
  rcases h c hc with h | ⟨a, ha, rfl⟩
  · exact .inl (hw c h)
  · exact sw_ok (.inl (hw a ha))
theorem lo_low : ∀ c ∈ lows, loC c = c := by decide
theorem lo_sw : ∀ c ∈ lows, loC (sw c) = c := by decide
theorem up_sw : ∀ c ∈ lows, upC c = sw c := by decide
theorem over_lo {w : List Char} (hw : ∀ c ∈ w, c ∈ lows) {c : Char} (h : c ∈ w ∨ ∃ a ∈ w, c = sw a) : loC c ∈ w := by
  rcases h with h | ⟨a, ha, rfl⟩
  · rw [lo_low c (hw c h)]; exact h
  · rw [lo_sw a (hw a ha)]; exact ha
def c3 : E := (.comp (.cmp .in_ (.o 2) (.o 1)) (.mk (.n 2) (.seq (.bm .lower (.o 0) .nil)) (.lit (.bl true))) [2])
theorem b3_eq : b3 = (.cons (.ret (.bf .all (.cons (.e c3) .nil))) .nil) := rfl
theorem sp3 (k : Nat) {w r : List Char} (hw : ∀ c ∈ w, c ∈ lows) (h : over w r) (hl : r.length ≤ 1000) : (Fk (k + 1)).fn 3 [.val (.str r), .val (.str w)] = .ok (.bl true) [] := by
  rw [f_succ (i := i3) rfl rfl]
  show TI.finish [.val (.str r), .val (.str w)] (evSs (Fk k) b3 [.val (.str r), .val (.str w), .un]) = _
  have hlo : bmD .lower (.str r) [] = some (.str (r.map loC)) := by
    show (if _ then _ else _) = _
    rw [if_pos ⟨by omega, by
      rw [List.all_eq_true]
      exact fun c hc => ok_ascii (over_ok hw h c hc)⟩]
  have hi : evIt (Fk k) (.seq (.bm .lower (.o 0) .nil)) [.val (.str r), .val (.str w), .un] = .ok (cl (r.map loC)) [.val (.str r), .val (.str w), .un] := by
    simp only [evSs, evS, evE, evA, evAs, evB, evIt, R.bind, RS.of, RS.bind, TI.finish, outs_nil, outs_val, outs_un, outs_own, R.of, R.noX, strOf, res, resL, valsL, slotsL, ownIx, putOuts, callR, muR, muOwn, lstAt, ownAt, isBox, mk, nodupB, asg, cmpD, Option.bind, Option.map, tru, List.getElem?_cons_zero, List.getElem?_cons_succ, List.set_cons_zero, List.set_cons_succ, List.cons_append, List.nil_append, Lit.d, List.contains_nil, List.contains_cons, List.length_cons, List.length_nil, List.map_cons, List.map_nil, Bool.not_false, Bool.not_true, Bool.and_true, Bool.true_and, Bool.or_true, Bool.or_false, Bool.false_eq_true, if_true, if_false, reduceCtorEq, Nat.reduceAdd, leLim0, leLim1, leLim2, leLim3, leLim4, leLim5, leLim6, leLim7, leLim8, leLim9, leLim10, leLim11, leLim12, hlo, itemsD]
    rfl
  have hm := ev_map (Φ := Fk k) (elt := .cmp .in_ (.o 2) (.o 1)) (i := 2) (s0 := .un) (fun _ => .bl true) hi rfl (by
    intro d hd
    obtain ⟨c, hc, rfl⟩ := cl_mem hd
    obtain ⟨b, hb, rfl⟩ := List.mem_map.mp hc
    simp only [evSs, evS, evE, evA, evAs, evB, evIt, R.bind, RS.of, RS.bind, TI.finish, outs_nil, outs_val, outs_un, outs_own, R.of, R.noX, strOf, res, resL, valsL, slotsL, ownIx, putOuts, callR, muR, muOwn, lstAt, ownAt, isBox, mk, nodupB, asg, cmpD, Option.bind, Option.map, tru, List.getElem?_cons_zero, List.getElem?_cons_succ, List.set_cons_zero, List.set_cons_succ, List.cons_append, List.nil_append, Lit.d, List.contains_nil, List.contains_cons, List.length_cons, List.length_nil, List.map_cons, List.map_nil, Bool.not_false, Bool.not_true, Bool.and_true, Bool.true_and, Bool.or_true, Bool.or_false, Bool.false_eq_true, if_true, if_false, reduceCtorEq, Nat.reduceAdd, leLim0, leLim1, leLim2, leLim3, leLim4, leLim5, leLim6, leLim7, leLim8, leLim9, leLim10, leLim11, leLim12, in_str, over_lo hw (h b hb), decide_true]) (by rw [cl_len, List.length_map]; unfold lim; omega)
  have hm : evE (Fk k) c3 [.val (.str r), .val (.str w), .un] = .ok (.lst ((cl (r.map loC)).map fun _ => .bl true)) [.val (.str r), .val (.str w), .un] := hm
  rw [b3_eq]
  simp only [evSs, evS, evE, evA, evAs, evB, evIt, R.bind, RS.of, RS.bind, TI.finish, outs_nil, outs_val, outs_un, outs_own, R.of, R.noX, strOf, res, resL, valsL, slotsL, ownIx, putOuts, callR, muR, muOwn, lstAt, ownAt, isBox, mk, nodupB, asg, cmpD, Option.bind, Option.map, tru, List.getElem?_cons_zero, List.getElem?_cons_succ, List.set_cons_zero, List.set_cons_succ, List.cons_append, List.nil_append, Lit.d, List.contains_nil, List.contains_cons, List.length_cons, List.length_nil, List.map_cons, List.map_nil, Bool.not_false, Bool.not_true, Bool.and_true, Bool.true_and, Bool.or_true, Bool.or_false, Bool.false_eq_true, if_true, if_false, reduceCtorEq, Nat.reduceAdd, leLim0, leLim1, leLim2, leLim3, leLim4, leLim5, leLim6, leLim7, leLim8, leLim9, leLim10, leLim11, leLim12, hm, all_true]
theorem sp11 (k : Nat) {w r : List Char} (hw : ∀ c ∈ w, c ∈ lows) (h : over w r) (hl : r.length ≤ 1000) : (Fk (k + 1 + 1)).fn 11 [.val (.str r), .val (.str w)] = .ok .non [] := by
  rw [f_succ (i := i11) rfl rfl]
  show TI.finish [.val (.str r), .val (.str w)] (evSs (Fk (k + 1)) b11 [.val (.str r), .val (.str w)]) = _
  simp only [b11, evSs, evS, evE, evA, evAs, evB, evIt, R.bind, RS.of, RS.bind, TI.finish, outs_nil, outs_val, outs_un, outs_own, R.of, R.noX, strOf, res, resL, valsL, slotsL, ownIx, putOuts, callR, muR, muOwn, lstAt, ownAt, isBox, mk, nodupB, asg, cmpD, Option.bind, Option.map, tru, List.getElem?_cons_zero, List.getElem?_cons_succ, List.set_cons_zero, List.set_cons_succ, List.cons_append, List.nil_append, Lit.d, List.contains_nil, List.contains_cons, List.length_cons, List.length_nil, List.map_cons, List.map_nil, Bool.not_false, Bool.not_true, Bool.and_true, Bool.true_and, Bool.or_true, Bool.or_false, Bool.false_eq_true, if_true, if_false, reduceCtorEq, Nat.reduceAdd, leLim0, leLim1, leLim2, leLim3, leLim4, leLim5, leLim6, leLim7, leLim8, leLim9, leLim10, leLim11, leLim12, sp3 k hw h hl]
def sm (w r : List Char) : List D := w.map fun a => .int (KM.diff sw a r)
theorem cnt (r : List Char) (a : Char) : bmD .count (.str r) [.str [a]] = some (.int (r.count a : Int)) := by
  show some (D.int (countC r a : Int)) = _
  simp [countC, List.count, List.countP_eq_length_filter]
theorem inj1 (g : Char → D) : ∀ a b : Char, (D.str [a]) = .str [b] → g a = g b := by
  intro a b z
  injection z with z
  injection z with z
  rw [z]
def c5 : E := (.comp (.bin .sub (.e (.bm .count (.o 0) (.cons (.o 2) .nil))) (.e (.bm .count (.o 0) (.cons (.e (.bm .upper (.o 2) .nil)) .nil)))) (.mk (.n 2) (.seq (.var 1)) (.lit (.bl true))) [2])
theorem b5_eq : b5 = (.cons (.ret (.bf .tuple (.cons (.e c5) .nil))) .nil) := rfl
theorem sp5 (k : Nat) {w r : List Char} (hw : ∀ c ∈ w, c ∈ lows) (hl : w.length ≤ lim) : (Fk (k + 1)).fn 5 [.val (.str r), .val (.str w)] = .ok (.tup (sm w r)) [] := by
  rw [f_succ (i := i5) rfl rfl]
  show TI.finish [.val (.str r), .val (.str w)] (evSs (Fk k) b5 [.val (.str r), .val (.str w), .un]) = _
  have hm := ev_mapL (Φ := Fk k) (elt := .bin .sub (.e (.bm .count (.o 0) (.cons (.o 2) .nil))) (.e (.bm .count (.o 0) (.cons (.e (.bm .upper (.o 2) .nil)) .nil)))) (i := 2) (it := .seq (.var 1)) (e := [.val (.str r), .val (.str w), .un]) (s0 := .un) (items := w) (fun c => .str [c]) (fun a => .int (KM.diff sw a r)) (seq_str _ rfl) rfl (inj1 _) (by
    intro c hc
    simp only [evSs, evS, evE, evA, evAs, evB, evIt, R.bind, RS.of, RS.bind, TI.finish, outs_nil, outs_val, outs_un, outs_own, R.of, R.noX, strOf, res, resL, valsL, slotsL, ownIx, putOuts, callR, muR, muOwn, lstAt, ownAt, isBox, mk, nodupB, asg, cmpD, Option.bind, Option.map, tru, List.getElem?_cons_zero, List.getElem?_cons_succ, List.set_cons_zero, List.set_cons_succ, List.cons_append, List.nil_append, Lit.d, List.contains_nil, List.contains_cons, List.length_cons, List.length_nil, List.map_cons, List.map_nil, Bool.not_false, Bool.not_true, Bool.and_true, Bool.true_and, Bool.or_true, Bool.or_false, Bool.false_eq_true, if_true, if_false, reduceCtorEq, Nat.reduceAdd, leLim0, leLim1, leLim2, leLim3, leLim4, leLim5, leLim6, leLim7, leLim8, leLim9, leLim10, leLim11, leLim12, cnt, up1 (ok_ascii (.inl (hw c hc))), up_sw c (hw c hc), b_sub]
    rfl) hl
  have ht : bfD .tuple [.lst (sm w r)] = some (.tup (sm w r)) := rfl
  have hm : evE (Fk k) c5 [.val (.str r), .val (.str w), .un] = .ok (.lst (sm w r)) [.val (.str r), .val (.str w), .un] := hm
  have ht : bfD .tuple [.lst (sm w r)] = some (.tup (sm w r)) := rfl
  rw [b5_eq]
  simp only [evSs, evS, evE, evA, evAs, evB, evIt, R.bind, RS.of, RS.bind, TI.finish, outs_nil, outs_val, outs_un, outs_own, R.of, R.noX, strOf, res, resL, valsL, slotsL, ownIx, putOuts, callR, muR, muOwn, lstAt, ownAt, isBox, mk, nodupB, asg, cmpD, Option.bind, Option.map, tru, List.getElem?_cons_zero, List.getElem?_cons_succ, List.set_cons_zero, List.set_cons_succ, List.cons_append, List.nil_append, Lit.d, List.contains_nil, List.contains_cons, List.length_cons, List.length_nil, List.map_cons, List.map_nil, Bool.not_false, Bool.not_true, Bool.and_true, Bool.true_and, Bool.or_true, Bool.or_false, Bool.false_eq_true, if_true, if_false, reduceCtorEq, Nat.reduceAdd, leLim0, leLim1, leLim2, leLim3, leLim4, leLim5, leLim6, leLim7, leLim8, leLim9, leLim10, leLim11, leLim12, hm, ht]
def c19 : E := (.comp (.bin .sub (.e (.bm .count (.o 0) (.cons (.o 2) .nil))) (.e (.bm .count (.o 0) (.cons (.e (.call 8 (.cons (.e (.var 2)) .nil))) .nil)))) (.mk (.n 2) (.seq (.var 1)) (.lit (.bl true))) [2])
theorem b19_eq : b19 = (.cons (.ret (.bf .tuple (.cons (.e c19) .nil))) .nil) := rfl
theorem sp19 (k : Nat) {w r : List Char} (hw : ∀ c ∈ w, c ∈ lows) (hl : w.length ≤ lim) : (Fk (k + 1 + 1)).fn 19 [.val (.str r), .val (.str w)] = .ok (.tup (sm w r)) [] := by
  rw [f_succ (i := i19) rfl rfl]
  show TI.finish [.val (.str r), .val (.str w)] (evSs (Fk (k + 1)) b19 [.val (.str r), .val (.str w), .un]) = _
  have hm := ev_mapL (Φ := Fk (k + 1)) (elt := .bin .sub (.e (.bm .count (.o 0) (.cons (.o 2) .nil))) (.e (.bm .count (.o 0) (.cons (.e (.call 8 (.cons (.e (.var 2)) .nil))) .nil)))) (i := 2) (it := .seq (.var 1)) (e := [.val (.str r), .val (.str w), .un]) (s0 := .un) (items := w) (fun c => .str [c]) (fun a => .int (KM.diff sw a r)) (seq_str _ rfl) rfl (inj1 _) (by
    intro c hc
    simp only [evSs, evS, evE, evA, evAs, evB, evIt, R.bind, RS.of, RS.bind, TI.finish, outs_nil, outs_val, outs_un, outs_own, R.of, R.noX, strOf, res, resL, valsL, slotsL, ownIx, putOuts, callR, muR, muOwn, lstAt, ownAt, isBox, mk, nodupB, asg, cmpD, Option.bind, Option.map, tru, List.getElem?_cons_zero, List.getElem?_cons_succ, List.set_cons_zero, List.set_cons_succ, List.cons_append, List.nil_append, Lit.d, List.contains_nil, List.contains_cons, List.length_cons, List.length_nil, List.map_cons, List.map_nil, Bool.not_false, Bool.not_true, Bool.and_true, Bool.true_and, Bool.or_true, Bool.or_false, Bool.false_eq_true, if_true, if_false, reduceCtorEq, Nat.reduceAdd, leLim0, leLim1, leLim2, leLim3, leLim4, leLim5, leLim6, leLim7, leLim8, leLim9, leLim10, leLim11, leLim12, cnt, sp8 k (.inl (hw c hc)), b_sub]
    rfl) hl
  have hm : evE (Fk (k + 1)) c19 [.val (.str r), .val (.str w), .un] = .ok (.lst (sm w r)) [.val (.str r), .val (.str w), .un] := hm
  have ht : bfD .tuple [.lst (sm w r)] = some (.tup (sm w r)) := rfl
  rw [b19_eq]
  simp only [evSs, evS, evE, evA, evAs, evB, evIt, R.bind, RS.of, RS.bind, TI.finish, outs_nil, outs_val, outs_un, outs_own, R.of, R.noX, strOf, res, resL, valsL, slotsL, ownIx, putOuts, callR, muR, muOwn, lstAt, ownAt, isBox, mk, nodupB, asg, cmpD, Option.bind, Option.map, tru, List.getElem?_cons_zero, List.getElem?_cons_succ, List.set_cons_zero, List.set_cons_succ, List.cons_append, List.nil_append, Lit.d, List.contains_nil, List.contains_cons, List.length_cons, List.length_nil, List.map_cons, List.map_nil, Bool.not_false, Bool.not_true, Bool.and_true, Bool.true_and, Bool.or_true, Bool.or_false, Bool.false_eq_true, if_true, if_false, reduceCtorEq, Nat.reduceAdd, leLim0, leLim1, leLim2, leLim3, leLim4, leLim5, leLim6, leLim7, leLim8, leLim9, leLim10, leLim11, leLim12, hm, ht]
theorem sp29 (k : Nat) {w r : List Char} (hw : ∀ c ∈ w, c ∈ lows) (ha : asc w) (h0 : 1 ≤ w.length) (h1 : w.length ≤ 3) (h : over w r) (hl : r.length ≤ 1000) : (Fk (k + 1 + 1 + 1 + 1)).fn 29 [.val (.str r), .val (.str w)] = .ok (.tup (sm w r)) [] := by
  rw [f_succ (i := i29) rfl rfl]
  show TI.finish [.val (.str r), .val (.str w)] (evSs (Fk (k + 1 + 1 + 1)) b29 [.val (.str r), .val (.str w)]) = _
  simp only [b29, evSs, evS, evE, evA, evAs, evB, evIt, R.bind, RS.of, RS.bind, TI.finish, outs_nil, outs_val, outs_un, outs_own, R.of, R.noX, strOf, res, resL, valsL, slotsL, ownIx, putOuts, callR, muR, muOwn, lstAt, ownAt, isBox, mk, nodupB, asg, cmpD, Option.bind, Option.map, tru, List.getElem?_cons_zero, List.getElem?_cons_succ, List.set_cons_zero, List.set_cons_succ, List.cons_append, List.nil_append, Lit.d, List.contains_nil, List.contains_cons, List.length_cons, List.length_nil, List.map_cons, List.map_nil, Bool.not_false, Bool.not_true, Bool.and_true, Bool.true_and, Bool.or_true, Bool.or_false, Bool.false_eq_true, if_true, if_false, reduceCtorEq, Nat.reduceAdd, leLim0, leLim1, leLim2, leLim3, leLim4, leLim5, leLim6, leLim7, leLim8, leLim9, leLim10, leLim11, leLim12, sp10 (k + 1) (over_ok hw h) (show r.length ≤ lim by unfold lim; omega), sp20 k hw ha h0 h1, sp11 (k + 1) hw h hl, sp5 (k + 1 + 1) (r := r) hw (show w.length ≤ lim by unfold lim; omega)]
end KL
set_option Elab.async false
set_option linter.all false
set_option maxRecDepth 100000
set_option maxHeartbeats 8000000
namespace KL
open PySem TI
def P60 : Int := 10 ^ 60
def P600 : Int := P60 ^ 10
def P18 : Int := 10 ^ 18
theorem pw1 : binD .pow (.int 10) (.int 60) = some (.int P60) := b_pow (by decide +kernel)
theorem pw2 : binD .pow (.int P60) (.int 10) = some (.int P600) := b_pow (by decide +kernel)
theorem pw3 : binD .pow (.int 10) (.int 18) = some (.int P18) := b_pow (by decide +kernel)
theorem p600 : (0 : Int) < P600 := by decide +kernel
theorem p18 : divOk P18 = true := by decide +kernel
theorem sp6 (k : Nat) (ns : List Int) {a : Int} (h : 0 ≤ a) : ∃ s, (Fk (k + 1)).fn 6 [.val (.scr ns), .val (.int a)] = .ok (dv s) [] := by
  rw [f_succ (i := i6) rfl rfl]
  show ∃ s, TI.finish [.val (.scr ns), .val (.int a)] (evSs (Fk k) b6 [.val (.scr ns), .val (.int a), .un, .un, .un, .un]) = _
  have m1 : ∀ c : Int, binD .mul (.int 59) (.int c) = some (.int (59 * c)) := fun c => b_mul (mul_l (by decide))
  have m2 : ∀ c : Int, binD .mul (.int 2909) (.int c) = some (.int (2909 * c)) := fun c => b_mul (mul_l (by decide))
  have m3 : ∀ c : Int, binD .mul (.int 43) (.int c) = some (.int (43 * c)) := fun c => b_mul (mul_l (by decide))
  have m4 : ∀ c : Int, binD .mul (.int c) (.int 53239) = some (.int (c * 53239)) := fun c => b_mul (mul_r (by decide))
  have m5 : ∀ c : Int, binD .mod (.int c) (.int 2147483249) = some (.int (c % 2147483249)) := fun c => b_mod (by decide)
  have m6 : ∀ c : Int, binD .mod (.int c) (.int 2147483237) = some (.int (c % 2147483237)) := fun c => b_mod (by decide)
  have hsc : bfD .len [.scr ns] = some (.int ns.length) := rfl
  have fin : ∀ a b : Int, (D.lst [.int a, .int b, .int 0]) = dv (a, b, 0) := fun _ _ => rfl
  by_cases hn : a < (ns.length : Int)
  · have hx : ∃ x, idxD (.scr ns) (.int a) = some (.int x) := by
      have hr : a.toNat < ns.length := by omega
      refine ⟨ns[a.toNat], ?_⟩
      show (at? ns a).map D.int = _
      rw [at_pos ns h, List.getElem?_eq_getElem hr]
      rfl
    obtain ⟨x, hx⟩ := hx
    simp only [b6, evSs, evS, evE, evA, evAs, evB, evIt, R.bind, RS.of, RS.bind, TI.finish, outs_nil, outs_val, outs_un, outs_own, R.of, R.noX, strOf, res, resL, valsL, slotsL, ownIx, putOuts, callR, muR, muOwn, lstAt, ownAt, isBox, mk, nodupB, asg, cmpD, Option.bind, Option.map, tru, List.getElem?_cons_zero, List.getElem?_cons_succ, List.set_cons_zero, List.set_cons_succ, List.cons_append, List.nil_append, Lit.d, List.contains_nil, List.contains_cons, List.length_cons, List.length_nil, List.map_cons, List.map_nil, Bool.not_false, Bool.not_true, Bool.and_true, Bool.true_and, Bool.or_true, Bool.or_false, Bool.false_eq_true, if_true, if_false, reduceCtorEq, Nat.reduceAdd, leLim0, leLim1, leLim2, leLim3, leLim4, leLim5, leLim6, leLim7, leLim8, leLim9, leLim10, leLim11, leLim12, hsc, lt_i, hn, decide_true, hx, m1, m2, m3, m4, m5, m6, pw1, pw2, pw3, bf_abs, bf_int, bf_intb, b_mod p600, b_div p18, b_add, fin]
    exact ⟨_, rfl⟩
  · simp only [b6, evSs, evS, evE, evA, evAs, evB, evIt, R.bind, RS.of, RS.bind, TI.finish, outs_nil, outs_val, outs_un, outs_own, R.of, R.noX, strOf, res, resL, valsL, slotsL, ownIx, putOuts, callR, muR, muOwn, lstAt, ownAt, isBox, mk, nodupB, asg, cmpD, Option.bind, Option.map, tru, List.getElem?_cons_zero, List.getElem?_cons_succ, List.set_cons_zero, List.set_cons_succ, List.cons_append, List.nil_append, Lit.d, List.contains_nil, List.contains_cons, List.length_cons, List.length_nil, List.map_cons, List.map_nil, Bool.not_false, Bool.not_true, Bool.and_true, Bool.true_and, Bool.or_true, Bool.or_false, Bool.false_eq_true, if_true, if_false, reduceCtorEq, Nat.reduceAdd, leLim0, leLim1, leLim2, leLim3, leLim4, leLim5, leLim6, leLim7, leLim8, leLim9, leLim10, leLim11, leLim12, hsc, lt_i, hn, decide_false, m1, m2, m3, m4, m5, m6, pw1, pw2, pw3, bf_abs, bf_int, bf_intb, b_mod p600, b_div p18, b_add, fin]
    exact ⟨_, rfl⟩
theorem sp28 (k : Nat) (d : D) : (Fk (k + 1 + 1 + 1)).fn 28 [.val d] = .ok (.bl true) [] := by kernel_rfl
def cE1 : E := (.comp (.bin .add (.o 10) (.o 11)) (.mk (.cons (.n 10) (.cons (.n 11) .nil)) (.zip (.e (.var 8)) (.e (.var 9))) (.lit (.bl true))) [10, 11])
def cE2 : E := (.comp (.neg (.var 12)) (.mk (.n 12) (.seq (.var 8)) (.lit (.bl true))) [12])
def b30f : Ss := (.cons (.set 1 (.call 24 (.cons (.o 0) (.cons (.e (.bin .add (.e (.lit (.int 1))) (.e (.call 7 (.cons (.o 0) (.cons (.e (.lit (.int 3))) .nil)))))) .nil)))) (.cons (.par2 6 7 false false (.call 25 (.cons (.o 0) (.cons (.e (.var 1)) (.cons (.e (.lit (.int 12))) .nil)))) (.call 25 (.cons (.o 0) (.cons (.e (.var 1)) (.cons (.e (.lit (.int 12))) .nil))))) (.cons (.set 2 (.call 26 (.cons (.o 0) (.cons (.e (.var 6)) .nil)))) (.cons (.set 3 (.call 17 (.cons (.e (.var 6)) .nil))) (.cons (.ite (.cmp .ne (.e (.lst (.cons (.e (.call 22 (.cons (.e (.var 6)) .nil))) (.cons (.e (.call 22 (.cons (.e (.var 2)) .nil))) (.cons (.e (.call 27 (.cons (.o 0) (.cons (.e (.var 2)) .nil)))) (.cons (.e (.call 27 (.cons (.o 0) (.cons (.e (.var 6)) .nil)))) .nil)))))) (.e (.bin .mul (.e (.lst (.cons (.e (.var 3)) .nil))) (.e (.lit (.int 4)))))) (.cons (.ret (.lit (.bl false))) .nil) .nil) (.cons (.ite (.or_ (.cmp .ne (.e (.call 21 (.cons (.e (.var 6)) .nil))) (.e (.call 16 (.cons (.e (.var 6)) .nil)))) (.or_ (.cmp .ne (.e (.call 21 (.cons (.e (.call 21 (.cons (.e (.var 2)) .nil))) .nil))) (.o 2)) (.cmp .ne (.e (.call 22 (.cons (.e (.bin .add (.o 6) (.e (.call 21 (.cons (.e (.var 6)) .nil))))) .nil))) (.e (.lit (.str [])))))) (.cons (.ret (.lit (.bl false))) .nil) .nil) (.cons (.ite (.or_ (.cmp .isnot (.e (.call 23 (.cons (.e (.var 6)) (.cons (.e (.var 2)) .nil)))) (.e (.lit (.bl true)))) (.cmp .ne (.e (.call 23 (.cons (.e (.var 6)) (.cons (.e (.var 7)) .nil)))) (.e (.cmp .eq (.o 3) (.e (.call 17 (.cons (.e (.var 7)) .nil))))))) (.cons (.ret (.lit (.bl false))) .nil) .nil) (.cons (.ite (.or_ (.cmp .ne (.e (.call 22 (.cons (.e (.bin .add (.o 6) (.o 7))) .nil))) (.e (.call 22 (.cons (.e (.bin .add (.e (.call 22 (.cons (.e (.var 6)) .nil))) (.e (.call 22 (.cons (.e (.var 7)) .nil))))) .nil)))) (.not_ (.call 23 (.cons (.e (.bin .add (.o 2) (.o 7))) (.cons (.e (.bin .add (.o 6) (.o 7))) .nil))))) (.cons (.ret (.lit (.bl false))) .nil) .nil) (.cons (.ite (.or_ (.cmp .ne (.e (.call 21 (.cons (.e (.bin .add (.o 6) (.o 7))) .nil))) (.e (.bin .add (.e (.call 21 (.cons (.e (.var 7)) .nil))) (.e (.call 21 (.cons (.e (.var 6)) .nil)))))) (.cmp .ne (.e (.call 22 (.cons (.e (.call 21 (.cons (.e (.var 6)) .nil))) .nil))) (.e (.call 21 (.cons (.e (.call 22 (.cons (.e (.var 6)) .nil))) .nil))))) (.cons (.ret (.lit (.bl false))) .nil) .nil) (.cons (.set 4 (.lst (.cons (.e (.call 29 (.cons (.e (.var 6)) (.cons (.e (.var 1)) .nil)))) (.cons (.e (.call 29 (.cons (.e (.call 22 (.cons (.e (.var 6)) .nil))) (.cons (.e (.var 1)) .nil)))) (.cons (.e (.call 29 (.cons (.e (.call 21 (.cons (.e (.var 6)) .nil))) (.cons (.e (.var 1)) .nil)))) (.cons (.e (.call 29 (.cons (.e (.bin .add (.o 6) (.o 7))) (.cons (.e (.var 1)) .nil)))) .nil)))))) (.cons (.par2 8 9 false false (.call 19 (.cons (.e (.var 6)) (.cons (.e (.var 1)) .nil))) (.call 19 (.cons (.e (.var 7)) (.cons (.e (.var 1)) .nil)))) (.cons (.set 5 (.bf .tuple (.cons (.e cE1) .nil))) (.cons (.ret (.cmp .eq (.o 4) (.e (.lst (.cons (.e (.var 8)) (.cons (.e (.var 8)) (.cons (.e (.bf .tuple (.cons (.e cE2) .nil))) (.cons (.e (.var 5)) .nil)))))))) .nil)))))))))))))
theorem b30_eq : b30 = b30f := rfl
theorem zip_map (f g : Char → D) : ∀ w : List Char, zipD (w.map f) (w.map g) = w.map fun a => .tup [f a, g a]
  | [] => rfl
  | a :: w => by simp only [List.map_cons, zipD, zip_map f g w]
theorem sm_app (w u v : List Char) : sm w (u ++ v) = w.map fun a => .int (KM.diff sw a u + KM.diff sw a v) := List.map_congr_left fun a _ => by rw [KM.diff_app]
theorem sm_short (w u : List Char) : sm w (KM.shortL sw u) = sm w u := List.map_congr_left fun a _ => by rw [KM.diff_short sw_sw]
theorem sm_inv (w u : List Char) : sm w (KM.inv sw u) = w.map fun a => .int (-KM.diff sw a u) := List.map_congr_left fun a _ => by rw [KM.diff_inv sw_sw]
theorem ev1 (Φ : Fns) (w u v : List Char) (hl : w.length ≤ 3) (x0 x1 x2 x3 x4 x5 x6 x7 x10 x11 x12 : Slot) : evE Φ cE1 [x0, x1, x2, x3, x4, x5, x6, x7, .val (.tup (sm w u)), .val (.tup (sm w v)), x10, x11, x12] = .ok (.lst (sm w (u ++ v))) [x0, x1, x2, x3, x4, x5, x6, x7, .val (.tup (sm w u)), .val (.tup (sm w v)), x10, x11, x12] := by
  have hi : evIt Φ (.zip (.e (.var 8)) (.e (.var 9))) [x0, x1, x2, x3, x4, x5, x6, x7, .val (.tup (sm w u)), .val (.tup (sm w v)), x10, x11, x12] = .ok ((w.map fun a => ((.int (KM.diff sw a u), .int (KM.diff sw a v)) : D × D)).map fun p => .tup [p.1, p.2]) [x0, x1, x2, x3, x4, x5, x6, x7, .val (.tup (sm w u)), .val (.tup (sm w v)), x10, x11, x12] := by
    have e1 : ∀ l, itemsD (.tup l) = some l := fun _ => rfl
    have e2 := zip_map (fun a => .int (KM.diff sw a u)) (fun a => .int (KM.diff sw a v)) w
    simp only [evSs, evS, evE, evA, evAs, evB, evIt, R.bind, RS.of, RS.bind, TI.finish, outs_nil, outs_val, outs_un, outs_own, R.of, R.noX, strOf, res, resL, valsL, slotsL, ownIx, putOuts, callR, muR, muOwn, lstAt, ownAt, isBox, mk, nodupB, asg, cmpD, Option.bind, Option.map, tru, List.getElem?_cons_zero, List.getElem?_cons_succ, List.set_cons_zero, List.set_cons_succ, List.cons_append, List.nil_append, Lit.d, List.contains_nil, List.contains_cons, List.length_cons, List.length_nil, List.map_cons, List.map_nil, Bool.not_false, Bool.not_true, Bool.and_true, Bool.true_and, Bool.or_true, Bool.or_false, Bool.false_eq_true, if_true, if_false, reduceCtorEq, Nat.reduceAdd, leLim0, leLim1, leLim2, leLim3, leLim4, leLim5, leLim6, leLim7, leLim8, leLim9, leLim10, leLim11, leLim12, e1, sm, e2, List.map_map]
    rfl
  have hm := ev_map2 (Φ := Φ) (elt := .bin .add (.o 10) (.o 11)) (i := 10) (j := 11) (by decide) (fun p => match p.1, p.2 with
    | .int x, .int y => .int (x + y)
    | _, _ => .non) hi rfl rfl (by
    intro p hp
    obtain ⟨a, ha, rfl⟩ := List.mem_map.mp hp
    simp only [evSs, evS, evE, evA, evAs, evB, evIt, R.bind, RS.of, RS.bind, TI.finish, outs_nil, outs_val, outs_un, outs_own, R.of, R.noX, strOf, res, resL, valsL, slotsL, ownIx, putOuts, callR, muR, muOwn, lstAt, ownAt, isBox, mk, nodupB, asg, cmpD, Option.bind, Option.map, tru, List.getElem?_cons_zero, List.getElem?_cons_succ, List.set_cons_zero, List.set_cons_succ, List.cons_append, List.nil_append, Lit.d, List.contains_nil, List.contains_cons, List.length_cons, List.length_nil, List.map_cons, List.map_nil, Bool.not_false, Bool.not_true, Bool.and_true, Bool.true_and, Bool.or_true, Bool.or_false, Bool.false_eq_true, if_true, if_false, reduceCtorEq, Nat.reduceAdd, leLim0, leLim1, leLim2, leLim3, leLim4, leLim5, leLim6, leLim7, leLim8, leLim9, leLim10, leLim11, leLim12, b_add]) (by rw [List.length_map]; unfold lim; omega)
  unfold cE1
  rw [hm, sm_app, List.map_map]
  rfl
theorem ev2 (Φ : Fns) (w u : List Char) (hl : w.length ≤ 3) (x0 x1 x2 x3 x4 x5 x6 x7 x9 x10 x11 x12 : Slot) : evE Φ cE2 [x0, x1, x2, x3, x4, x5, x6, x7, .val (.tup (sm w u)), x9, x10, x11, x12] = .ok (.lst (sm w (KM.inv sw u))) [x0, x1, x2, x3, x4, x5, x6, x7, .val (.tup (sm w u)), x9, x10, x11, x12] := by
  have hi : evIt Φ (.seq (.var 8)) [x0, x1, x2, x3, x4, x5, x6, x7, .val (.tup (sm w u)), x9, x10, x11, x12] = .ok (sm w u) [x0, x1, x2, x3, x4, x5, x6, x7, .val (.tup (sm w u)), x9, x10, x11, x12] := by
    have e1 : ∀ l, itemsD (.tup l) = some l := fun _ => rfl
    simp only [evSs, evS, evE, evA, evAs, evB, evIt, R.bind, RS.of, RS.bind, TI.finish, outs_nil, outs_val, outs_un, outs_own, R.of, R.noX, strOf, res, resL, valsL, slotsL, ownIx, putOuts, callR, muR, muOwn, lstAt, ownAt, isBox, mk, nodupB, asg, cmpD, Option.bind, Option.map, tru, List.getElem?_cons_zero, List.getElem?_cons_succ, List.set_cons_zero, List.set_cons_succ, List.cons_append, List.nil_append, Lit.d, List.contains_nil, List.contains_cons, List.length_cons, List.length_nil, List.map_cons, List.map_nil, Bool.not_false, Bool.not_true, Bool.and_true, Bool.true_and, Bool.or_true, Bool.or_false, Bool.false_eq_true, if_true, if_false, reduceCtorEq, Nat.reduceAdd, leLim0, leLim1, leLim2, leLim3, leLim4, leLim5, leLim6, leLim7, leLim8, leLim9, leLim10, leLim11, leLim12, e1]
  have hm := ev_map (Φ := Φ) (elt := .neg (.var 12)) (i := 12) (fun d => match d with
    | .int x => .int (-x)
    | _ => .non) hi rfl (by
    intro d hd
    obtain ⟨a, ha, rfl⟩ := List.mem_map.mp hd
    have e1 : ∀ x, negD (.int x) = some (.int (-x)) := fun _ => rfl
    simp only [evSs, evS, evE, evA, evAs, evB, evIt, R.bind, RS.of, RS.bind, TI.finish, outs_nil, outs_val, outs_un, outs_own, R.of, R.noX, strOf, res, resL, valsL, slotsL, ownIx, putOuts, callR, muR, muOwn, lstAt, ownAt, isBox, mk, nodupB, asg, cmpD, Option.bind, Option.map, tru, List.getElem?_cons_zero, List.getElem?_cons_succ, List.set_cons_zero, List.set_cons_succ, List.cons_append, List.nil_append, Lit.d, List.contains_nil, List.contains_cons, List.length_cons, List.length_nil, List.map_cons, List.map_nil, Bool.not_false, Bool.not_true, Bool.and_true, Bool.true_and, Bool.or_true, Bool.or_false, Bool.false_eq_true, if_true, if_false, reduceCtorEq, Nat.reduceAdd, leLim0, leLim1, leLim2, leLim3, leLim4, leLim5, leLim6, leLim7, leLim8, leLim9, leLim10, leLim11, leLim12, e1]) (by simp only [sm, List.length_map]; unfold lim; omega)
  unfold cE2
  rw [hm, sm_inv]
  simp only [sm, List.map_map]
  rfl
theorem sm_plain (f : Char → Int) : ∀ w : List Char, plainDs (w.map fun a => .int (f a)) = true
  | [] => rfl
  | a :: w => by simpa [plainDs, plainD] using sm_plain f w
theorem sm_dep (f : Char → Int) : ∀ w : List Char, depDs (w.map fun a => .int (f a)) = 0
  | [] => rfl
  | a :: w => by simpa [depDs, depD] using sm_dep f w
theorem pool_low : ∀ c ∈ pool, c ∈ lows := by decide
theorem is_not (a b : Bool) : cmpD .isnot (.bl a) (.bl b) = some (!(a == b)) := rfl
theorem rep4 (x : D) : binD .mul (.lst [x]) (.int 4) = some (.lst [x, x, x, x]) := by
  show (if (1 * (4 : Int).toNat ≤ lim ∧ -(2 ^ 62) < (4 : Int) ∧ (4 : Int) < 2 ^ 62) then some (D.lst (List.replicate (4 : Int).toNat [x]).flatten) else none) = _
  rw [if_pos (by decide)]
  rfl
theorem tup_l (l : List D) : bfD .tuple [.lst l] = some (.tup l) := rfl
theorem eq4 (x : List Char) : eqT (.lst [.str x, .str x, .str x, .str x]) (.lst [.str x, .str x, .str x, .str x]) = some true := eqT_self rfl (by simp [depD, depDs])
theorem eqS (x : List Char) : eqT (.str x) (.str x) = some true := eqT_self rfl (by simp [depD])
theorem eqs4 (w a b c d : List Char) : eqT (.lst [.tup (sm w a), .tup (sm w b), .tup (sm w c), .tup (sm w d)]) (.lst [.tup (sm w a), .tup (sm w b), .tup (sm w c), .tup (sm w d)]) = some true := eqT_self (by simp only [plainD, plainDs, sm, sm_plain, Bool.and_true]) (by
  simp only [depD, depDs, sm, sm_dep]
  decide)
theorem over_app {w u v : List Char} (hu : over w u) (hv : over w v) : over w (u ++ v) := by
  intro c hc
  rcases List.mem_append.mp hc with h | h
  · exact hu c h
  · exact hv c h
theorem over_inv {w u : List Char} (hu : over w u) : over w (KM.inv sw u) := by
  intro c hc
  obtain ⟨a, ha, rfl⟩ := List.mem_map.mp hc
  rcases hu a (List.mem_reverse.mp ha) with h | ⟨b, hb, rfl⟩
  · exact .inr ⟨a, h, rfl⟩
  · rw [sw_sw]; exact .inl hb
theorem over_short {w u : List Char} (hu : over w u) : over w (KM.shortL sw u) := by
  have : ∀ (u st : List Char), over w st → over w u → over w (KM.run sw st u) := by
    intro u
    induction u with
    | nil => intro st hs _; exact hs
    | cons c u ih =>
      intro st hs hw
      refine ih _ ?_ fun x hx => hw x (List.mem_cons_of_mem _ hx)
      intro x hx
      unfold KM.push at hx
      split at hx
      · exact hs x ((List.dropLast_sublist st).subset hx)
      · rcases List.mem_append.mp hx with hx | hx
        · exact hs x hx
        · rw [List.mem_singleton.mp hx]; exact hw c List.mem_cons_self
  exact this u [] (fun _ h => nomatch h) hu
theorem okw_app {u v : List Char} (hu : okw u) (hv : okw v) : okw (u ++ v) := by
  intro c hc
  rcases List.mem_append.mp hc with h | h
  · exact hu c h
  · exact hv c h
theorem lim_1000 {n : Nat} (h : n ≤ 2000) : n < lim := by unfold lim; omega
theorem sp30 (k : Nat) (s0 : Int × Int × Int) : ∃ s', (Fk (k + 1 + 1 + 1 + 1 + 1)).fn 30 [.own (dv s0)] = .ok (.bl true) [dv s'] := by
  rw [f_succ (i := i30) rfl rfl]
  show ∃ s', TI.finish [.own (dv s0)] (evSs (Fk (k + 1 + 1 + 1 + 1)) b30 [.own (dv s0), .un, .un, .un, .un, .un, .un, .un, .un, .un, .un, .un, .un]) = _
  have b3 : ((3 : Int)).natAbs < 2 ^ 8000 := bigI (by decide) (by decide)
  obtain ⟨q, s1, e1, hq0, hq1⟩ := sp7 (k + 1 + 1 + 1) s0 (n := 3) (by decide) b3
  obtain ⟨w, s2, e2, hwl, hwp, hwa⟩ := sp24 (k + 1) s1 (t := 1 + q) (by omega) (by omega)
  have hw : ∀ c ∈ w, c ∈ lows := fun c hc => pool_low c (hwp c hc)
  have hw1 : 1 ≤ w.length := by omega
  have hw3 : w.length ≤ 3 := by omega
  have hwn : w ≠ [] := by
    intro z
    rw [z] at hw1
    simp at hw1
  obtain ⟨u, s3, e3, hu, hul⟩ := sp25 (k + 1) s2 (m := 12) hw (by omega) hwn (by decide) (by decide)
  obtain ⟨v, s4, e4, hv, hvl⟩ := sp25 (k + 1) s3 (m := 12) hw (by omega) hwn (by decide) (by decide)
  have hul : u.length ≤ 12 := by omega
  have hvl : v.length ≤ 12 := by omega
  have ou := over_ok hw hu
  have ov := over_ok hw hv
  obtain ⟨x, s5, e5, ox, hx, hxl⟩ := sp26 (k + 1) s4 ou (by omega)
  obtain ⟨s6, e6⟩ := sp27 (k + 1) s5 ox hxl
  obtain ⟨s7, e7⟩ := sp27 (k + 1) s6 ou (by omega)
  have lu : u.length < lim := lim_1000 (by omega)
  have lv : v.length < lim := lim_1000 (by omega)
  have lx : x.length < lim := lim_1000 (by omega)
  have luv : (u ++ v).length < lim := lim_1000 (by simp; omega)
  have lxv : (x ++ v).length < lim := lim_1000 (by simp; omega)
  have lui : (u ++ KM.inv sw u).length < lim := lim_1000 (by simp [inv_len]; omega)
  have lsu := short_len u
  have lsv := short_len v
  have lss : (KM.shortL sw u ++ KM.shortL sw v).length < lim := lim_1000 (by simp; omega)
  have c17u := sp17 (k + 1 + 1) ou lu
  have c17v := sp17 (k + 1 + 1) ov lv
  have c22u := sp22 (k + 1) ou lu
  have c22x := sp22 (k + 1) ox lx
  have c22v := sp22 (k + 1) ov lv
  have c21u := sp21 (k + 1) ou (Nat.le_of_lt lu)
  have c21v := sp21 (k + 1) ov (Nat.le_of_lt lv)
  have c21x := sp21 (k + 1) ox (Nat.le_of_lt lx)
  have c21ix := sp21 (k + 1) (inv_ok ox) (by rw [inv_len]; exact Nat.le_of_lt lx)
  have c16u := sp16 (k + 1 + 1) ou (Nat.le_of_lt lu)
  have c22ui := sp22 (k + 1) (okw_app ou (inv_ok ou)) lui
  have c23ux := sp23 (k + 1) ou ox lu lx
  have c23uv := sp23 (k + 1) ou ov lu lv
  have c22uv := sp22 (k + 1) (okw_app ou ov) luv
  have c22ss := sp22 (k + 1) (okw_app (short_ok ou) (short_ok ov)) lss
  have c23xv := sp23 (k + 1) (okw_app ox ov) (okw_app ou ov) lxv luv
  have c21uv := sp21 (k + 1) (okw_app ou ov) (Nat.le_of_lt luv)
  have c22iu := sp22 (k + 1) (inv_ok ou) (by rw [inv_len]; exact lu)
  have c21su := sp21 (k + 1) (short_ok ou) (Nat.le_trans lsu (Nat.le_of_lt lu))
  have c29u := sp29 k hw hwa hw1 hw3 hu (by omega)
  have c29s := sp29 k hw hwa hw1 hw3 (over_short hu) (by omega)
  have c29i := sp29 k hw hwa hw1 hw3 (over_inv hu) (by rw [inv_len]; omega)
  have c29a := sp29 k hw hwa hw1 hw3 (over_app hu hv) (by simp; omega)
  have c19u := sp19 (k + 1 + 1) (r := u) hw (show w.length ≤ lim by unfold lim; omega)
  have c19v := sp19 (k + 1 + 1) (r := v) hw (show w.length ≤ lim by unfold lim; omega)
  have a1 := add_str (u := u) (v := KM.inv sw u) (by rw [inv_len]; unfold lim; omega)
  have a2 := add_str (u := u) (v := v) (by unfold lim; omega)
  have a3 := add_str (u := x) (v := v) (by unfold lim; omega)
  have a4 := add_str (u := KM.shortL sw u) (v := KM.shortL sw v) (by unfold lim; omega)
  have a5 := add_str (u := KM.inv sw v) (v := KM.inv sw u) (by rw [inv_len, inv_len]; unfold lim; omega)
  have r1 := KM.inv_inv sw_sw x
  have r2 := KM.short_self sw_sw u
  have r3 := KM.short_app sw_sw u v
  have r4 : KM.shortL sw (x ++ v) = KM.shortL sw (u ++ v) := by
    rw [← KM.short_app sw_sw x v, hx, KM.short_app sw_sw u v]
  have r5 := KM.inv_app (sw := sw) u v
  have r6 := KM.short_inv sw_sw u
  have r7 := sm_short w u
  refine ⟨s7, ?_⟩
  rw [b30_eq]
  simp only [b30f, evSs, evS, evE, evA, evAs, evB, evIt, R.bind, RS.of, RS.bind, TI.finish, outs_nil, outs_val, outs_un, outs_own, R.of, R.noX, strOf, res, resL, valsL, slotsL, ownIx, putOuts, callR, muR, muOwn, lstAt, ownAt, isBox, mk, nodupB, asg, cmpD, Option.bind, Option.map, tru, List.getElem?_cons_zero, List.getElem?_cons_succ, List.set_cons_zero, List.set_cons_succ, List.cons_append, List.nil_append, Lit.d, List.contains_nil, List.contains_cons, List.length_cons, List.length_nil, List.map_cons, List.map_nil, Bool.not_false, Bool.not_true, Bool.and_true, Bool.true_and, Bool.or_true, Bool.or_false, Bool.false_eq_true, if_true, if_false, reduceCtorEq, Nat.reduceAdd, leLim0, leLim1, leLim2, leLim3, leLim4, leLim5, leLim6, leLim7, leLim8, leLim9, leLim10, leLim11, leLim12, e1, b_add, e2, e3, e4, e5, c17u, c22u, c22x, e6, e7, hx, rep4, eq4, c21u, c21x, c21ix, c16u, a1, c22ui, r1, r2, eqS, c23ux, c23uv, c17v, is_not, eqT_bl, eqT_str, beq_self_eq_true, a2, c22uv, c22v, a4, c22ss, r3, a3, c23xv, r4, c21uv, c21v, a5, r5, c22iu, r6, c21su, c29u, c29s, c29i, c29a, r7, c19u, c19v, ev1 _ w u v hw3, ev2 _ w u hw3, tup_l, eqs4, Bool.not_true]
end KL
set_option Elab.async false
set_option linter.all false
set_option maxRecDepth 100000
set_option maxHeartbeats 8000000
namespace KL
open PySem TI
def lRB : Ss := (.cons (.ite (.not_ (.call 30 (.cons (.o 3) .nil))) (.cons (.ret (.lit (.bl false))) .nil) .nil) .nil)
def lBd : Ss := (.cons (.setO 3 (.call 6 (.cons (.e (.var 0)) (.cons (.e (.var 1)) .nil)))) (.cons (.for_ (.n 4) (.rng1 (.e (.lit (.int 4)))) lRB) (.cons (.ite (.not_ (.call 28 (.cons (.e (.frz 3)) .nil))) (.cons (.ret (.lit (.bl false))) .nil) .nil) .nil)))
def lIt : It := (.rng1 (.e (.bf .max2 (.cons (.e (.lit (.int 1))) (.cons (.e (.bf .min2 (.cons (.e (.lit (.int 10))) (.cons (.e (.bf .len (.cons (.o 0) .nil))) .nil)))) .nil)))))
def lT1 : E := (.lst (.cons (.e (.call 22 (.cons (.e (.lit (.str ['a', 'b', 'B', 'A', 'c']))) .nil))) (.cons (.e (.call 22 (.cons (.e (.lit (.str ['a', 'b', 'A', 'B']))) .nil))) (.cons (.e (.call 21 (.cons (.e (.lit (.str ['a', 'b', 'C']))) .nil))) (.cons (.e (.call 23 (.cons (.e (.lit (.str ['a', 'A']))) (.cons (.e (.lit (.str []))) .nil)))) (.cons (.e (.call 29 (.cons (.e (.lit (.str ['a', 'a', 'b', 'A']))) (.cons (.e (.lit (.str ['a', 'b']))) .nil)))) (.cons (.e (.call 29 (.cons (.e (.lit (.str []))) (.cons (.e (.lit (.str ['x', 'y', 'z']))) .nil)))) .nil)))))))
def lT2 : E := (.cmp .eq (.e (.bin .add (.o 2) (.e (.lst (.cons (.e (.glob 0)) .nil))))) (.e (.lst (.cons (.e (.lit (.str ['c']))) (.cons (.e (.lit (.str ['a', 'b', 'A', 'B']))) (.cons (.e (.lit (.str ['c', 'B', 'A']))) (.cons (.e (.lit (.bl true))) (.cons (.e (.tup (.cons (.e (.lit (.int 1))) (.cons (.e (.lit (.int 1))) .nil)))) (.cons (.e (.tup (.cons (.e (.lit (.int 0))) (.cons (.e (.lit (.int 0))) (.cons (.e (.lit (.int 0))) .nil))))) (.cons (.e (.lit (.int 3))) .nil))))))))))
theorem b31_eq : b31 = .cons (.for_ (.n 1) lIt lBd) (.cons (.set 2 lT1) (.cons (.ret lT2) .nil)) := rfl
theorem l_turn (k : Nat) (ns : List Int) {a : Int} (ha : 0 ≤ a) (t3 t4 : Slot) : ∃ t3' t4', evSs (Fk (k + 1 + 1 + 1 + 1 + 1)) lBd [.val (.scr ns), .val (.int a), .un, t3, t4] = .nx [.val (.scr ns), .val (.int a), .un, t3', t4'] := by
  obtain ⟨s0, e6⟩ := sp6 (k + 1 + 1 + 1 + 1) ns ha
  obtain ⟨s1, f1⟩ := sp30 k s0
  obtain ⟨s2, f2⟩ := sp30 k s1
  obtain ⟨s3, f3⟩ := sp30 k s2
  obtain ⟨s4, f4⟩ := sp30 k s3
  have e28 := sp28 (k + 1 + 1) (dv s4)
  have hr : rngD [.int 4] = some [.int 0, .int 1, .int 2, .int 3] := rfl
  have hb : ∀ s, isBox (dv s) = true := fun _ => rfl
  refine ⟨.val (dv s4), .val (.int 3), ?_⟩
  simp only [lBd, lRB, evSs, evS, evE, evA, evAs, evIt, R.bind, RS.of, RS.bind, R.of, valsL, slotsL, ownIx, putOuts, callR, nodupB, asg, Option.bind, Option.map, tru, List.getElem?_cons_zero, List.getElem?_cons_succ, List.set_cons_zero, List.set_cons_succ, Lit.d, List.contains_nil, List.length_cons, List.length_nil, Bool.not_false, Bool.not_true, Bool.and_true, Bool.false_eq_true, if_true, if_false, loopF, e6, hb, hr, f1, f2, f3, f4, e28]
theorem l_loop (k : Nat) (ns : List Int) : ∀ (l : List D) (t1 t3 t4 : Slot), (∀ d ∈ l, ∃ a : Int, 0 ≤ a ∧ d = .int a) → ∃ t1' t3' t4', loopF (fun d e => match asg (.n 1) d e with
      | some e => evSs (Fk (k + 1 + 1 + 1 + 1 + 1)) lBd e
      | none => .bad) l [.val (.scr ns), t1, .un, t3, t4] = .nx [.val (.scr ns), t1', .un, t3', t4']
  | [], t1, t3, t4, _ => ⟨t1, t3, t4, rfl⟩
  | d :: l, t1, t3, t4, h => by
    obtain ⟨a, ha, rfl⟩ := h d List.mem_cons_self
    obtain ⟨u3, u4, e⟩ := l_turn k ns ha t3 t4
    obtain ⟨v1, v3, v4, e2⟩ := l_loop k ns l (.val (.int a)) u3 u4 fun x hx => h x (List.mem_cons_of_mem _ hx)
    refine ⟨v1, v3, v4, ?_⟩
    show (evSs (Fk (k + 1 + 1 + 1 + 1 + 1)) lBd [.val (.scr ns), .val (.int a), .un, t3, t4]).bind _ = _
    rw [e]
    exact e2
theorem okc {w : List Char} (h : (w.all fun c => decide (c ∈ lows) || decide (c ∈ caps)) = true) : okw w := by
  intro c hc
  have := List.all_eq_true.mp h c hc
  rcases Bool.or_eq_true_iff.mp this with h | h
  · exact .inl (of_decide_eq_true h)
  · exact .inr (of_decide_eq_true h)
theorem sp31 (k : Nat) (ns : List Int) (hn : ns.length ≤ 63) : (Fk (k + 1 + 1 + 1 + 1 + 1 + 1)).fn 31 [.val (.scr ns)] = .ok (.bl true) [] := by
  rw [f_succ (i := i31) rfl rfl]
  show TI.finish [.val (.scr ns)] (evSs (Fk (k + 1 + 1 + 1 + 1 + 1)) b31 [.val (.scr ns), .un, .un, .un, .un]) = _
  obtain ⟨m, hi⟩ : ∃ m : Int, evIt (Fk (k + 1 + 1 + 1 + 1 + 1)) lIt [.val (.scr ns), .un, .un, .un, .un] = .ok (rangeD 0 m) [.val (.scr ns), .un, .un, .un, .un] := by
    have hsc : bfD .len [.scr ns] = some (.int ns.length) := rfl
    have h2 : ∀ a b : Int, bfD .min2 [.int a, .int b] = some (.int (if b < a then b else a)) := fun _ _ => rfl
    have h3 : ∀ a b : Int, bfD .max2 [.int a, .int b] = some (.int (if b > a then b else a)) := fun _ _ => rfl
    refine ⟨if (if (ns.length : Int) < 10 then (ns.length : Int) else 10) > 1 then (if (ns.length : Int) < 10 then (ns.length : Int) else 10) else 1, ?_⟩
    have hr : ∀ m : Int, -(2 ^ 62) ≤ m → m < 2 ^ 62 → rngD [.int m] = some (rangeD 0 m) := fun m h1 h2 => if_pos ⟨h1, h2⟩
    have hr := hr (if (if (ns.length : Int) < 10 then (ns.length : Int) else 10) > 1 then (if (ns.length : Int) < 10 then (ns.length : Int) else 10) else 1) (by split <;> split <;> omega) (by split <;> split <;> omega)
    simp only [lIt, evE, evA, evAs, evIt, R.bind, R.of, resL, res, valsL, Option.bind, Option.map, List.getElem?_cons_zero, Lit.d, hsc, h2, h3, hr]
  obtain ⟨t1, t3, t4, el⟩ := l_loop k ns (rangeD 0 m) .un .un .un (by
    intro d hd
    obtain ⟨i, _, rfl⟩ := List.mem_map.mp hd
    exact ⟨_, by omega, rfl⟩)
  have h1 : evS (Fk (k + 1 + 1 + 1 + 1 + 1)) (.for_ (.n 1) lIt lBd) [.val (.scr ns), .un, .un, .un, .un] = .nx [.val (.scr ns), t1, .un, t3, t4] := by
    rw [evS, hi]
    exact el
  have q1 := sp22 (k + 1 + 1) (w := ['a', 'b', 'B', 'A', 'c']) (okc (by decide)) (by decide)
  have q2 := sp22 (k + 1 + 1) (w := ['a', 'b', 'A', 'B']) (okc (by decide)) (by decide)
  have q3 := sp21 (k + 1 + 1) (w := ['a', 'b', 'C']) (okc (by decide)) (by decide)
  have q4 := sp23 (k + 1 + 1) (u := ['a', 'A']) (w := []) (okc (by decide)) (okc (by decide)) (by decide) (by decide)
  have q5 := sp29 (k + 1) (w := ['a', 'b']) (r := ['a', 'a', 'b', 'A']) (by decide) (by unfold asc; decide) (by decide) (by decide) (by
    intro c hc
    simp only [List.mem_cons, List.not_mem_nil, or_false] at hc
    rcases hc with rfl | rfl | rfl | rfl
    · exact .inl (by decide)
    · exact .inl (by decide)
    · exact .inl (by decide)
    · exact .inr ⟨'a', by decide, by decide⟩) (by decide)
  have q6 := sp29 (k + 1) (w := ['x', 'y', 'z']) (r := []) (by decide) (by unfold asc; decide) (by decide) (by decide) (fun _ h => nomatch h) (by decide)
  have z1 : KM.shortL sw ['a', 'b', 'B', 'A', 'c'] = ['c'] := by decide
  have z2 : KM.shortL sw ['a', 'b', 'A', 'B'] = ['a', 'b', 'A', 'B'] := by decide
  have z3 : KM.inv sw ['a', 'b', 'C'] = ['c', 'B', 'A'] := by decide
  have z4 : (KM.shortL sw ['a', 'A'] == KM.shortL sw []) = true := by decide
  have z5 : sm ['a', 'b'] ['a', 'a', 'b', 'A'] = [.int 1, .int 1] := by rfl
  have z6 : sm ['x', 'y', 'z'] [] = [.int 0, .int 0, .int 0] := by rfl
  have ha : ∀ l : List D, ∀ x, l.length ≤ 6 → binD .add (.lst l) (.lst [x]) = some (.lst (l ++ [x])) := by
    intro l x h
    exact if_pos (by simp only [List.length_cons, List.length_nil]; unfold lim; omega)
  have hb := ha [.str ['c'], .str ['a', 'b', 'A', 'B'], .str ['c', 'B', 'A'], .bl true, .tup [.int 1, .int 1], .tup [.int 0, .int 0, .int 0]] (.int 3) (by decide)
  have hq : eqT (.lst [.str ['c'], .str ['a', 'b', 'A', 'B'], .str ['c', 'B', 'A'], .bl true, .tup [.int 1, .int 1], .tup [.int 0, .int 0, .int 0], .int 3]) (.lst [.str ['c'], .str ['a', 'b', 'A', 'B'], .str ['c', 'B', 'A'], .bl true, .tup [.int 1, .int 1], .tup [.int 0, .int 0, .int 0], .int 3]) = some true := eqT_self rfl (by decide)
  rw [b31_eq, evSs, h1, RS.bind_nx]
  simp only [lT1, lT2, evSs, evS, evE, evA, evAs, evB, evIt, R.bind, RS.of, RS.bind, TI.finish, outs_nil, outs_val, outs_un, outs_own, R.of, R.noX, strOf, res, resL, valsL, slotsL, ownIx, putOuts, callR, muR, muOwn, lstAt, ownAt, isBox, mk, nodupB, asg, cmpD, Option.bind, Option.map, tru, List.getElem?_cons_zero, List.getElem?_cons_succ, List.set_cons_zero, List.set_cons_succ, List.cons_append, List.nil_append, Lit.d, List.contains_nil, List.contains_cons, List.length_cons, List.length_nil, List.map_cons, List.map_nil, Bool.not_false, Bool.not_true, Bool.and_true, Bool.true_and, Bool.or_true, Bool.or_false, Bool.false_eq_true, if_true, if_false, reduceCtorEq, Nat.reduceAdd, leLim0, leLim1, leLim2, leLim3, leLim4, leLim5, leLim6, leLim7, leLim8, leLim9, leLim10, leLim11, leLim12, q1, q2, q3, q4, q5, q6, z1, z2, z3, z4, z5, z6, g0, hb, hq]
end KL
open PySem PySem.W PySem.Calls PyProof.Rows
set_option Elab.async false
set_option linter.all false
set_option maxRecDepth 100000
set_option maxHeartbeats 0
namespace KL
open PySem PySem.Spec L2 TI
def hfn : List He.DefD := tbl.map FnI.d
def hfa : List He.Fa := faOf tbl blts gls
abbrev HR : PySem.W.OpenRow := PySem.W.OpenLaw.row PySem.Challenge.rw_cancelwalks_k01_rows_that_cancel
abbrev hk : PySem.W.Hook := He.hookD 4 hfa hfn
def hob (s : PySem.W.SharedT) : He.AlD := He.obsDG 4 hfa hfn (HandSHeadRun.getT s)
theorem hob_eq (s : PySem.W.SharedT) : hob s = hk.obs s.abs := He.obsDG_eq (HandSHeadRun.getT_eq s)
def loose : List Str := [("StepError" : Str), ("InvalidRow" : Str), ("InvalidOperation" : Str), ("MAX_LETTERS" : Str), ("LETTERS" : Str), ("CAPITALS" : Str), ("is_ascending" : Str), ("is_word" : Str), ("is_letters" : Str), ("is_row" : Str), ("require_row" : Str), ("require_letters" : Str), ("is_over" : Str), ("require_known" : Str), ("other_sign" : Str), ("opposite_in" : Str), ("short_in" : Str), ("sums_in" : Str), ("opposite" : Str), ("short" : Str), ("are_alike" : Str), ("sums" : Str), ("_law_dice" : Str), ("_law_roll" : Str), ("_law_one_of" : Str), ("_law_mixed" : Str), ("_law_letters" : Str), ("_law_swapped" : Str), ("_law_opposite" : Str), ("_law_short" : Str), ("_law_signs" : Str), ("_law_row" : Str), ("_law_sums" : Str), ("_law_thrown" : Str), ("_law_cancelled" : Str), ("_law_kinds_right" : Str), ("_law_right" : Str)]
theorem hrun (w : World) : HandSHeadRun.RunEq HR (PySem.W.view HR.prog [40]) hk hob 3000 loose w := by
  intro os
  kernel_rfl
end KL
open PySem PySem.W PySem.Calls PyProof.Rows
theorem KL.holds_of (hlaw : ∀ ns : List Int, ns.length ≤ 63 → (TI.fnsOf KL.tbl KL.gls 8).fn 31 [.val (.scr ns)] = .ok (.bl true) []) : PySem.Challenge.rw_cancelwalks_k01_rows_that_cancel.Holds := by
  w_on; o_law
  refine HandSHeadRun.head_any (r := OpenLaw.row PySem.Challenge.rw_cancelwalks_k01_rows_that_cancel) (q := view (OpenLaw.row PySem.Challenge.rw_cancelwalks_k01_rows_that_cancel).prog [40]) (H := KL.hk) (ob := KL.hob) (M := 3000) (loose := KL.loose) (d := HandSHeadRun.topDef (OpenLaw.row PySem.Challenge.rw_cancelwalks_k01_rows_that_cancel).prog 40) (kwd := []) KL.hob_eq
    (by kernel_rfl) (fun s => by kernel_rfl) KL.hrun (by kernel_rfl) (by kernel_rfl) (by kernel_rfl) (by rfl) (by first | assumption | decide +kernel) (by decide +kernel) ⟨rfl, rfl, rfl, rfl, rfl, by decide +kernel⟩ ?hw ?hc
  case hw => w_witness2
  case hc =>
    refine TI.walk_G (l := PySem.Challenge.rw_cancelwalks_k01_rows_that_cancel) (n := 63) (k := KL.i31.lev + 1) (x := "_law_script") (CX := fun w => L2.CX (PySem.Challenge.rw_cancelwalks_k01_rows_that_cancel).prog w) rfl (by decide) (by kernel_rfl) ⟨rfl, by decide, by decide⟩ ?F (fun w H s e s' z => ?z)
    case z =>
      obtain ⟨_, _, _, _, _, _, _, _, _, _, _, _, z⟩ := z
      exact z
    intro w mg fa h Y G hmg0
    have hmg : mg ("law" : PySem.Str) = some (.ref fa) := by
      have e : (HandSHeadRun.topDef (OpenLaw.row PySem.Challenge.rw_cancelwalks_k01_rows_that_cancel).prog 40).name = ("law" : PySem.Str) := by kernel_rfl
      rw [← e]
      exact hmg0
    exact TI.law_tbl (tys := KL.tyl) (blt := KL.blts) (f := 31) (i := KL.i31) (k := 8) (by decide +kernel) (by decide +kernel) (by decide +kernel) KL.chk rfl (by decide) rfl rfl hlaw w mg fa h Y G hmg
set_option Elab.async false
theorem PySem.Challenge.cw_cancelwalks_k01_rows_that_cancel_holds : PySem.Challenge.rw_cancelwalks_k01_rows_that_cancel.Holds := by
  exact KL.holds_of fun ns hn => KL.sp31 2 ns hn
