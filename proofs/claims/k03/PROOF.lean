import PyProof.Rows.All
import Wide.All
import OpenK.AllK
import Wide.FinOn
import Lean
import HandS.Head0
import HandS.Head1
import HandS.Head2
import PyProof.P3Statements
import HandS.List
import HandS.Codes
import KE.KDictKeyed
import KE.LtData
import HandS.Base
import HandS.Call
import HandS.Dict
import HandS.Exc
import HandS.Lambda
import HandS.TupMul
import KE.KUnpack
import PyProof.StrOps2
import PyProof.WalksMore
import PyProof.WalkInts
import HandS.TupAny
import HandS.Wide
import HandS.Style
import KE.DataEq
import HandS.ExcInit
import HandS.WordsExc
import HandS.ExcField
import HandS.Flow
import HandS.IsInst
import HandS.Iter
import HandS.Conv
import KE.SortData
import PyProof.ReprRoads
import OpenK.KMeth
import HandS.Comp
import HandS.Zip
import HandS.Walk
import HandS.Deep
import HandS.More
import HandS.Text
import HandS.Small
import HandS.TryMany
import HandS.Ends
import HandS.HeadEnd
import HandS.HeadHook2
import HandS.HeadHook4
import HandS.EndBits
import PyProof.ReprText
import PyProof.Rows.RegStrFacts
import PySem.Challenge.RW_allbids_k03_whole_plain_lists
set_option Elab.async false
set_option linter.all false
section
set_option autoImplicit false
/-! Mi1: a small evaluator over data trees -/
namespace Mi
open PySem

abbrev Key := Sum Int Str

/-- values: trees; lists that nobody changes any more are trees, too; loc: an object of the store -/
inductive D where
  | non | bl (b : Bool) | int (i : Int) | str (x : Str)
  | tup (xs : List D) | lst (xs : List D) | scr (xs : List D)
  | ins (c : Nat) (fs : List (Nat × D))
  | dct (kvs : List (Key × D))
  | fn (f : Nat) | cls (c : Nat) | ty (n : String)
  | loc (l : Nat)

inductive MO where
  | lst (xs : List D)
  | dk (kvs : List (Key × D))
  | dn (z : Bool) (kvs : List (D × D))
  | ins (c : Nat) (fs : List (Nat × D))

mutual
def eqD : D → D → Bool
  | .non, .non => true
  | .bl a, .bl b => a == b
  | .int a, .int b => decide (a = b)
  | .str a, .str b => decide (a = b)
  | .tup a, .tup b => eqDs a b
  | .lst a, .lst b => eqDs a b
  | .scr a, .scr b => eqDs a b
  | .ins c a, .ins d b => decide (c = d) && eqFs a b
  | .dct a, .dct b => eqKs a b
  | .fn a, .fn b => decide (a = b)
  | .cls a, .cls b => decide (a = b)
  | .ty a, .ty b => decide (a = b)
  | .loc a, .loc b => decide (a = b)
  | _, _ => false
def eqDs : List D → List D → Bool
  | [], [] => true
  | a :: x, b :: y => eqD a b && eqDs x y
  | _, _ => false
def eqFs : List (Nat × D) → List (Nat × D) → Bool
  | [], [] => true
  | (i, a) :: x, (j, b) :: y => decide (i = j) && (eqD a b && eqFs x y)
  | _, _ => false
def eqKs : List (Key × D) → List (Key × D) → Bool
  | [], [] => true
  | (i, a) :: x, (j, b) :: y => decide (i = j) && (eqD a b && eqKs x y)
  | _, _ => false
end

mutual
theorem eqD_iff : ∀ (a b : D), eqD a b = true ↔ a = b
  | .non, b => by cases b <;> simp [eqD]
  | .bl a, b => by cases b <;> simp [eqD]
  | .int a, b => by cases b <;> simp [eqD]
  | .str a, b => by cases b <;> simp [eqD]
  | .tup a, b => by cases b <;> simp [eqD, eqDs_iff a]
  | .lst a, b => by cases b <;> simp [eqD, eqDs_iff a]
  | .scr a, b => by cases b <;> simp [eqD, eqDs_iff a]
  | .ins c a, b => by cases b <;> simp [eqD, eqFs_iff a]
  | .dct a, b => by cases b <;> simp [eqD, eqKs_iff a]
  | .fn a, b => by cases b <;> simp [eqD]
  | .cls a, b => by cases b <;> simp [eqD]
  | .ty a, b => by cases b <;> simp [eqD]
  | .loc a, b => by cases b <;> simp [eqD]
theorem eqDs_iff : ∀ (a b : List D), eqDs a b = true ↔ a = b
  | [], b => by cases b <;> simp [eqDs]
  | a :: x, b => by cases b <;> simp [eqDs, eqD_iff a, eqDs_iff x]
theorem eqFs_iff : ∀ (a b : List (Nat × D)), eqFs a b = true ↔ a = b
  | [], b => by cases b <;> simp [eqFs]
  | (i, a) :: x, b => by
    cases b with
    | nil => simp [eqFs]
    | cons p y =>
      obtain ⟨j, b⟩ := p
      simp [eqFs, eqD_iff a, eqFs_iff x, and_assoc]
theorem eqKs_iff : ∀ (a b : List (Key × D)), eqKs a b = true ↔ a = b
  | [], b => by cases b <;> simp [eqKs]
  | (i, a) :: x, b => by
    cases b with
    | nil => simp [eqKs]
    | cons p y =>
      obtain ⟨j, b⟩ := p
      simp [eqKs, eqD_iff a, eqKs_iff x, and_assoc]
end
instance : DecidableEq D := fun a b => if h : eqD a b = true then isTrue ((eqD_iff a b).mp h) else isFalse fun e => h ((eqD_iff a b).mpr e)

instance : DecidableEq MO := fun a b => match a, b with
  | .lst x, .lst y => if h : x = y then isTrue (by rw [h]) else isFalse fun e => h (by cases e; rfl)
  | .dk x, .dk y => if h : x = y then isTrue (by rw [h]) else isFalse fun e => h (by cases e; rfl)
  | .dn z x, .dn z' y => if h : z = z' ∧ x = y then isTrue (by rw [h.1, h.2]) else isFalse fun e => h (by cases e; exact ⟨rfl, rfl⟩)
  | .ins c x, .ins d y => if h : c = d ∧ x = y then isTrue (by rw [h.1, h.2]) else isFalse fun e => h (by cases e; exact ⟨rfl, rfl⟩)
  | .lst _, .dk _ => isFalse fun e => nomatch e
  | .lst _, .dn _ _ => isFalse fun e => nomatch e
  | .lst _, .ins _ _ => isFalse fun e => nomatch e
  | .dk _, .lst _ => isFalse fun e => nomatch e
  | .dk _, .dn _ _ => isFalse fun e => nomatch e
  | .dk _, .ins _ _ => isFalse fun e => nomatch e
  | .dn _ _, .lst _ => isFalse fun e => nomatch e
  | .dn _ _, .dk _ => isFalse fun e => nomatch e
  | .dn _ _, .ins _ _ => isFalse fun e => nomatch e
  | .ins _ _, .lst _ => isFalse fun e => nomatch e
  | .ins _ _, .dk _ => isFalse fun e => nomatch e
  | .ins _ _, .dn _ _ => isFalse fun e => nomatch e
abbrev Sto := List MO
abbrev Env := List (Option D)

inductive R where
  | ok (d : D) (S : Sto)
  | ex (c : Nat) (fs : List (Nat × D)) (S : Sto)
  | bad
inductive RL where
  | ok (ds : List D) (S : Sto)
  | ex (c : Nat) (fs : List (Nat × D)) (S : Sto)
  | bad
inductive RT where
  | ok (b : Bool) (S : Sto)
  | ex (c : Nat) (fs : List (Nat × D)) (S : Sto)
  | bad
/-- what is walked: the items, and the store's lists that they stand in -/
inductive RI where
  | ok (ds : List D) (g : List (Nat × List D)) (S : Sto)
  | ex (c : Nat) (fs : List (Nat × D)) (S : Sto)
  | bad
inductive RS where
  | nx (v : Env) (S : Sto)
  | rt (d : D) (S : Sto)
  | bk (v : Env) (S : Sto)
  | ct (v : Env) (S : Sto)
  | ex (c : Nat) (fs : List (Nat × D)) (v : Env) (S : Sto)
  | bad

/-! ### syntax -/
inductive Blt where
  | len | abs | int | str | sum | any | all | min | max | sorted | list | tuple | repr | isinst
  deriving DecidableEq
inductive Bmt where
  | append | extend | pop | index | count | get | keys | values | items | join | split | insert
  deriving DecidableEq
inductive MT where
  | nm (i : Nat)
  | tp (ts : List MT)

mutual
inductive ME where
  | cst (d : D)
  | var (i : Nat)
  | glb (g : Nat)
  | bin (o : Operator) (a b : ME)
  | neg (a : ME)
  | cmp (o : CmpOp) (a b : ME)
  | chn (o o' : CmpOp) (a b c : ME)
  | and (es : List ME)
  | or (es : List ME)
  | not (q : MQ)
  | ite (c : MQ) (a b : ME)
  | tup (es : List ME)
  | lst (es : List ME)
  | dct (ks : List Key) (es : List ME)
  | idx (a i : ME)
  | slc (a : ME) (lo hi : Option ME)
  | att (a : ME) (f : Nat)
  | call (f : Nat) (es : List ME)
  | mk (fz : Bool) (c : Nat) (es : List ME)
  | mth (m : Nat) (o : ME) (es : List ME)
  | blt (b : Blt) (es : List ME)
  | bmt (m : Bmt) (o : ME) (es : List ME)
  | lc (e : ME) (t : MT) (it : MI) (c : Option MQ) (ws : List Nat)
  | lc2 (e : ME) (t : MT) (it : MI) (c : Option MQ) (t1 : MT) (it1 : MI) (c1 : Option MQ) (ws ws1 : List Nat)
  | alc (e : ME)
  | cal (i : Nat) (es : List ME)
  | why (w : Nat) (e : ME)
  /-- {}: a dict whose keys are tuples -/
  | dnw
  /-- a == b by an own __eq__ -/
  | eqo (m : Nat) (a b : ME)
  /-- e[::-1] -/
  | rev (e : ME)
  /-- isinstance(x, C), C an own class -/
  | isc (es : List ME)
  /-- what e tells while the dict that the name i holds is walked -/
  | thw (i : Nat) (e : ME)
/-- a test -/
inductive MQ where
  | v (e : ME)
  | and (qs : List MQ)
  | or (qs : List MQ)
  | not (q : MQ)
  | ite (c a b : MQ)
inductive MI where
  | seq (e : ME)
  | rg1 (e : ME)
  | rg2 (a b : ME)
  | zip (a b : ME)
  | enm (e : ME)
  /-- the keys of the dict that the name i holds, tuples; it is locked -/
  | dky (i : Nat)
end
/-- a target of a tuple that is stored apart: a name, or x[i] -/
inductive MX where
  | t (t : MT)
  | sub (x i : ME)
inductive MS where
  | asg (t : MT) (e : ME)
  | asgx (ts : List MX) (e : ME)
  | aug (i : Nat) (o : Operator) (e : ME)
  | augI (x i : ME) (o : Operator) (e : ME)
  | setI (x i e : ME)
  | setA (x : ME) (f : Nat) (e : ME)
  | augA (x : ME) (f : Nat) (o : Operator) (e : ME)
  | exp (e : ME)
  | ret (e : ME)
  | retN
  | iff (c : MQ) (a b : List MS)
  | whl (c : MQ) (b : List MS)
  | for (t : MT) (it : MI) (b : List MS)
  | pas | brk | cnt
  | rse (c : Nat) (es : List ME)
  | never
end Mi
end
section
set_option autoImplicit false
/-! Mi2: the evaluator -/
namespace Mi
open PySem

/-! ### closed below n -/
mutual
def lf (n : Nat) : D → Bool
  | .loc l => decide (l < n)
  | .tup xs => lfs n xs
  | .lst xs => lfs n xs
  | .scr xs => lfs n xs
  | .ins _ fs => lfF n fs
  | .dct kvs => lfK n kvs
  | _ => true
def lfs (n : Nat) : List D → Bool
  | [] => true
  | d :: r => lf n d && lfs n r
def lfF (n : Nat) : List (Nat × D) → Bool
  | [] => true
  | (_, d) :: r => lf n d && lfF n r
def lfK (n : Nat) : List (Key × D) → Bool
  | [] => true
  | (_, d) :: r => lf n d && lfK n r
end
def lfM (n : Nat) : MO → Bool
  | .lst xs => lfs n xs
  | .dk kvs => lfK n kvs
  | .dn _ kvs => lfs n (kvs.map (·.2))
  | .ins _ fs => lfF n fs

/-! ### data -/
mutual
def toP : D → Option PyData
  | .non => some .none
  | .bl b => some (.bool b)
  | .int i => some (.int i)
  | .str x => some (.str x)
  | .tup xs => (toPs xs).map .tuple
  | .lst xs => (toPs xs).map .list
  | _ => none
def toPs : List D → Option (List PyData)
  | [] => some []
  | d :: r => match toP d, toPs r with
    | some p, some ps => some (p :: ps)
    | _, _ => none
end
def kP : Key → PyData
  | .inl i => .int i
  | .inr x => .str x
mutual
/-- data with dicts -/
def toD : D → Option PyData
  | .non => some .none
  | .bl b => some (.bool b)
  | .int i => some (.int i)
  | .str x => some (.str x)
  | .tup xs => (toDs xs).map .tuple
  | .lst xs => (toDs xs).map .list
  | .dct kvs => (toDk kvs).map .dict
  | _ => none
def toDs : List D → Option (List PyData)
  | [] => some []
  | d :: r => match toD d, toDs r with
    | some p, some ps => some (p :: ps)
    | _, _ => none
def toDk : List (Key × D) → Option (List (PyData × PyData))
  | [] => some []
  | (k, d) :: r => match toD d, toDk r with
    | some p, some ps => some ((kP k, p) :: ps)
    | _, _ => none
end
/-- a list of the store as it stands -/
def der (S : Sto) : D → D
  | .loc l => match S[l]? with
    | some (.lst xs) => .lst xs
    | _ => .loc l
  | d => d
def seqOf (S : Sto) (d : D) : Option (List D) := match der S d with
  | .tup xs => some xs
  | .lst xs => some xs
  | .scr xs => some xs
  | _ => none
/-- a tuple -/
def isT (S : Sto) (d : D) : Bool := match der S d with
  | .tup _ => true
  | _ => false
/-- a list -/
def lsOf (S : Sto) (d : D) : Option (List D) := match der S d with
  | .lst xs => some xs
  | _ => none
/-- a list or a tuple -/
def ltOf (S : Sto) (d : D) : Option (List D) := match der S d with
  | .lst xs => some xs
  | .tup xs => some xs
  | _ => none
/-- a text k times -/
def repS (x : Str) (k : Nat) : Str := if (k == 1 || x.length == 0) = true then x else ⟨(List.replicate k x.cps).foldl (· ++ ·) #[]⟩
def LIM : Nat := 16777216
def deep : Nat := 60
def eqPy (S : Sto) (a b : D) : Option Bool := match toP (der S a), toP (der S b) with
  | some p, some q => if min p.depth q.depth ≤ deep then some (PyData.eqv p q) else none
  | _, _ => none
def inPy (S : Sto) (a b : D) : Option Bool := match toP (der S a), (seqOf S b).bind toPs with
  | some p, some qs => if min (PyData.depthAll qs) p.depth ≤ deep then some (qs.any fun y => PyData.eqv y p) else none
  | _, _ => none
def toKey : D → Option Key
  | .int i => some (.inl i)
  | .str x => some (.inr x)
  | _ => none
def tru (S : Sto) (d : D) : Option Bool := match der S d with
  | .non => some false
  | .bl b => some b
  | .int i => some (i != 0)
  | .str y => if y.length ≤ LIM then some ((y.length : Int) != 0) else none
  | .tup xs => some !xs.isEmpty
  | .lst xs => some !xs.isEmpty
  | .dct kvs => some !kvs.isEmpty
  | _ => none
def lookK (k : Key) : List (Key × D) → Option D
  | [] => none
  | (j, d) :: r => if decide (j = k) then some d else lookK k r
def repK (k : Key) (v : D) : List (Key × D) → List (Key × D)
  | [] => []
  | (j, d) :: r => (if decide (j = k) then (j, v) else (j, d)) :: repK k v r
def putK (k : Key) (v : D) (kvs : List (Key × D)) : List (Key × D) := if (lookK k kvs).isSome then repK k v kvs else kvs ++ [(k, v)]
def lookF (f : Nat) : List (Nat × D) → Option D
  | [] => none
  | (j, d) :: r => if decide (j = f) then some d else lookF f r
def putF (f : Nat) (v : D) : List (Nat × D) → List (Nat × D)
  | [] => [(f, v)]
  | (j, d) :: r => if decide (j = f) then (j, v) :: r else (j, d) :: putF f v r

/-! ### dicts whose keys are tuples -/
mutual
def nkOf : D → Option NestedKey
  | .non => some .none
  | .bl b => some (.num (if b = true then 1 else 0))
  | .int i => some (.num i)
  | .str x => some (.text x)
  | .tup xs => (nksOf xs).map .tup
  | _ => none
def nksOf : List D → Option (List NestedKey)
  | [] => some []
  | d :: r => (match nkOf d, nksOf r with
    | some k, some ks => some (k :: ks)
    | _, _ => none)
end
/-- a tuple as a key -/
def tkOf : D → Option NestedKey
  | .tup xs => (match nksOf xs with
    | some ks => if (NestedKey.tup ks).depth ≤ 8 then some (.tup ks) else none
    | none => none)
  | _ => none
def lookT (k : NestedKey) : List (D × D) → Option D
  | [] => none
  | (j, d) :: r => if decide (tkOf j = some k) then some d else lookT k r
def repT (k : NestedKey) (v : D) : List (D × D) → List (D × D)
  | [] => []
  | (j, d) :: r => (if decide (tkOf j = some k) then (j, v) else (j, d)) :: repT k v r
def putT (k : NestedKey) (a v : D) (kvs : List (D × D)) : List (D × D) := if (lookT k kvs).isSome then repT k v kvs else kvs ++ [(a, v)]
/-- the dict that stands at a place of the store -/
def dnAt (S : Sto) : D → Option (List (D × D))
  | .loc l => (match S[l]? with
    | some (.dn _ kvs) => some kvs
    | _ => none)
  | _ => none

def mulG (i j : Int) : Bool := decide (i.natAbs.log2 + j.natAbs.log2 < 1000000)
def divG (j : Int) : Bool := decide (0 < j) && decide (j.natAbs.log2 < 9000)
def powG (i j : Int) : Bool := decide (0 ≤ j) && (decide (j ≤ 1000000) && decide (i.natAbs < 18446744073709551616))

def binI (o : Operator) (i j : Int) : Option D := match o with
  | .Add => some (.int (i + j))
  | .Sub => some (.int (i - j))
  | .Mult => if mulG i j then some (.int (i * j)) else none
  | .FloorDiv => if divG j then some (.int (i / j)) else none
  | .Mod => if decide (0 < j) then some (.int (i % j)) else none
  | .Pow => if powG i j then some (.int (i ^ j.toNat)) else none
  | _ => none
def binD (S : Sto) (o : Operator) (a b : D) : Option D := match der S a, der S b with
  | .int i, .int j => binI o i j
  | .str x, .str y => (match o with
    | .Add => if x.length + y.length ≤ LIM then some (.str (x ++ y)) else none
    | _ => none)
  | .str x, .int k => (match o with
    | .Mult => if decide (x.length ≤ 1000) && decide (1 ≤ k) && decide (k ≤ 1000) && decide ((repS x k.toNat).length ≤ LIM) then some (.str (repS x k.toNat)) else none
    | _ => none)
  | .tup x, .tup y => (match o with
    | .Add => if x.length + y.length ≤ LIM then some (.tup (x ++ y)) else none
    | _ => none)
  | .lst x, .lst y => (match o with
    | .Add => if x.length + y.length ≤ LIM then some (.lst (x ++ y)) else none
    | _ => none)
  | .lst x, .int k => (match o with
    | .Mult => if decide (x.length * k.toNat ≤ 1000000) && decide (-1000000 ≤ k) && decide (k ≤ 1000000) then some (.lst (List.replicate k.toNat x).flatten) else none
    | _ => none)
  | .tup x, .int k => (match o with
    | .Mult => if decide (0 < x.length) && decide (x.length ≤ 1000) && decide (-1000 ≤ k) && decide (k ≤ 1000) then some (.tup (List.replicate k.toNat x).flatten) else none
    | _ => none)
  | _, _ => none
def cmpI (o : CmpOp) (i j : Int) : Option Bool := match o with
  | .Lt => some (decide (i < j))
  | .LtE => some (decide (i ≤ j))
  | .Gt => some (decide (j < i))
  | .GtE => some (decide (j ≤ i))
  | _ => none
def cmpD (S : Sto) (o : CmpOp) (a b : D) : Option Bool := match o with
  | .Eq => eqPy S a b
  | .NotEq => (eqPy S a b).map (!·)
  | .In => (match b with
    | .loc l => (match S[l]? with
      | some (.dk kvs) => (toKey a).map fun k => (lookK k kvs).isSome
      | some (.dn _ kvs) => (tkOf a).map fun k => (lookT k kvs).isSome
      | _ => inPy S a b)
    | .str y => (match a with
      | .str x => some (!(Builtin.Str.occurrences y x 0 y.length 1).isEmpty)
      | _ => none)
    | .dct kvs => (toKey a).map fun k => (lookK k kvs).isSome
    | _ => inPy S a b)
  | .NotIn => (match b with
    | .loc l => (match S[l]? with
      | some (.dk kvs) => (toKey a).map fun k => !(lookK k kvs).isSome
      | some (.dn _ kvs) => (tkOf a).map fun k => !(lookT k kvs).isSome
      | _ => (inPy S a b).map (!·))
    | .str y => (match a with
      | .str x => some !(!(Builtin.Str.occurrences y x 0 y.length 1).isEmpty)
      | _ => none)
    | .dct kvs => (toKey a).map fun k => !(lookK k kvs).isSome
    | _ => (inPy S a b).map (!·))
  | .Is => (match a, b with
    | _, .non => some (match a with | .non => true | _ => false)
    | .bl x, .bl y => some (x == y)
    | _, _ => none)
  | .IsNot => (match a, b with
    | _, .non => some (match a with | .non => false | _ => true)
    | .bl x, .bl y => some !(x == y)
    | _, _ => none)
  | o => (match a, b with
    | .int i, .int j => cmpI o i j
    | _, _ => none)
def idxD (S : Sto) (a i : D) : Option D := match a, i with
  | .loc l, i => (match S[l]? with
    | some (.lst xs) => (match i with
      | .int k => L2.atI xs k
      | _ => none)
    | some (.dk kvs) => (toKey i).bind fun k => lookK k kvs
    | some (.dn _ kvs) => (tkOf i).bind fun k => lookT k kvs
    | _ => none)
  | .dct kvs, i => (toKey i).bind fun k => lookK k kvs
  | .tup xs, .int k => L2.atI xs k
  | .lst xs, .int k => L2.atI xs k
  | .str z, .int k => if z.length ≤ LIM then (L2.atI z.cps.toList k).map fun c => .str ⟨#[c]⟩ else none
  | _, _ => none
def cutD (xs : List D) (lo hi : Option Int) : List D := (xs.drop (HT.sIx xs.length 0 lo)).take (HT.sIx xs.length xs.length hi - HT.sIx xs.length 0 lo)
def slcD (S : Sto) (a : D) (lo hi : Option Int) : Option D := match der S a with
  | .tup xs => some (.tup (cutD xs lo hi))
  | .lst xs => some (.lst (cutD xs lo hi))
  | .str z => if z.length ≤ LIM then some (.str (Txt.slice z lo hi)) else none
  | _ => none
def attD (S : Sto) (a : D) (f : Nat) : Option D := match a with
  | .ins _ fs => lookF f fs
  | .loc l => (match S[l]? with
    | some (.ins _ fs) => lookF f fs
    | _ => none)
  | _ => none
def clsOf (S : Sto) (a : D) : Option Nat := match a with
  | .ins c _ => some c
  | .loc l => (match S[l]? with
    | some (.ins c _) => some c
    | _ => none)
  | _ => none

/-! ### built-ins -/
def intsD : List D → Option (List Int)
  | [] => some []
  | .int i :: r => (intsD r).map (i :: ·)
  | _ => none
def blsD : List D → Option (List Bool)
  | [] => some []
  | .bl b :: r => (blsD r).map (b :: ·)
  | _ => none
def foldMax : Int → List Int → Int
  | m, [] => m
  | m, x :: r => foldMax (if x > m then x else m) r
def foldMin : Int → List Int → Int
  | m, [] => m
  | m, x :: r => foldMin (if x < m then x else m) r
/-- the type of a tree -/
def tyOf (S : Sto) : D → Option String
  | .int _ => some "int"
  | .bl _ => some "bool"
  | .str _ => some "str"
  | .non => some "NoneType"
  | .tup _ => some "tuple"
  | .lst _ => some "list"
  | .dct _ => some "dict"
  | .loc l => (match S[l]? with
    | some (.lst _) => some "list"
    | some (.dk _) => some "dict"
    | _ => none)
  | _ => none
def isTy (S : Sto) (n : String) (d : D) : Option Bool := (tyOf S d).map fun t => t == n || (t == "bool" && n == "int")
def tyOk (n : String) : Bool := n == "int" || n == "bool" || n == "str" || n == "tuple" || n == "list" || n == "dict"
def isAny (S : Sto) (d : D) : List D → Option Bool
  | [] => some false
  | .ty n :: r => if tyOk n then (match isTy S n d, isAny S d r with
    | some a, some b => some (a || b)
    | _, _ => none) else none
  | _ => none
/-! ### sorted -/
def pD (d : D) : PyData := (toD d).getD .none
def ltD (a b : D) : Bool := PySem.W.dataLt (pD a) (pD b)
def leD (a b : D) : Bool := !ltD b a
def tupB : PyData → Bool
  | .tuple (_ :: _) => true
  | _ => false
def othB : PyData → Bool
  | .none => false
  | .tuple _ => false
  | _ => true
def sortOk (xs : List D) : Bool := (xs.all fun d => (toD d).isSome && decide ((pD d).depth ≤ deep)) && ((xs.all fun a => xs.all fun b => PySem.W.alike (pD a) (pD b)) && ((xs.all (fun d => tupB (pD d)) || xs.all (fun d => othB (pD d))) && decide (xs.length ≤ LIM)))
def bltD (S : Sto) (b : Blt) (ds : List D) : Option D := match b, ds with
  | .len, [a] => (match der S a with
    | .tup xs => some (.int xs.length)
    | .lst xs => some (.int xs.length)
    | .str z => if z.length ≤ LIM then some (.int z.length) else none
    | .dct kvs => some (.int kvs.length)
    | .loc l => (match S[l]? with
      | some (.dk kvs) => some (.int kvs.length)
      | _ => none)
    | _ => none)
  | .abs, [.int i] => some (.int (if i < 0 then -i else i))
  | .int, [.int i] => some (.int i)
  | .str, [.int i] => if decide (i.natAbs.log2 < 1920) then some (.str (toString i)) else none
  | .sum, [a] => ((lsOf S a).bind intsD).map fun l => .int l.sum
  | .any, [a] => ((lsOf S a).bind blsD).map fun l => .bl (l.any id)
  | .all, [a] => ((lsOf S a).bind blsD).map fun l => .bl (l.all id)
  | .max, [.int i, .int j] => some (.int (if j > i then j else i))
  | .min, [.int i, .int j] => some (.int (if j < i then j else i))
  | .max, [a] => (match (ltOf S a).bind intsD with
    | some (x :: r) => some (.int (foldMax x r))
    | _ => none)
  | .min, [a] => (match (ltOf S a).bind intsD with
    | some (x :: r) => some (.int (foldMin x r))
    | _ => none)
  | .list, [a] => (match dnAt S a with
    | some kvs => some (.lst (kvs.map (·.1)))
    | none => (seqOf S a).map .lst)
  | .tuple, [a] => (seqOf S a).map .tup
  | .sorted, [a] => (match lsOf S a with
    | some xs => if sortOk xs then some (.lst (xs.mergeSort leD)) else none
    | none => none)
  | .isinst, [a, .ty n] => if tyOk n then (isTy S n a).map .bl else none
  | .isinst, [a, .tup (t :: ts)] => (isAny S a (t :: ts)).map .bl
  | .repr, [a] => (match toD (der S a) with
    | some p => if p.showable && decide (p.depth ≤ deep) && decide (p.shown.length ≤ LIM) then some (.str p.shown) else none
    | none => none)
  | _, _ => none

/-! ### methods of built-in types -/
inductive Ki where
  | lst | dct | str
  deriving DecidableEq
def kiD (S : Sto) : D → Option Ki
  | .lst _ => some .lst
  | .str _ => some .str
  | .dct _ => some .dct
  | .loc l => (match S[l]? with
    | some (.lst _) => some .lst
    | some (.dk _) => some .dct
    | some (.dn _ _) => some .dct
    | _ => none)
  | _ => none
def bmOkB : Ki → Bmt → Bool
  | .lst, .append => true
  | .lst, .extend => true
  | .lst, .insert => true
  | .lst, .pop => true
  | .lst, .index => true
  | .dct, .get => true
  | .str, .join => true
  | .str, .split => true
  | _, _ => false
def strsD : List D → Option (List Str)
  | [] => some []
  | .str x :: r => (strsD r).map (x :: ·)
  | _ => none
/-- the first place of an equal one -/
def idxOfD (p : PyData) : List PyData → Option Nat
  | [] => none
  | q :: r => if PyData.eqv q p then some 0 else (idxOfD p r).map (· + 1)
def bmtD (S : Sto) : Ki → Bmt → D → List D → Option (D × Sto)
  | .lst, .append, .loc l, [y] => (match S[l]? with
    | some (.lst xs) => if xs.length < LIM then some (.non, S.set l (.lst (xs ++ [y]))) else none
    | _ => none)
  | .lst, .extend, .loc l, [y] => (match S[l]?, lsOf S y with
    | some (.lst xs), some ys => if xs.length + ys.length ≤ LIM then some (.non, S.set l (.lst (xs ++ ys))) else none
    | _, _ => none)
  | .lst, .insert, .loc l, [.int i, y] => (match S[l]? with
    | some (.lst xs) => if xs.length < LIM && (decide (0 ≤ i) && decide (i < 9223372036854775808)) then some (.non, S.set l (.lst (xs.take i.toNat ++ [y] ++ xs.drop i.toNat))) else none
    | _ => none)
  | .lst, .pop, .loc l, [] => (match S[l]? with
    | some (.lst xs) => (match xs[xs.length - 1]? with
      | some y => some (y, S.set l (.lst xs.dropLast))
      | none => none)
    | _ => none)
  | .lst, .pop, .loc l, [.int i] => (match S[l]? with
    | some (.lst xs) => (match L2.ixN xs.length i with
      | some k => (match xs[k]? with
        | some y => if decide (i < 9223372036854775808) && decide (-9223372036854775808 ≤ i) then some (y, S.set l (.lst (xs.eraseIdx k))) else none
        | none => none)
      | none => none)
    | _ => none)
  | .lst, .index, x, [y] => (match toP (der S x), toP (der S y) with
    | some (.list ps), some p => if SeqAt.shaped (.list ps) && SeqAt.shaped p then (idxOfD p ps).map fun j => (.int (j : Nat), S) else none
    | _, _ => none)
  | .dct, .get, .loc l, [k, d] => (match S[l]? with
    | some (.dk kvs) => (toKey k).map fun k => ((lookK k kvs).getD d, S)
    | some (.dn _ kvs) => (tkOf k).map fun k => ((lookT k kvs).getD d, S)
    | _ => none)
  | .dct, .get, .dct kvs, [k, d] => (match toKey k with
    | some k => some ((lookK k kvs).getD d, S)
    | _ => none)
  | .str, .join, .str a, [y] => (match (seqOf S y).bind strsD with
    | some ys => if (ys.map (·.length)).sum + ys.length * a.length ≤ LIM then some (.str (Txt.join a ys), S) else none
    | none => none)
  | .str, .split, .str a, [.str b] => if (b.length == 0) == false && decide (a.length + 2 ≤ LIM) then some (.lst ((Txt.split a b).map .str), S) else none
  | _, _, _, _ => none

/-! ### the program's tables -/
structure FnI where
  np : Nat
  ns : Nat
  body : List MS
  keep : Bool := false
  ok : Bool := true
  tbl : Bool := false
structure ClI where
  ini : Option Nat
  mths : List (Nat × Nat)
  exf : Option (List Nat) := none
  flds : List Nat := []
  rs : Bool := false
  leaf : Bool := false
/-- what an except clause tells of its exception: a written text, a field, the repr of a field -/
inductive WI where
  | cst (x : Str)
  | fld (f : Nat)
  | rep (f : Nat)
/-- a def that calls what it gets, and tells what is raised: the def; what it tells where nothing is; its clauses; the slots of the exception's name and of what is told -/
structure WhyI where
  f : Nat
  els : Option Str
  hds : List (Nat × List WI)
  ex : Nat
  fd : Option Nat
structure Pg where
  fns : List FnI
  glb : List D
  cls : List ClI
  whys : List WhyI := []
def wiD (S : Sto) (fs : List (Nat × D)) : WI → Option D
  | .cst x => some (.str x)
  | .fld f => lookF f fs
  | .rep f => (lookF f fs).bind fun d => bltD S .repr [d]
def wisD (S : Sto) (fs : List (Nat × D)) : List WI → Option (List D)
  | [] => some []
  | i :: is => (match wiD S fs i, wisD S fs is with
    | some d, some ds => some (d :: ds)
    | _, _ => none)
def hdsD (S : Sto) (c : Nat) (fs : List (Nat × D)) : List (Nat × List WI) → Option D
  | [] => none
  | (h, is) :: r => if decide (h = c) then (wisD S fs is).map .tup else hdsD S c fs r
def whyD (P : Pg) (S : Sto) (c : Nat) (fs : List (Nat × D)) (hds : List (Nat × List WI)) : Option D :=
  if (P.cls[c]?).any (·.rs) then hdsD S c fs hds else none
def elsD : Option Str → D
  | none => .non
  | some x => .tup [.str x]
def lookN (m : Nat) : List (Nat × Nat) → Option Nat
  | [] => none
  | (j, d) :: r => if decide (j = m) then some d else lookN m r

def fldOk (P : Pg) (S : Sto) (x : D) (f : Nat) : Bool := match (clsOf S x).bind fun c => P.cls[c]? with
  | some k => k.flds.contains f
  | none => false

/-- the def behind o.m(..) -/
def mthOf (P : Pg) (S : Sto) (x : D) (m : Nat) : Option Nat := match attD S x m with
  | some _ => none
  | none => (clsOf S x).bind fun c => (P.cls[c]?).bind fun k => lookN m k.mths

/-! ### expressions -/
def bind1 (r : R) (k : D → Sto → R) : R := match r with
  | .ok d S => k d S
  | .ex c fs S => .ex c fs S
  | .bad => .bad
def bindL (r : RL) (k : List D → Sto → R) : R := match r with
  | .ok d S => k d S
  | .ex c fs S => .ex c fs S
  | .bad => .bad
def bindT1 (r : RT) (k : Bool → Sto → R) : R := match r with
  | .ok d S => k d S
  | .ex c fs S => .ex c fs S
  | .bad => .bad
def ofO (o : Option D) (S : Sto) : R := match o with
  | some d => .ok d S
  | none => .bad
def ofB (o : Option Bool) (S : Sto) : R := match o with
  | some d => .ok (.bl d) S
  | none => .bad
def intOf : D → Option Int
  | .int i => some i
  | _ => none
mutual
def bindM (S : Sto) : MT → D → Env → Option Env
  | .nm i, d, v => some (v.set i (some d))
  | .tp ts, d, v => match d with
    | .tup xs => bindMs S ts xs v
    | .lst xs => bindMs S ts xs v
    | _ => none
def bindMs (S : Sto) : List MT → List D → Env → Option Env
  | [], [], v => some v
  | t :: ts, d :: ds, v => (match bindM S t d v with
    | some v' => bindMs S ts ds v'
    | none => none)
  | _, _, _ => none
end
def wipeE (v : Env) : List Nat → Env
  | [] => v
  | w :: ws => (wipeE v ws).set w none
def guards (g : List (Nat × List D)) (S : Sto) : Bool := g.all fun p => match S[p.1]? with
  | some (.lst xs) => eqDs xs p.2
  | _ => false
/-- the turns of a list comprehension -/
def lcL (g : List (Nat × List D)) (step : D → Sto → Option (Option D × Sto)) : List D → List D → Sto → R
  | [], acc, S => if guards g S then .ok (.lst acc) S else .bad
  | x :: xs, acc, S => if guards g S then (match step x S with
    | some (some y, S') => if acc.length < LIM then lcL g step xs (acc ++ [y]) S' else .bad
    | some (none, S') => lcL g step xs acc S'
    | none => .bad) else .bad
def lcL2 (g : List (Nat × List D)) (step : D → List D → Sto → R) : List D → List D → Sto → R
  | [], acc, S => if guards g S then .ok (.lst acc) S else .bad
  | x :: xs, acc, S => if guards g S then (match step x acc S with
    | .ok (.lst acc') S' => lcL2 g step xs acc' S'
    | _ => .bad) else .bad

abbrev Fo := Nat → List D → Sto → R
def gOf (S : Sto) (d : D) : List (Nat × List D) := match d with
  | .loc l => (match S[l]? with
    | some (.lst xs) => [(l, xs)]
    | _ => [])
  | _ => []
def rngD (lo : Int) (n : Nat) : List D := (List.range n).map fun k => .int (lo + (k : Nat))
@[irreducible] def rgG (i : Int) : Bool := decide (-4611686018427387904 ≤ i) && decide (i < 4611686018427387904)
def zipD : List D → List D → List D
  | x :: xs, y :: ys => .tup [x, y] :: zipD xs ys
  | _, _ => []
def enmD : Nat → List D → List D
  | _, [] => []
  | n, x :: xs => .tup [.int n, x] :: enmD (n + 1) xs

def eqoF (P : Pg) (F : Fo) (S : Sto) (m : Nat) (x y : D) : R := match mthOf P S x m with
  | some f => if decide (clsOf S x = clsOf S y) then (match F f [x, y] S with
    | .ok (.bl b) S3 => .ok (.bl b) S3
    | .ok _ _ => .bad
    | r => r) else .bad
  | none => .bad
/-- isinstance(x, C) for an own class C that is no exception -/
def iscD (P : Pg) (S : Sto) : List D → Option D
  | [x, .cls c] => if (P.cls[c]?).any (fun k => k.exf.isNone) then (match clsOf S x with
      | some c' => if (P.cls[c']?).any (fun k => k.exf.isNone) then some (.bl (decide (c' = c))) else none
      | none => (tyOf S x).map fun _ => .bl false) else none
  | _ => none
mutual
def ev (P : Pg) (F : Fo) : ME → Env → Sto → R
  | .cst d, _, S => .ok d S
  | .var i, v, S => (match v[i]? with
    | some (some d) => .ok d S
    | _ => .bad)
  | .glb g, _, S => ofO P.glb[g]? S
  | .bin o a b, v, S => bind1 (ev P F a v S) fun x S1 => bind1 (ev P F b v S1) fun y S2 => ofO (binD S2 o x y) S2
  | .neg a, v, S => bind1 (ev P F a v S) fun x S1 => (match x with
    | .int i => .ok (.int (-i)) S1
    | _ => .bad)
  | .cmp o a b, v, S => bind1 (ev P F a v S) fun x S1 => bind1 (ev P F b v S1) fun y S2 => ofB (cmpD S2 o x y) S2
  | .chn o o' a b c, v, S => bind1 (ev P F a v S) fun x S1 => bind1 (ev P F b v S1) fun y S2 => (match cmpD S2 o x y with
    | some true => bind1 (ev P F c v S2) fun z S3 => ofB (cmpD S3 o' y z) S3
    | some false => .ok (.bl false) S2
    | none => .bad)
  | .and es, v, S => evA P F es v S
  | .or es, v, S => evO P F es v S
  | .not a, v, S => bindT1 (evT P F a v S) fun b S1 => .ok (.bl (!b)) S1
  | .ite c a b, v, S => bindT1 (evT P F c v S) fun t S1 => if t then ev P F a v S1 else ev P F b v S1
  | .tup es, v, S => bindL (evs P F es v S) fun ds S1 => if ds.length ≤ LIM then .ok (.tup ds) S1 else .bad
  | .lst es, v, S => bindL (evs P F es v S) fun ds S1 => if ds.length ≤ LIM then .ok (.lst ds) S1 else .bad
  | .dct ks es, v, S => (match evs P F es v S with
    | .ok ds S1 => .ok (.dct ((ks.zip ds).foldl (fun l p => putK p.1 p.2 l) [])) S1
    | _ => .bad)
  | .idx a i, v, S => bind1 (ev P F a v S) fun x S1 => bind1 (ev P F i v S1) fun y S2 => ofO (idxD S2 x y) S2
  | .slc a lo hi, v, S => bind1 (ev P F a v S) fun x S1 => (match evP P F lo v S1 with
    | some (l, S2) => (match evP P F hi v S2 with
      | some (h, S3) => ofO (slcD S3 x l h) S3
      | none => .bad)
    | none => .bad)
  | .att a f, v, S => bind1 (ev P F a v S) fun x S1 => if fldOk P S1 x f then ofO (attD S1 x f) S1 else .bad
  | .call f es, v, S => bindL (evs P F es v S) fun ds S1 => F f ds S1
  | .mk fz c es, v, S => bindL (evs P F es v S) fun ds S1 => (match (P.cls[c]?).bind (·.ini) with
    | some f => (match F f (.loc S1.length :: ds) (S1 ++ [.ins c []]) with
      | .ok .non S2 => if fz then (match S2[S1.length]? with
          | some (.ins c' fs) => if decide (c' = c) && decide (S2.length = S1.length + 1) && lfF S1.length fs && (S2.take S1.length).all (lfM S1.length) then .ok (.ins c fs) (S2.take S1.length) else .bad
          | _ => .bad) else .ok (.loc S1.length) S2
      | .ok _ _ => .bad
      | .ex e fs S2 => .ex e fs S2
      | .bad => .bad)
    | none => .bad)
  | .mth m o es, v, S => bind1 (ev P F o v S) fun x S1 => (match mthOf P S1 x m with
    | some f => bindL (evs P F es v S1) fun ds S2 => F f (x :: ds) S2
    | none => .bad)
  | .blt b es, v, S => bindL (evs P F es v S) fun ds S1 => ofO (bltD S1 b ds) S1
  | .isc es, v, S => bindL (evs P F es v S) fun ds S1 => ofO (iscD P S1 ds) S1
  | .bmt m o es, v, S => bind1 (ev P F o v S) fun x S1 => (match kiD S1 x with
    | some k => if bmOkB k m then bindL (evs P F es v S1) fun ds S2 => (match bmtD S2 k m x ds with
      | some (d, S3) => .ok d S3
      | none => .bad) else .bad
    | none => .bad)
  | .lc e t it c ws, v, S => (match evI P F it v S with
    | .ok xs g S1 => lcL g (fun x S2 => (match bindM S2 t x (wipeE v ws) with
      | some v' => (match evC P F c v' S2 with
        | some (true, S3) => (match ev P F e v' S3 with
          | .ok y S4 => some (some y, S4)
          | _ => none)
        | some (false, S3) => some (none, S3)
        | none => none)
      | none => none)) xs [] S1
    | .ex e fs S1 => .ex e fs S1
    | .bad => .bad)
  | .lc2 e t it c t1 it1 c1 ws ws1, v, S => (match evI P F it v S with
    | .ok xs g S1 => lcL2 g (fun x acc S2 => (match bindM S2 t x (wipeE v ws) with
      | some v' => (match evC P F c v' S2 with
        | some (true, S3) => (match evI P F it1 v' S3 with
          | .ok ys g1 S4 => lcL g1 (fun y S5 => (match bindM S5 t1 y (wipeE v' ws1) with
            | some v'' => (match evC P F c1 v'' S5 with
              | some (true, S6) => (match ev P F e v'' S6 with
                | .ok z S7 => some (some z, S7)
                | _ => none)
              | some (false, S6) => some (none, S6)
              | none => none)
            | none => none)) ys acc S4
          | _ => .bad)
        | some (false, S3) => .ok (.lst acc) S3
        | none => .bad)
      | none => .bad)) xs [] S1
    | .ex e fs S1 => .ex e fs S1
    | .bad => .bad)
  | .alc e, v, S => bind1 (ev P F e v S) fun x S1 => (match x with
    | .lst xs => .ok (.loc S1.length) (S1 ++ [.lst xs])
    | .dct kvs => .ok (.loc S1.length) (S1 ++ [.dk kvs])
    | _ => .bad)
  | .cal i es, v, S => (match v[i]? with
    | some (some (.fn f)) => if decide (f < P.fns.length) then bindL (evs P F es v S) fun ds S1 => F f ds S1 else .bad
    | _ => .bad)
  | .why w e, v, S => (match P.whys[w]? with
    | some W => (match ev P F e v S with
      | .ok _ S1 => .ok (elsD W.els) S1
      | .ex c fs S1 => ofO (whyD P S1 c fs W.hds) S1
      | .bad => .bad)
    | none => .bad)
  | .rev a, v, S => bind1 (ev P F a v S) fun x S1 => (match lsOf S1 x with
    | some xs => .ok (.lst xs.reverse) S1
    | none => .bad)
  | .eqo m a b, v, S => bind1 (ev P F a v S) fun x S1 => bind1 (ev P F b v S1) fun y S2 => eqoF P F S2 m x y
  | .dnw, _, S => .ok (.loc S.length) (S ++ [.dn false []])
  | .thw i e, v, S => (match v[i]? with
    | some (some (.loc l)) => (match S[l]? with
      | some (.dn false kvs) => (match ev P F e v (S.set l (.dn true kvs)) with
        | .ok d S1 => (match S1[l]? with
          | some (.dn true kvs') => .ok d (S1.set l (.dn false kvs'))
          | _ => .bad)
        | _ => .bad)
      | _ => .bad)
    | _ => .bad)
def evs (P : Pg) (F : Fo) : List ME → Env → Sto → RL
  | [], _, S => .ok [] S
  | e :: es, v, S => (match ev P F e v S with
    | .ok d S1 => (match evs P F es v S1 with
      | .ok ds S2 => .ok (d :: ds) S2
      | .ex c fs S2 => .ex c fs S2
      | .bad => .bad)
    | .ex c fs S1 => .ex c fs S1
    | .bad => .bad)
def evA (P : Pg) (F : Fo) : List ME → Env → Sto → R
  | [], _, _ => .bad
  | [e], v, S => ev P F e v S
  | e :: es, v, S => bind1 (ev P F e v S) fun x S1 => (match tru S1 x with
    | some true => evA P F es v S1
    | some false => .ok x S1
    | none => .bad)
def evO (P : Pg) (F : Fo) : List ME → Env → Sto → R
  | [], _, _ => .bad
  | [e], v, S => ev P F e v S
  | e :: es, v, S => bind1 (ev P F e v S) fun x S1 => (match tru S1 x with
    | some true => .ok x S1
    | some false => evO P F es v S1
    | none => .bad)
/-- a test -/
def evT (P : Pg) (F : Fo) : MQ → Env → Sto → RT
  | .v e, v, S => (match ev P F e v S with
    | .ok d S1 => (match tru S1 d with
      | some b => .ok b S1
      | none => .bad)
    | .ex c fs S1 => .ex c fs S1
    | .bad => .bad)
  | .and es, v, S => evTA P F es v S
  | .or es, v, S => evTO P F es v S
  | .not a, v, S => (match evT P F a v S with
    | .ok b S1 => .ok (!b) S1
    | .ex c fs S1 => .ex c fs S1
    | .bad => .bad)
  | .ite c a b, v, S => (match evT P F c v S with
    | .ok t S1 => if t then evT P F a v S1 else evT P F b v S1
    | .ex c fs S1 => .ex c fs S1
    | .bad => .bad)
def evTA (P : Pg) (F : Fo) : List MQ → Env → Sto → RT
  | [], _, S => .ok true S
  | e :: es, v, S => (match evT P F e v S with
    | .ok true S1 => evTA P F es v S1
    | .ok false S1 => .ok false S1
    | .ex c fs S1 => .ex c fs S1
    | .bad => .bad)
def evTO (P : Pg) (F : Fo) : List MQ → Env → Sto → RT
  | [], _, S => .ok false S
  | e :: es, v, S => (match evT P F e v S with
    | .ok true S1 => .ok true S1
    | .ok false S1 => evTO P F es v S1
    | .ex c fs S1 => .ex c fs S1
    | .bad => .bad)
def evP (P : Pg) (F : Fo) : Option ME → Env → Sto → Option (Option Int × Sto)
  | none, _, S => some (none, S)
  | some e, v, S => (match ev P F e v S with
    | .ok (.int i) S1 => some (some i, S1)
    | _ => none)
/-- a comprehension's condition -/
def evC (P : Pg) (F : Fo) : Option MQ → Env → Sto → Option (Bool × Sto)
  | none, _, S => some (true, S)
  | some e, v, S => (match evT P F e v S with
    | .ok b S1 => some (b, S1)
    | _ => none)
def evI (P : Pg) (F : Fo) : MI → Env → Sto → RI
  | .seq e, v, S => (match ev P F e v S with
    | .ok d S1 => (match seqOf S1 d with
      | some xs => .ok xs (gOf S1 d) S1
      | none => .bad)
    | .ex c fs S1 => .ex c fs S1
    | .bad => .bad)
  | .rg1 e, v, S => (match ev P F e v S with
    | .ok (.int n) S1 => if rgG n then .ok (rngD 0 n.toNat) [] S1 else .bad
    | .ok _ _ => .bad
    | .ex c fs S1 => .ex c fs S1
    | .bad => .bad)
  | .rg2 a b, v, S => (match ev P F a v S with
    | .ok (.int i) S1 => (match ev P F b v S1 with
      | .ok (.int j) S2 => if rgG i && rgG j then .ok (rngD i (j - i).toNat) [] S2 else .bad
      | .ok _ _ => .bad
      | .ex c fs S1 => .ex c fs S1
      | .bad => .bad)
    | .ok _ _ => .bad
    | .ex c fs S1 => .ex c fs S1
    | .bad => .bad)
  | .zip a b, v, S => (match ev P F a v S with
    | .ok x S1 => (match ev P F b v S1 with
      | .ok y S2 => (match seqOf S2 x, seqOf S2 y with
        | some xs, some ys => if isT S2 x == isT S2 y then .ok (zipD xs ys) (gOf S2 x ++ gOf S2 y) S2 else .bad
        | _, _ => .bad)
      | .ex c fs S1 => .ex c fs S1
      | .bad => .bad)
    | .ex c fs S1 => .ex c fs S1
    | .bad => .bad)
  | .enm e, v, S => (match ev P F e v S with
    | .ok d S1 => (match seqOf S1 d with
      | some xs => if isT S1 d then .bad else .ok (enmD 0 xs) (gOf S1 d) S1
      | none => .bad)
    | .ex c fs S1 => .ex c fs S1
    | .bad => .bad)
  | .dky i, v, S => (match v[i]? with
    | some (some (.loc l)) => (match S[l]? with
      | some (.dn true kvs) => .ok (kvs.map (·.1)) [] S
      | _ => .bad)
    | _ => .bad)
end
end Mi
end
section
set_option autoImplicit false
/-! Mi3: statements, defs -/
namespace Mi
open PySem

def bindS (r : R) (v : Env) (k : D → Sto → RS) : RS := match r with
  | .ok d S => k d S
  | .ex c fs S => .ex c fs v S
  | .bad => .bad
def bindSL (r : RL) (v : Env) (k : List D → Sto → RS) : RS := match r with
  | .ok d S => k d S
  | .ex c fs S => .ex c fs v S
  | .bad => .bad
/-- the turns of a for loop -/
def forL (g : List (Nat × List D)) (step : D → Env → Sto → RS) : List D → Env → Sto → RS
  | [], v, S => if guards g S then .nx v S else .bad
  | x :: xs, v, S => if guards g S then (match step x v S with
    | .nx v' S' => forL g step xs v' S'
    | .ct v' S' => forL g step xs v' S'
    | .bk v' S' => .nx v' S'
    | r => r) else .bad
/-- the turns of a while loop -/
def whlL (c : Env → Sto → RT) (b : Env → Sto → RS) : Nat → Env → Sto → RS
  | 0, _, _ => .bad
  | n + 1, v, S => (match c v S with
    | .ok true S1 => (match b v S1 with
      | .nx v' S' => whlL c b n v' S'
      | .ct v' S' => whlL c b n v' S'
      | .bk v' S' => .nx v' S'
      | r => r)
    | .ok false S1 => .nx v S1
    | .ex e fs S1 => .ex e fs v S1
    | .bad => .bad)
/-- how many turns a while loop may take -/
def TURNS : Nat := 1000000
def setD (S : Sto) (x i y : D) : Option Sto := match x with
  | .loc l => (match S[l]? with
    | some (.lst xs) => (match i with
      | .int k => (L2.ixN xs.length k).map fun j => S.set l (.lst (xs.set j y))
      | _ => none)
    | some (.dk kvs) => (match toKey i with
      | some k => if kvs.length < LIM then some (S.set l (.dk (putK k y kvs))) else none
      | none => none)
    | some (.dn false kvs) => (match tkOf i with
      | some k => if kvs.length < LIM then some (S.set l (.dn false (putT k i y kvs))) else none
      | none => none)
    | _ => none)
  | _ => none
def setF (S : Sto) (x : D) (f : Nat) (y : D) : Option Sto := match x with
  | .loc l => (match S[l]? with
    | some (.ins c fs) => if fs.length < 900 then some (S.set l (.ins c (putF f y fs))) else none
    | _ => none)
  | _ => none
def nxO (v : Env) : Option Sto → RS
  | some S => .nx v S
  | none => .bad
/-- targets one after another -/
def bindXs (P : Pg) (F : Fo) : List MX → List D → Env → Sto → Option (Env × Sto)
  | [], [], v, S => some (v, S)
  | .t m :: ts, d :: ds, v, S => (match bindM S m d v with
    | some v' => bindXs P F ts ds v' S
    | none => none)
  | .sub x i :: ts, d :: ds, v, S => (match ev P F x v S with
    | .ok a S1 => (match ev P F i v S1 with
      | .ok j S2 => (match setD S2 a j d with
        | some S3 => bindXs P F ts ds v S3
        | none => none)
      | _ => none)
    | _ => none)
  | _, _, _, _ => none
mutual
def evS (P : Pg) (F : Fo) : MS → Env → Sto → RS
  | .asg t e, v, S => bindS (ev P F e v S) v fun d S1 => (match bindM S1 t d v with
    | some v' => .nx v' S1
    | none => .bad)
  | .asgx ts e, v, S => bindS (ev P F e v S) v fun d S1 => (match d with
    | .tup xs => (match bindXs P F ts xs v S1 with
      | some (v', S2) => .nx v' S2
      | none => .bad)
    | _ => .bad)
  | .aug i o e, v, S => (match v[i]?, o with
    | some (some (.int x)), .Add => bindS (ev P F e v S) v fun y S1 => (match y with
      | .int z => .nx (v.set i (some (.int (x + z)))) S1
      | _ => .bad)
    | _, _ => .bad)
  | .augI x i o e, v, S => bindS (ev P F x v S) v fun a S1 => bindS (ev P F i v S1) v fun j S2 => (match a, j, o with
    | .loc l, .int k, .Add => (match S2[l]? with
      | some (.lst xs) => if decide (0 ≤ k) && decide (k < 9223372036854775808) then (match xs[k.toNat]? with
        | some (.int z) => bindS (ev P F e v S2) v fun y S3 => (match y, S3[l]? with
          | .int w, some (.lst ys) => (match L2.ixN ys.length k with
            | some j' => .nx v (S3.set l (.lst (ys.set j' (.int (z + w)))))
            | none => .bad)
          | _, _ => .bad)
        | _ => .bad) else .bad
      | _ => .bad)
    | _, _, _ => .bad)
  | .setI x i e, v, S => bindS (ev P F e v S) v fun y S1 => bindS (ev P F x v S1) v fun a S2 => bindS (ev P F i v S2) v fun j S3 => nxO v (setD S3 a j y)
  | .setA x f e, v, S => bindS (ev P F e v S) v fun y S1 => bindS (ev P F x v S1) v fun a S2 => if fldOk P S2 a f then nxO v (setF S2 a f y) else .bad
  | .augA x f o e, v, S => bindS (ev P F x v S) v fun a S1 => (match (if fldOk P S1 a f then attD S1 a f else none), o with
    | some (.int z), .Add => bindS (ev P F e v S1) v fun y S2 => (match y with
      | .int w => if clsOf S2 a = clsOf S1 a then nxO v (setF S2 a f (.int (z + w))) else .bad
      | _ => .bad)
    | _, _ => .bad)
  | .exp e, v, S => bindS (ev P F e v S) v fun _ S1 => .nx v S1
  | .ret e, v, S => bindS (ev P F e v S) v fun d S1 => .rt d S1
  | .retN, _, S => .rt .non S
  | .iff c a b, v, S => (match evT P F c v S with
    | .ok t S1 => if t then evB P F a v S1 else evB P F b v S1
    | .ex e fs S1 => .ex e fs v S1
    | .bad => .bad)
  | .whl c b, v, S => whlL (evT P F c) (evB P F b) TURNS v S
  | .for t it b, v, S => (match evI P F it v S with
    | .ok xs g S1 => forL g (fun x v S => match bindM S t x v with
      | some v' => evB P F b v' S
      | none => .bad) xs v S1
    | .ex e fs S1 => .ex e fs v S1
    | .bad => .bad)
  | .pas, v, S => .nx v S
  | .brk, v, S => .bk v S
  | .cnt, v, S => .ct v S
  | .rse c es, v, S => bindSL (evs P F es v S) v fun ds S1 => (match (P.cls[c]?).bind (·.exf) with
    | some ns => if ns.length == ds.length then .ex c (ns.zip ds) v S1 else .bad
    | none => .bad)
  | .never, _, _ => .bad
def evB (P : Pg) (F : Fo) : List MS → Env → Sto → RS
  | [], v, S => .nx v S
  | s :: r, v, S => (match evS P F s v S with
    | .nx v' S' => evB P F r v' S'
    | q => q)
end

/-! ### defs -/
/-- behind the def: the older objects that have changed are closed -/
def okT (n : Nat) : Sto → Sto → Bool
  | [], _ => true
  | m :: S, m' :: S' => (decide (m = m') || lfM n m') && okT n S S'
  | _, _ => false
mutual
def fz (n : Nat) (S : Sto) : D → Option D
  | .loc l => if l < n then some (.loc l) else (match S[l]? with
    | some (.lst xs) => if lfs n xs then some (.lst xs) else none
    | some (.ins c fs) => if lfF n fs then some (.ins c fs) else none
    | some (.dk kvs) => if lfK n kvs then some (.dct kvs) else none
    | _ => none)
  | .tup xs => (fzs n S xs).map .tup
  | .lst xs => (fzs n S xs).map .lst
  | .ins c fs => if lfF n fs then some (.ins c fs) else none
  | .dct kvs => if lfK n kvs then some (.dct kvs) else none
  | .scr xs => if lfs n xs then some (.scr xs) else none
  | d => some d
def fzs (n : Nat) (S : Sto) : List D → Option (List D)
  | [] => some []
  | d :: r => (match fz n S d, fzs n S r with
    | some x, some xs => some (x :: xs)
    | _, _ => none)
end
def fzF (n : Nat) (S : Sto) : List (Nat × D) → Option (List (Nat × D))
  | [] => some []
  | (i, d) :: r => (match fz n S d, fzF n S r with
    | some x, some xs => some ((i, x) :: xs)
    | _, _ => none)
/-- what a def hands back: its own objects are let go -/
def fin (keep : Bool) (S : Sto) (d : D) (S' : Sto) : R :=
  if S'.length = S.length then .ok d S' else
  if okT S.length S S' then
    if keep then (match d with
      | .loc l => (match S'[l]? with
        | some m => if decide (S.length ≤ l) && lfM S.length m then .ok (.loc S.length) (S'.take S.length ++ [m]) else .bad
        | none => .bad)
      | _ => .bad)
    else (match fz S.length S' d with
      | some d' => .ok d' (S'.take S.length)
      | none => .bad)
  else .bad
def finX (S : Sto) (c : Nat) (fs : List (Nat × D)) (S' : Sto) : R :=
  if S'.length = S.length then .ex c fs S' else
  if okT S.length S S' then (match fzF S.length S' fs with
    | some fs' => .ex c fs' (S'.take S.length)
    | none => .bad)
  else .bad
def env0 (n : Nat) (ds : List D) : Env := ds.map some ++ List.replicate (n - ds.length) none
def callF (P : Pg) (F : Fo) (f : Nat) (ds : List D) (S : Sto) : R := match P.fns[f]? with
  | some i => if i.ok = true ∧ ds.length = i.np then (match evB P F i.body (env0 i.ns ds) S with
    | .nx _ S' => fin i.keep S .non S'
    | .rt d S' => fin i.keep S d S'
    | .ex c fs _ S' => finX S c fs S'
    | _ => .bad) else .bad
  | none => .bad
def run (P : Pg) : Nat → Fo
  | 0 => fun _ _ _ => .bad
  | n + 1 => callF P (run P n)
end Mi
end
section
set_option autoImplicit false
set_option linter.all false
set_option maxRecDepth 100000
/-! MiN1: dicts whose keys are tuples, as things of the heap -/
namespace Mi
open PySem PySem.Spec PyProof.Rows L2

/-- one entry: the key, where its tuple stands, the value -/
abbrev Ent := NestedKey × Addr × V
def EntR (p : Ent) (q : NestedKey × Addr × Value) : Prop := p.1 = q.1 ∧ p.2.1 = q.2.1 ∧ RelV p.2.2 q.2.2
def entN (w : World) (x : NestedKey × Addr × Value) : DictEntry := ⟨x.1.hash w, .ref x.2.1, x.2.2⟩
/-- the dict's one object -/
def DnAt (w : World) (a : Addr) (ks : List Ent) (h : Heap) : Prop :=
  (a == sysModules) = false ∧ ks.length ≤ sizeLine ∧ ∃ xs, Paired EntR ks xs ∧ ∃ o es ep, h.get? a = some o ∧ o.ExactDict ∧ o.data = .dict es ep ∧ es.toList = xs.map (entN w) ∧ (xs.map (·.1)).Nodup
def DnO (w : World) (a : Addr) (ks : List Ent) : HO := .ext (DnAt w a ks)
theorem DnAt.at {w : World} {a : Addr} {ks : List Ent} {h h' : Heap} (x : DnAt w a ks h) (k : ∀ o, h.get? a = some o → h'.get? a = some o) : DnAt w a ks h' := by
  obtain ⟨h1, h2, xs, h3, o, es, ep, h4, r⟩ := x
  exact ⟨h1, h2, xs, h3, o, es, ep, k o h4, r⟩
theorem DnAt.ok {P : Program} {w : World} {H : Hp} {h : Heap} {a : Addr} {ks : List Ent} (x : DnAt w a ks h) : ObjOk P w H h a (DnO w a ks) := by
  obtain ⟨_, _, _, _, o, _, _, h4, _⟩ := id x
  exact ⟨x, ⟨o, h4⟩, fun h1 h2 p k => p.at k⟩
theorem DnO.inj {w w' : World} {a a' : Addr} {ks ks' : List Ent} {o : Obj} {u : HO} : DnO w a ks ≠ .frz o u := fun z => by unfold DnO at z; cases z
/-- where it stands, plain or locked -/
def DnH (w : World) (H : Hp) (a : Addr) (ks : List Ent) : Prop := H a = some (DnO w a ks) ∨ ∃ o, H a = some (.frz o (DnO w a ks))
theorem DnH.is {P : Program} {w : World} {H : Hp} {h : Heap} {a : Addr} {ks : List Ent} (ok : HOk P w H h) (x : DnH w H a ks) : DnAt w a ks h := by
  rcases x with x | ⟨o, x⟩
  · exact (ok a _ x).1
  · exact (ok a _ x).2.1
/-- the keys' own tuples stand -/
def KeysAt (P : Program) (w : World) (h : Heap) (ks : List Ent) : Prop := ∀ x ∈ ks, (nestedKind P w).is h x.1 x.2.1
theorem DnAt.keyed {P : Program} {w : World} {h : Heap} {a : Addr} {ks : List Ent} (x : DnAt w a ks h) (kk : KeysAt P w h ks) :
    (a == sysModules) = false ∧ ks.length ≤ sizeLine ∧ ∃ xs, Paired EntR ks xs ∧ h.DictOfH (nestedKind P w) a xs := by
  obtain ⟨h1, h2, xs, h3, o, es, ep, h4, h5, h6, h7, h8⟩ := x
  refine ⟨h1, h2, xs, h3, o, es, ep, h4, h5, h6, h7, ?_, h8⟩
  have all : ∀ {l : List Ent} {m : List (NestedKey × Addr × Value)}, Paired EntR l m → KeysAt P w h l → ∀ x ∈ m, (nestedKind P w).is h x.1 x.2.1 := by
    intro l m q
    induction q with
    | nil => intro _ x hx; exact nomatch hx
    | @cons p q ps qs hq t ih =>
      intro kk x hx
      rcases List.mem_cons.mp hx with e | hx
      · subst e
        rw [← hq.1, ← hq.2.1]
        exact kk p (.head _)
      · exact ih (fun y hy => kk y (.tail _ hy)) x hx
  exact all h3 kk
theorem dnAt_of {P : Program} {w : World} {h : Heap} {a : Addr} {ks : List Ent} {xs : List (NestedKey × Addr × Value)} (h1 : (a == sysModules) = false) (h2 : ks.length ≤ sizeLine) (r : Paired EntR ks xs) (x : h.DictOfH (nestedKind P w) a xs) : DnAt w a ks h := by
  obtain ⟨o, es, ep, h4, h5, h6, h7, _, h8⟩ := x
  exact ⟨h1, h2, xs, r, o, es, ep, h4, h5, h6, h7, h8⟩
/-! what is found, what is put -/
def findE (ks : List Ent) (k : NestedKey) : Option V := (ks.find? fun x => decide (x.1 = k)).map (·.2.2)
def putE (ks : List Ent) (k : NestedKey) (a : Addr) (v : V) : List Ent := if (findE ks k).isSome then ks.map (fun x => if x.1 = k then (x.1, x.2.1, v) else x) else ks ++ [(k, a, v)]
theorem entR_find : ∀ {ks : List Ent} {xs : List (NestedKey × Addr × Value)}, Paired EntR ks xs → ∀ k, RelO (findE ks k) ((atKey xs k).map (·.2))
  | _, _, .nil, _ => trivial
  | _, _, @Paired.cons _ _ _ p q ps qs h t, k => by
    unfold findE atKey
    by_cases e : p.1 = k
    · have e' : q.1 = k := by rw [← h.1]; exact e
      simp only [List.find?_cons, e, e', decide_true, Option.map_some]
      exact h.2.2
    · have e' : ¬ q.1 = k := by rw [← h.1]; exact e
      simp only [List.find?_cons, e, e', decide_false]
      exact entR_find t k
theorem entR_map : ∀ {ks : List Ent} {xs : List (NestedKey × Addr × Value)}, Paired EntR ks xs → ∀ (k : NestedKey) {v : V} {u : Value}, RelV v u → Paired EntR (ks.map (fun x => if x.1 = k then (x.1, x.2.1, v) else x)) (xs.map (putAt k u))
  | _, _, .nil, _, _, _, _ => .nil
  | _, _, @Paired.cons _ _ _ p q ps qs h t, k, v, u, r => by
    refine .cons ?_ (entR_map t k r)
    unfold putAt
    by_cases e : p.1 = k
    · have e' : q.1 = k := by rw [← h.1]; exact e
      simp only [e, e', if_true]
      exact ⟨rfl, h.2.1, r⟩
    · have e' : ¬ q.1 = k := by rw [← h.1]; exact e
      simp only [e, e', if_false]
      exact h
theorem entR_app {ks : List Ent} {xs : List (NestedKey × Addr × Value)} (h : Paired EntR ks xs) {k : NestedKey} {a : Addr} {v : V} {u : Value} (r : RelV v u) : Paired EntR (ks ++ [(k, a, v)]) (xs ++ [(k, a, u)]) := by
  induction h with
  | nil => exact .cons ⟨rfl, rfl, r⟩ .nil
  | cons h t ih => exact .cons h ih
theorem entR_put {ks : List Ent} {xs : List (NestedKey × Addr × Value)} (h : Paired EntR ks xs) (k : NestedKey) {a : Addr} {v : V} {u : Value} (r : RelV v u) : Paired EntR (putE ks k a v) (storedH xs k a u) := by
  unfold putE storedH
  have q := (entR_find h k).isSome_eq
  rw [Option.isSome_map] at q
  rw [q]
  split
  · exact entR_map h k r
  · exact entR_app h r
theorem length_putE (ks : List Ent) (k : NestedKey) (a : Addr) (v : V) : (putE ks k a v).length ≤ ks.length + 1 := by
  unfold putE
  split <;> simp
section
variable {X : Cx} {pins : List (Addr × Obj)} {σ : L2.St} {H : Hp} {s : Shared} {a b : Addr} {v : V} {u r : Value} {A : Around} {E : Value → Shared → Prop} {ks : List Ent} {k : NestedKey}
theorem n_getItem {Q : Value → Shared → Prop} (hu : A.units + 20 < cLine) (I : Inv X pins σ H s) (g : DnH X.w H a ks) (kk : KeysAt X.prog X.w s.heap ks) (hk : (nestedKind X.prog X.w).is s.heap k b) (l : findE ks k = some v)
    (h : ∀ w' s', Inv X pins σ H s' → RelV v w' → Q w' s') : wpAny (model X.prog X.w) A (getItem (.ref a) (.ref b)) Q E s := by
  obtain ⟨hd, z, xs, rel, dd⟩ := (g.is I.hok).keyed kk
  obtain ⟨w', hw, rw'⟩ := RelO.some_of (v := v) (o := (atKey xs k).map (·.2)) (by rw [← l]; exact entR_find rel k)
  obtain ⟨p, hp, hp2⟩ := Option.map_eq_some_iff.mp hw
  refine wpAny_getItem_heap (show A.in1.units + 8 < cLine from by simp only [Around.in1]; omega) hk dd hp ?_
  rw [hp2]
  exact h w' _ (I.tok _) rw'
theorem n_in {Q : Value → Shared → Prop} (hu : A.units + 20 < cLine) (I : Inv X pins σ H s) (g : DnH X.w H a ks) (kk : KeysAt X.prog X.w s.heap ks) (hk : (nestedKind X.prog X.w).is s.heap k b)
    (h : ∀ s', Inv X pins σ H s' → Q (.bool (findE ks k).isSome) s') : wpAny (model X.prog X.w) A (compareOp .In (.ref b) (.ref a)) Q E s := by
  obtain ⟨hd, z, xs, rel, dd⟩ := (g.is I.hok).keyed kk
  refine wpAny_in_heap (show A.in1.units + 8 < cLine from by simp only [Around.in1]; omega) hk hd dd ?_
  have q := (entR_find rel k).isSome_eq
  rw [Option.isSome_map] at q
  rw [← q]
  exact h _ (I.tok _)
theorem n_notIn {Q : Value → Shared → Prop} (hu : A.units + 20 < cLine) (I : Inv X pins σ H s) (g : DnH X.w H a ks) (kk : KeysAt X.prog X.w s.heap ks) (hk : (nestedKind X.prog X.w).is s.heap k b)
    (h : ∀ s', Inv X pins σ H s' → Q (.bool (!(findE ks k).isSome)) s') : wpAny (model X.prog X.w) A (compareOp .NotIn (.ref b) (.ref a)) Q E s := by
  obtain ⟨hd, z, xs, rel, dd⟩ := (g.is I.hok).keyed kk
  refine wpAny_notIn_heap (show A.in1.units + 8 < cLine from by simp only [Around.in1]; omega) hk hd dd ?_
  have q := (entR_find rel k).isSome_eq
  rw [Option.isSome_map] at q
  rw [← q]
  exact h _ (I.tok _)
theorem n_get2 {Q : Value → Shared → Prop} {d : V} (hu : A.units + 20 < cLine) (I : Inv X pins σ H s) (g : DnH X.w H a ks) (kk : KeysAt X.prog X.w s.heap ks) (hk : (nestedKind X.prog X.w).is s.heap k b) (rd : RelV d r)
    (h : ∀ w' s', Inv X pins σ H s' → RelV ((findE ks k).getD d) w' → Q w' s') : wpAny (model X.prog X.w) A (call (.builtin "dict.get") [.ref a, .ref b, r]) Q E s := by
  obtain ⟨hd, z, xs, rel, dd⟩ := (g.is I.hok).keyed kk
  refine getOr_keyed (show A.in1.units + 8 < cLine from by simp only [Around.in1]; omega) hk hd ⟨xs, dd, rfl⟩ ?_
  rw [valueAt_pairsH]
  exact h _ _ (I.tok _) ((entR_find rel k).getD rd)
theorem n_setItem {Q : Unit → Shared → Prop} (hu : A.units + 20 < cLine) (I : Inv X pins σ H s) (g : H a = some (DnO X.w a ks)) (hl : ks.length < sizeLine) (kk : KeysAt X.prog X.w s.heap ks) (hk : (nestedKind X.prog X.w).is s.heap k b) (rv : RelV v r)
    (h : ∀ s', Inv X pins σ (upd H a (DnO X.w a (putE ks k b v))) s' → Q () s') : wpAny (model X.prog X.w) A (setItem (.ref a) (.ref b) r) Q E s := by
  obtain ⟨hd, z, xs, rel, dd⟩ := ((show DnH X.w H a ks from .inl g).is I.hok).keyed kk
  have hz : xs.length ≤ sizeLine := by rw [← Paired.length rel]; exact z
  refine wpAny_setItem_heap (hsz := hz) (show A.in1.units + 8 < cLine from by simp only [Around.in1]; omega) hk dd fun h' hm hs => h _ ?_
  have at' := dnAt_of (w := X.w) (ks := putE ks k b v) hd (by have := length_putE ks k b v; omega) (entR_put rel k rv) hm
  obtain ⟨o, _, _, ho, _⟩ := hm
  exact d_write I (by rw [g]; trivial) hs ⟨o, ho⟩ at'.ok
theorem n_typeIs (I : Inv X pins σ H s) (g : DnH X.w H a ks) : s.TypeIs (.ref a) "dict" := by
  obtain ⟨_, _, _, _, o, _, _, h1, h2, _⟩ := g.is I.hok
  exact ⟨o, h1, h2.1⟩
theorem n_noDict (I : Inv X pins σ H s) (g : DnH X.w H a ks) : ∀ b, Value.ref a = .ref b → ∃ ob, s.heap.get? b = some ob ∧ ob.dict = none := fun b q => by
  cases q
  obtain ⟨_, _, _, _, o, _, _, h1, h2, _⟩ := g.is I.hok
  exact ⟨o, h1, h2.2.1⟩
/-- {} -/
theorem dn_empty {P : Program} {w : World} {H : Hp} (h : Heap) (hb : sysModules < h.objs.size) : ObjOk P w H (h.push { cls := .type "dict", data := .dict #[] }) h.objs.size (DnO w h.objs.size []) :=
  (dnAt_of (P := P) (by have := Nat.ne_of_gt hb; simpa using this) (Nat.zero_le _) .nil (Heap.DictOfH.new h)).ok
def tDNewN (w : World) : TE := fun _ H Q => ∀ p, H p = none → Q (.ref p) (upd H p (DnO w p []))
theorem pe_dnewN {pos : Pos} : PE X (.Dict [] [] pos) (tDNewN X.w) := ⟨fun pins s σ H Q I h =>
  wpAny_Dict_empty ⟨.ref s.heap.objs.size, _, I.laid (a := s.heap.objs.size) (o := DnO X.w s.heap.objs.size []) (t' := s.toks) (fun _ _ q => Heap.get?_push_of_some _ q) (Nat.le_refl _) (dn_empty (P := X.prog) s.heap I.big), rfl, h _ (I.hok.fresh (Nat.le_refl _))⟩⟩
end
end Mi
end
section
set_option autoImplicit false
set_option linter.all false
set_option maxRecDepth 100000
/-! Mi4: what a tree stands for in the heap -/
namespace Mi
open PySem PySem.Spec PyProof.Rows L2

/-- where defs and classes stand, how attributes are called -/
structure Ga0 where
  fn : Nat → Addr
  cl : Nat → Addr
  nm : Nat → Str
/-- tables of code objects; what stands beside the store and is not touched -/
structure Ga extends Ga0 where
  tb : List (Addr × Str)
  fr : Hp
  w : World
instance : Coe Ga Ga0 := ⟨Ga.toGa0⟩
abbrev Ga.put (G : Ga) (φ : Hp) : Ga := { G with fr := φ }

/-- a tuple: tracked, or of the written part -/
def Tp (K : PySem.W.Frag) (B : Hp) (a : Addr) (vs : List V) : Prop := B a = some (.tup vs) ∨ SqT K (fun _ => none) a vs

mutual
inductive Rep (K : PySem.W.Frag) (G : Ga0) (B : Hp) (ρ : List Addr) : V → D → Prop
  | non : Rep K G B ρ .non .non
  | bl (b : Bool) : Rep K G B ρ (.bl b) (.bl b)
  | int (i : Int) : Rep K G B ρ (.int i) (.int i)
  | str (x : Str) : Rep K G B ρ (.str x) (.str x)
  | tup {a : Addr} {vs : List V} {ds : List D} : Tp K B a vs → Reps K G B ρ vs ds → Rep K G B ρ (.ref a) (.tup ds)
  | lst {a : Addr} {vs : List V} {ds : List D} : B a = some (.lst vs) → Reps K G B ρ vs ds → Rep K G B ρ (.ref a) (.lst ds)
  | scr {a : Addr} {vs : List V} {ds : List D} : SqL K B a vs → Reps K G B ρ vs ds → Rep K G B ρ (.ref a) (.scr ds)
  | ins {a dx : Addr} {fv : List (Str × V)} {c : Nat} {fs : List (Nat × D)} : B a = some (.ins (G.cl c) dx fv) → RepF K G B ρ fv fs → Rep K G B ρ (.ref a) (.ins c fs)
  | dct {a : Addr} {kv : List (L2.Key × V)} {kd : List (Key × D)} : B a = some (.dK kv) → RepK K G B ρ kv kd → Rep K G B ρ (.ref a) (.dct kd)
  | fn (f : Nat) : Rep K G B ρ (.ref (G.fn f)) (.fn f)
  | cls (c : Nat) : Rep K G B ρ (.ref (G.cl c)) (.cls c)
  | ty (n : String) : Rep K G B ρ (.ty n) (.ty n)
  | loc {a : Addr} {l : Nat} : ρ[l]? = some a → Rep K G B ρ (.ref a) (.loc l)
inductive Reps (K : PySem.W.Frag) (G : Ga0) (B : Hp) (ρ : List Addr) : List V → List D → Prop
  | nil : Reps K G B ρ [] []
  | cons {v : V} {vs : List V} {d : D} {ds : List D} : Rep K G B ρ v d → Reps K G B ρ vs ds → Reps K G B ρ (v :: vs) (d :: ds)
inductive RepF (K : PySem.W.Frag) (G : Ga0) (B : Hp) (ρ : List Addr) : List (Str × V) → List (Nat × D) → Prop
  | nil : RepF K G B ρ [] []
  | cons {v : V} {fv : List (Str × V)} {i : Nat} {d : D} {fs : List (Nat × D)} : Rep K G B ρ v d → RepF K G B ρ fv fs → RepF K G B ρ ((G.nm i, v) :: fv) ((i, d) :: fs)
inductive RepK (K : PySem.W.Frag) (G : Ga0) (B : Hp) (ρ : List Addr) : List (L2.Key × V) → List (Key × D) → Prop
  | nil : RepK K G B ρ [] []
  | cons {k : Key} {v : V} {kv : List (L2.Key × V)} {d : D} {kd : List (Key × D)} : Rep K G B ρ v d → RepK K G B ρ kv kd → RepK K G B ρ ((k, v) :: kv) ((k, d) :: kd)
end

/-- the ground grows, the store's objects become more -/
structure Le (B : Hp) (ρ : List Addr) (B' : Hp) (ρ' : List Addr) : Prop where
  sub : ∀ a o, B a = some o → B' a = some o
  pre : ρ <+: ρ'
theorem Le.refl {B : Hp} {ρ : List Addr} : Le B ρ B ρ := ⟨fun _ _ h => h, List.prefix_refl _⟩
theorem Le.trans {B B1 B2 : Hp} {ρ ρ1 ρ2 : List Addr} (a : Le B ρ B1 ρ1) (b : Le B1 ρ1 B2 ρ2) : Le B ρ B2 ρ2 := ⟨fun c o h => b.sub c o (a.sub c o h), a.pre.trans b.pre⟩
theorem Le.at {B B' : Hp} {ρ ρ' : List Addr} (h : Le B ρ B' ρ') {l : Nat} {a : Addr} (e : ρ[l]? = some a) : ρ'[l]? = some a := by
  obtain ⟨t, rfl⟩ := h.pre
  rw [List.getElem?_append_left (List.getElem?_eq_some_iff.mp e).1]
  exact e

section
variable {K : PySem.W.Frag} {G : Ga0} {B B' : Hp} {ρ ρ' : List Addr}
theorem sqT_up (s : ∀ a o, B a = some o → B' a = some o) {a : Addr} {xs : List V} (h : SqT K B a xs) : SqT K B' a xs := by
  rcases h with (h | ⟨o, h⟩) | h
  · exact .inl (.inl (s _ _ h))
  · exact .inl (.inr ⟨o, s _ _ h⟩)
  · exact .inr h
theorem sqL_up (s : ∀ a o, B a = some o → B' a = some o) {a : Addr} {xs : List V} (h : SqL K B a xs) : SqL K B' a xs := by
  rcases h with (h | ⟨o, h⟩) | h
  · exact .inl (.inl (s _ _ h))
  · exact .inl (.inr ⟨o, s _ _ h⟩)
  · exact .inr h
theorem Tp.up (s : ∀ a o, B a = some o → B' a = some o) {a : Addr} {xs : List V} (h : Tp K B a xs) : Tp K B' a xs := h.elim (fun h => .inl (s _ _ h)) .inr
theorem Tp.sq {a : Addr} {xs : List V} (h : Tp K B a xs) : SqT K B a xs := h.elim SqT.of fun h => sqT_up (fun _ _ z => absurd z (by simp)) h
mutual
theorem Rep.up (le : Le B ρ B' ρ') : ∀ {v : V} {d : D}, Rep K G B ρ v d → Rep K G B' ρ' v d
  | _, _, .non => .non
  | _, _, .bl b => .bl b
  | _, _, .int i => .int i
  | _, _, .str x => .str x
  | _, _, .tup h r => .tup (h.up le.sub) (Reps.up le r)
  | _, _, .lst h r => .lst (le.sub _ _ h) (Reps.up le r)
  | _, _, .scr h r => .scr (sqL_up le.sub h) (Reps.up le r)
  | _, _, .ins h r => .ins (le.sub _ _ h) (RepF.up le r)
  | _, _, .dct h r => .dct (le.sub _ _ h) (RepK.up le r)
  | _, _, .fn f => .fn f
  | _, _, .cls c => .cls c
  | _, _, .ty n => .ty n
  | _, _, .loc h => .loc (le.at h)
theorem Reps.up (le : Le B ρ B' ρ') : ∀ {vs : List V} {ds : List D}, Reps K G B ρ vs ds → Reps K G B' ρ' vs ds
  | _, _, .nil => .nil
  | _, _, .cons h r => .cons (Rep.up le h) (Reps.up le r)
theorem RepF.up (le : Le B ρ B' ρ') : ∀ {vs : List (Str × V)} {ds : List (Nat × D)}, RepF K G B ρ vs ds → RepF K G B' ρ' vs ds
  | _, _, .nil => .nil
  | _, _, .cons h r => .cons (Rep.up le h) (RepF.up le r)
theorem RepK.up (le : Le B ρ B' ρ') : ∀ {kv : List (L2.Key × V)} {kd : List (Key × D)}, RepK K G B ρ kv kd → RepK K G B' ρ' kv kd
  | _, _, .nil => .nil
  | _, _, .cons h r => .cons (Rep.up le h) (RepK.up le r)
end
mutual
theorem Rep.lf : ∀ {v : V} {d : D}, Rep K G B ρ v d → Mi.lf ρ.length d = true
  | _, _, .non => rfl
  | _, _, .bl b => rfl
  | _, _, .int i => rfl
  | _, _, .str x => rfl
  | _, _, .tup h r => Reps.lf r
  | _, _, .lst h r => Reps.lf r
  | _, _, .scr h r => Reps.lf r
  | _, _, .ins h r => RepF.lf r
  | _, _, .dct h r => RepK.lf r
  | _, _, .fn f => rfl
  | _, _, .cls c => rfl
  | _, _, .ty n => rfl
  | _, _, .loc h => decide_eq_true (List.getElem?_eq_some_iff.mp h).1
theorem Reps.lf : ∀ {vs : List V} {ds : List D}, Reps K G B ρ vs ds → Mi.lfs ρ.length ds = true
  | _, _, .nil => rfl
  | _, _, .cons h r => by
    show (Mi.lf _ _ && Mi.lfs _ _) = true
    rw [Rep.lf h, Reps.lf r]; rfl
theorem RepF.lf : ∀ {vs : List (Str × V)} {ds : List (Nat × D)}, RepF K G B ρ vs ds → Mi.lfF ρ.length ds = true
  | _, _, .nil => rfl
  | _, _, .cons h r => by
    show (Mi.lf _ _ && Mi.lfF _ _) = true
    rw [Rep.lf h, RepF.lf r]; rfl
theorem RepK.lf : ∀ {kv : List (L2.Key × V)} {kd : List (Key × D)}, RepK K G B ρ kv kd → Mi.lfK ρ.length kd = true
  | _, _, .nil => rfl
  | _, _, .cons h r => by
    show (Mi.lf _ _ && Mi.lfK _ _) = true
    rw [Rep.lf h, RepK.lf r]; rfl
end
/-! what is closed below n needs the first n objects alone -/
mutual
theorem Rep.cut {n : Nat} : ∀ {v : V} {d : D}, Rep K G B ρ v d → Mi.lf n d = true → Rep K G B (ρ.take n) v d
  | _, _, .non, _ => .non
  | _, _, .bl b, _ => .bl b
  | _, _, .int i, _ => .int i
  | _, _, .str x, _ => .str x
  | _, _, .tup h r, c => .tup h (Reps.cut r c)
  | _, _, .lst h r, c => .lst h (Reps.cut r c)
  | _, _, .scr h r, c => .scr h (Reps.cut r c)
  | _, _, .ins h r, c => .ins h (RepF.cut r c)
  | _, _, .dct h r, c => .dct h (RepK.cut r c)
  | _, _, .fn f, _ => .fn f
  | _, _, .cls f, _ => .cls f
  | _, _, .ty n, _ => .ty n
  | _, _, .loc h, c => .loc (by rw [List.getElem?_take, if_pos (of_decide_eq_true c)]; exact h)
theorem Reps.cut {n : Nat} : ∀ {vs : List V} {ds : List D}, Reps K G B ρ vs ds → Mi.lfs n ds = true → Reps K G B (ρ.take n) vs ds
  | _, _, .nil, _ => .nil
  | _, _, .cons h r, c => .cons (Rep.cut h (Bool.and_eq_true_iff.mp c).1) (Reps.cut r (Bool.and_eq_true_iff.mp c).2)
theorem RepF.cut {n : Nat} : ∀ {vs : List (Str × V)} {ds : List (Nat × D)}, RepF K G B ρ vs ds → Mi.lfF n ds = true → RepF K G B (ρ.take n) vs ds
  | _, _, .nil, _ => .nil
  | _, _, .cons h r, c => .cons (Rep.cut h (Bool.and_eq_true_iff.mp c).1) (RepF.cut r (Bool.and_eq_true_iff.mp c).2)
theorem RepK.cut {n : Nat} : ∀ {kv : List (L2.Key × V)} {kd : List (Key × D)}, RepK K G B ρ kv kd → Mi.lfK n kd = true → RepK K G B (ρ.take n) kv kd
  | _, _, .nil, _ => .nil
  | _, _, .cons h r, c => .cons (Rep.cut h (Bool.and_eq_true_iff.mp c).1) (RepK.cut r (Bool.and_eq_true_iff.mp c).2)
end
theorem Reps.length : ∀ {vs : List V} {ds : List D}, Reps K G B ρ vs ds → vs.length = ds.length
  | _, _, .nil => rfl
  | _, _, .cons _ r => congrArg (· + 1) (Reps.length r)
theorem Reps.get : ∀ {vs : List V} {ds : List D} {i : Nat} {d : D}, Reps K G B ρ vs ds → ds[i]? = some d → ∃ v, vs[i]? = some v ∧ Rep K G B ρ v d
  | _, _, _, _, .nil, e => by simp at e
  | _, _, 0, _, .cons h _, e => by
    simp at e; subst e; exact ⟨_, rfl, h⟩
  | _, _, i + 1, _, .cons _ r, e => by
    obtain ⟨v, h1, h2⟩ := Reps.get (i := i) r (by simpa using e)
    exact ⟨v, by simpa using h1, h2⟩
theorem Reps.append : ∀ {vs ws : List V} {ds es : List D}, Reps K G B ρ vs ds → Reps K G B ρ ws es → Reps K G B ρ (vs ++ ws) (ds ++ es)
  | _, _, _, _, .nil, s => s
  | _, _, _, _, .cons h r, s => .cons h (Reps.append r s)
theorem Reps.take : ∀ {vs : List V} {ds : List D} (n : Nat), Reps K G B ρ vs ds → Reps K G B ρ (vs.take n) (ds.take n)
  | _, _, 0, _ => .nil
  | _, _, _ + 1, .nil => .nil
  | _, _, n + 1, .cons h r => .cons h (Reps.take n r)
theorem Reps.drop : ∀ {vs : List V} {ds : List D} (n : Nat), Reps K G B ρ vs ds → Reps K G B ρ (vs.drop n) (ds.drop n)
  | _, _, 0, r => r
  | _, _, _ + 1, .nil => .nil
  | _, _, n + 1, .cons _ r => Reps.drop n r
theorem Reps.set {v : V} {d : D} (q : Rep K G B ρ v d) : ∀ {vs : List V} {ds : List D} (i : Nat), Reps K G B ρ vs ds → Reps K G B ρ (vs.set i v) (ds.set i d)
  | _, _, _, .nil => .nil
  | _, _, 0, .cons _ r => .cons q r
  | _, _, i + 1, .cons h r => .cons h (Reps.set q i r)
theorem Reps.rep {vs : List V} {ds : List D} (h : Reps K G B ρ vs ds) : ∀ k : Nat, Reps K G B ρ (List.replicate k vs).flatten (List.replicate k ds).flatten
  | 0 => .nil
  | k + 1 => by
    rw [List.replicate_succ, List.replicate_succ, List.flatten_cons, List.flatten_cons]
    exact Reps.append h (Reps.rep h k)
/-- the tree of a value that is no list of the store, by the value's own form -/
theorem Rep.int_inv {v : V} {i : Int} (h : Rep K G B ρ v (.int i)) : v = .int i := by cases h; rfl
theorem Rep.bl_inv {v : V} {b : Bool} (h : Rep K G B ρ v (.bl b)) : v = .bl b := by cases h; rfl
theorem Rep.str_inv {v : V} {x : Str} (h : Rep K G B ρ v (.str x)) : v = .str x := by cases h; rfl
theorem Rep.non_inv {v : V} (h : Rep K G B ρ v .non) : v = .non := by cases h; rfl
theorem Reps.intsD : ∀ {vs : List V} {ds : List D} {ns : List Int}, Reps K G B ρ vs ds → intsD ds = some ns → vs = ns.map V.int
  | _, _, _, .nil, e => by cases e; rfl
  | _, _, _, .cons (d := d) h r, e => by
    cases d with
    | int i =>
      cases h
      simp only [Mi.intsD, Option.map_eq_some_iff] at e
      obtain ⟨l, q, rfl⟩ := e
      rw [Reps.intsD r q]; rfl
    | _ => simp [Mi.intsD] at e
theorem Reps.blsD : ∀ {vs : List V} {ds : List D} {ns : List Bool}, Reps K G B ρ vs ds → blsD ds = some ns → vs = ns.map V.bl
  | _, _, _, .nil, e => by cases e; rfl
  | _, _, _, .cons (d := d) h r, e => by
    cases d with
    | bl i =>
      cases h
      simp only [Mi.blsD, Option.map_eq_some_iff] at e
      obtain ⟨l, q, rfl⟩ := e
      rw [Reps.blsD r q]; rfl
    | _ => simp [Mi.blsD] at e
end

/-! ### the store -/
theorem DnO_code {w : World} {a : Addr} {ks : List Ent} {c : Addr} {q : Str} (e : DnO w a ks = LamX.CodeO c q) (hc : c = a) : False := by
  subst hc
  unfold DnO LamX.CodeO at e
  have e := HO.ext.inj e
  have oc : Obj := { cls := .none, data := .fields #[.none, .str q default] }
  let h : Heap := { objs := Array.replicate (c + 1) { cls := .none, data := .fields #[.none, .str q default] } }
  have hg : h.get? c = some { cls := .none, data := .fields #[.none, .str q default] } := by
    simp [h, Heap.get?]
  have h1 := (congrFun e h).mpr ⟨_, _, _, hg, rfl, rfl⟩
  obtain ⟨_, _, xs, _, o, es, ep, g, _, hd, _⟩ := h1
  rw [hg] at g
  cases g
  cases hd
/-- a dict's keys and values -/
def RepN (K : PySem.W.Frag) (G : Ga0) (B : Hp) (ρ : List Addr) : List Ent → List (D × D) → Prop := Paired fun p q => Rep K G B ρ (.ref p.2.1) q.1 ∧ tkOf q.1 = some p.1 ∧ Rep K G B ρ p.2.2 q.2
def isF (o : HO) : Prop := ∃ b u, o = .frz b u
def HoldM (K : PySem.W.Frag) (G : Ga) (B : Hp) (ρ : List Addr) (H : Hp) (a : Addr) : MO → Prop
  | .lst ds => ∃ vs, H a = some (.lst vs) ∧ Reps K G B ρ vs ds
  | .dk kd => ∃ kv, H a = some (.dK kv) ∧ RepK K G B ρ kv kd
  | .dn false kd => ∃ ks, H a = some (DnO G.w a ks) ∧ RepN K G B ρ ks kd
  | .dn true kd => ∃ o ks, H a = some (.frz o (DnO G.w a ks)) ∧ G.fr a = some (.frz o (DnO G.w a ks)) ∧ RepN K G B ρ ks kd
  | .ins c fs => ∃ dx fv, H a = some (.ins (G.cl c) dx fv) ∧ RepF K G B ρ fv fs
def NoTb (H : Hp) : Prop := ∀ a ps, H a ≠ some (.tbl ps)
theorem NoTb.upd {H : Hp} {p : Addr} {o : HO} (h : NoTb H) (ho : ∀ ps, o ≠ .tbl ps) : NoTb (L2.upd H p o) := fun a ps z => by
  by_cases e : a = p
  · subst e; rw [upd_same] at z; exact ho ps (Option.some.inj z)
  · rw [upd_ne e] at z; exact h a ps z
theorem NoTb.out {H : Hp} {p : Addr} {o : HO} (h : NoTb (L2.upd H p o)) (hn : H p = none) : NoTb H := fun a ps z => h a ps (by rw [upd_ne (ne_of_none z hn)]; exact z)
theorem NoTb.self {H : Hp} {p : Addr} {o : HO} (h : NoTb (L2.upd H p o)) : ∀ ps, o ≠ .tbl ps := fun ps z => h p ps (by rw [upd_same, z])
structure Sim (K : PySem.W.Frag) (G : Ga) (B : Hp) (ρ : List Addr) (S : Sto) (H : Hp) : Prop where
  sub : ∀ a o, B a = some o → H a = some o
  len : ρ.length = S.length
  nd : ρ.Nodup
  off : ∀ a ∈ ρ, B a = none
  obj : ∀ (l : Nat) (m : MO), S[l]? = some m → ∃ a, ρ[l]? = some a ∧ HoldM K G B ρ H a m
  frm : ∀ a o, G.fr a = some o → H a = some o ∧ B a = none ∧ (a ∈ ρ ↔ isF o)
  tab : LamX.Tabs G.tb H
  ntb : NoTb B ∧ NoTb G.fr
section
variable {K : PySem.W.Frag} {G : Ga} {B B' : Hp} {ρ ρ' : List Addr} {S : Sto} {H H' : Hp}
mutual
theorem nkOf_lf {n : Nat} : ∀ (d : D) (k : NestedKey), nkOf d = some k → Mi.lf n d = true
  | .non, _, _ => rfl
  | .bl _, _, _ => rfl
  | .int _, _, _ => rfl
  | .str _, _, _ => rfl
  | .tup xs, k, h => by
    simp only [nkOf, Option.map_eq_some_iff] at h
    obtain ⟨ks, h, _⟩ := h
    exact nksOf_lf xs ks h
  | .lst _, _, h => by simp [nkOf] at h
  | .scr _, _, h => by simp [nkOf] at h
  | .ins _ _, _, h => by simp [nkOf] at h
  | .dct _, _, h => by simp [nkOf] at h
  | .fn _, _, h => by simp [nkOf] at h
  | .cls _, _, h => by simp [nkOf] at h
  | .ty _, _, h => by simp [nkOf] at h
  | .loc _, _, h => by simp [nkOf] at h
theorem nksOf_lf {n : Nat} : ∀ (ds : List D) (ks : List NestedKey), nksOf ds = some ks → Mi.lfs n ds = true
  | [], _, _ => rfl
  | d :: r, ks, h => by
    unfold nksOf at h
    split at h
    · rename_i k ks' h1 h2
      show (Mi.lf _ _ && Mi.lfs _ _) = true
      rw [nkOf_lf d k h1, nksOf_lf r ks' h2]; rfl
    · cases h
end
theorem tkOf_lf {n : Nat} {d : D} {k : NestedKey} (h : tkOf d = some k) : Mi.lf n d = true := by
  cases d <;> simp only [tkOf] at h <;> try cases h
  rename_i xs
  cases e : nksOf xs with
  | none => rw [e] at h; cases h
  | some ks => exact nksOf_lf xs ks e
theorem RepN.up (le : Le B ρ B' ρ') {ks : List Ent} {kd : List (D × D)} (r : RepN K G B ρ ks kd) : RepN K G B' ρ' ks kd := Paired.mapP r fun _ _ z => ⟨z.1.up le, z.2.1, z.2.2.up le⟩
theorem RepN.lf : ∀ {ks : List Ent} {kd : List (D × D)}, RepN K G B ρ ks kd → lfs ρ.length (kd.map (·.2)) = true
  | _, _, .nil => rfl
  | _, _, .cons h t => by
    show (Mi.lf _ _ && Mi.lfs _ _) = true
    rw [h.2.2.lf, RepN.lf t]; rfl
theorem RepN.cut {n : Nat} : ∀ {ks : List Ent} {kd : List (D × D)}, RepN K G B ρ ks kd → lfs n (kd.map (·.2)) = true → RepN K G B (ρ.take n) ks kd
  | _, _, .nil, _ => .nil
  | _, _, .cons h t, c => by
    have c : (Mi.lf _ _ && Mi.lfs _ _) = true := c
    rw [Bool.and_eq_true] at c
    exact .cons ⟨h.1.cut (tkOf_lf h.2.1), h.2.1, h.2.2.cut c.1⟩ (RepN.cut t c.2)
theorem HoldM.up (le : Le B ρ B' ρ') {a : Addr} (e : H' a = H a) : ∀ {m : MO}, HoldM K G B ρ H a m → HoldM K G B' ρ' H' a m
  | .lst _, ⟨vs, h, r⟩ => ⟨vs, e.trans h, r.up le⟩
  | .dk _, ⟨kv, h, r⟩ => ⟨kv, e.trans h, r.up le⟩
  | .dn false _, ⟨ks, h, r⟩ => ⟨ks, e.trans h, r.up le⟩
  | .dn true _, ⟨o, ks, h, f, r⟩ => ⟨o, ks, e.trans h, f, r.up le⟩
  | .ins _ _, ⟨dx, fv, h, r⟩ => ⟨dx, fv, e.trans h, r.up le⟩
theorem HoldM.lf {a : Addr} : ∀ {m : MO}, HoldM K G B ρ H a m → lfM ρ.length m = true
  | .lst _, ⟨_, _, r⟩ => r.lf
  | .dk _, ⟨_, _, r⟩ => r.lf
  | .dn false _, ⟨_, _, r⟩ => r.lf
  | .dn true _, ⟨_, _, _, _, r⟩ => r.lf
  | .ins _ _, ⟨_, _, _, r⟩ => r.lf
theorem HoldM.cut {a : Addr} {n : Nat} : ∀ {m : MO}, HoldM K G B ρ H a m → lfM n m = true → HoldM K G B (ρ.take n) H a m
  | .lst _, ⟨vs, h, r⟩, c => ⟨vs, h, r.cut c⟩
  | .dk _, ⟨kv, h, r⟩, c => ⟨kv, h, r.cut c⟩
  | .dn false _, ⟨ks, h, r⟩, c => ⟨ks, h, r.cut c⟩
  | .dn true _, ⟨o, ks, h, f, r⟩, c => ⟨o, ks, h, f, r.cut c⟩
  | .ins _ _, ⟨dx, fv, h, r⟩, c => ⟨dx, fv, h, r.cut c⟩
theorem HoldM.there {a : Addr} : ∀ {m : MO}, HoldM K G B ρ H a m → ∃ o, H a = some o
  | .lst _, ⟨_, h, _⟩ => ⟨_, h⟩
  | .dk _, ⟨_, h, _⟩ => ⟨_, h⟩
  | .dn false _, ⟨_, h, _⟩ => ⟨_, h⟩
  | .dn true _, ⟨_, _, h, _⟩ => ⟨_, h⟩
  | .ins _ _, ⟨_, _, h, _⟩ => ⟨_, h⟩
theorem HoldM.notbl {a : Addr} : ∀ {m : MO}, HoldM K G B ρ H a m → ∀ ps, H a ≠ some (.tbl ps)
  | .lst _, ⟨_, h, _⟩, _, z => by rw [h] at z; cases z
  | .dk _, ⟨_, h, _⟩, _, z => by rw [h] at z; cases z
  | .dn false _, ⟨_, h, _⟩, _, z => by rw [h] at z; unfold DnO at z; cases z
  | .dn true _, ⟨_, _, h, _⟩, _, z => by rw [h] at z; cases z
  | .ins _ _, ⟨_, _, h, _⟩, _, z => by rw [h] at z; cases z
theorem HoldM.nocode {a : Addr} : ∀ {m : MO}, HoldM K G B ρ H a m → ∀ q, H a ≠ some (LamX.CodeO a q)
  | .lst _, ⟨_, h, _⟩, _, z => by rw [h] at z; unfold LamX.CodeO at z; cases z
  | .dk _, ⟨_, h, _⟩, _, z => by rw [h] at z; unfold LamX.CodeO at z; cases z
  | .dn false _, ⟨_, h, _⟩, _, z => by rw [h] at z; exact DnO_code (Option.some.inj z) rfl
  | .dn true _, ⟨_, _, h, _⟩, _, z => by rw [h] at z; unfold LamX.CodeO at z; cases z
  | .ins _ _, ⟨_, _, h, _⟩, _, z => by rw [h] at z; unfold LamX.CodeO at z; cases z
end
section
variable {K : PySem.W.Frag} {G : Ga} {B B' : Hp} {ρ ρ' : List Addr} {S : Sto} {H H' : Hp}
theorem notF {o : HO} (h : ∀ b u, o ≠ .frz b u) : ¬ isF o := fun ⟨b, u, z⟩ => h b u z
theorem HoldM.put {φ : Hp} {a : Addr} (k : ∀ o u, G.fr a = some (.frz o u) → φ a = some (.frz o u)) : ∀ {m : MO}, HoldM K G B ρ H a m → HoldM K (G.put φ) B ρ H a m
  | .lst _, h => h
  | .dk _, h => h
  | .dn false _, h => h
  | .dn true _, ⟨o, ks, h, f, r⟩ => ⟨o, ks, h, k _ _ f, r⟩
  | .ins _ _, h => h
/-- not locked: what stands there is no locked thing -/
theorem HoldM.free {a : Addr} : ∀ {m : MO}, HoldM K G B ρ H a m → (∀ kd, m ≠ .dn true kd) → ∀ o u, H a ≠ some (.frz o u)
  | .lst _, ⟨_, h, _⟩, _, _, _, z => by rw [h] at z; cases z
  | .dk _, ⟨_, h, _⟩, _, _, _, z => by rw [h] at z; cases z
  | .dn false _, ⟨_, h, _⟩, _, _, _, z => by rw [h] at z; unfold DnO at z; cases z
  | .dn true kd, _, n, _, _, _ => n kd rfl
  | .ins _ _, ⟨_, _, h, _⟩, _, _, _, z => by rw [h] at z; cases z
theorem Sim.there (s : Sim K G B ρ S H) {a : Addr} (h : a ∈ ρ) : ∃ o, H a = some o := by
  obtain ⟨l, hl, rfl⟩ := List.getElem_of_mem h
  have h2 : l < S.length := by rw [← s.len]; exact hl
  obtain ⟨a, e, m⟩ := s.obj l _ (List.getElem?_eq_getElem h2)
  rw [List.getElem?_eq_getElem hl] at e
  cases e
  exact m.there
theorem Sim.fresh (s : Sim K G B ρ S H) {p : Addr} (h : H p = none) : B p = none ∧ p ∉ ρ := by
  refine ⟨?_, fun m => ?_⟩
  · cases e : B p with
    | none => rfl
    | some o => rw [s.sub p o e] at h; cases h
  · obtain ⟨o, e⟩ := s.there m
    rw [e] at h; cases h
/-- a new object of the ground -/
theorem Sim.lay (s : Sim K G B ρ S H) {p : Addr} {o : HO} (h : H p = none) (ho : ∀ ps, o ≠ .tbl ps := by intro _ z; cases z) : Sim K G (upd B p o) ρ S (upd H p o) ∧ Le B ρ (upd B p o) ρ := by
  obtain ⟨hb, hp⟩ := s.fresh h
  have le : Le B ρ (upd B p o) ρ := ⟨fun a u e => by rw [upd_ne (ne_of_none e hb)]; exact e, List.prefix_refl _⟩
  have ext : ∀ b u, H b = some u → upd H p o b = some u := fun b u e => by rw [upd_ne (ne_of_none e h)]; exact e
  refine ⟨⟨fun a u e => ?_, s.len, s.nd, fun a ha => ?_, fun l m e => ?_, fun a u e => ?_, s.tab.ext ext, ⟨s.ntb.1.upd ho, s.ntb.2⟩⟩, le⟩
  · by_cases ha : a = p
    · subst ha; rw [upd_same] at e ⊢; exact e
    · rw [upd_ne ha] at e ⊢; exact s.sub a u e
  · rw [upd_ne (show a ≠ p from fun e => hp (by rw [← e]; exact ha))]; exact s.off a ha
  · obtain ⟨a, ea, hm⟩ := s.obj l m e
    refine ⟨a, ea, hm.up le (upd_ne (show a ≠ p from fun z => hp (by rw [← z]; exact List.mem_of_getElem? ea)))⟩
  · obtain ⟨f1, f2, f3⟩ := s.frm a u e
    exact ⟨ext _ _ f1, by rw [upd_ne (ne_of_none f1 h)]; exact f2, f3⟩
/-- objects that nobody tells of are new or change -/
theorem Sim.more (s : Sim K G B ρ S H) (k : ∀ a o, H a = some o → H' a = some o) : Sim K G B ρ S H' :=
  ⟨fun a o e => k a o (s.sub a o e), s.len, s.nd, s.off, fun l m e => by
    obtain ⟨a, ea, hm⟩ := s.obj l m e
    obtain ⟨o, ho⟩ := hm.there
    exact ⟨a, ea, hm.up Le.refl ((k a o ho).trans ho.symm)⟩, fun a o e => let ⟨f1, f2, f3⟩ := s.frm a o e; ⟨k a o f1, f2, f3⟩, s.tab.ext k, s.ntb⟩
/-- a new object of the store -/
theorem Sim.alloc (s : Sim K G B ρ S H) {p : Addr} {o : HO} {m : MO} (h : H p = none) (hm : ∀ B' ρ', Le B ρ B' ρ' → HoldM K G B' ρ' (upd H p o) p m) : Sim K G B (ρ ++ [p]) (S ++ [m]) (upd H p o) ∧ Le B ρ B (ρ ++ [p]) := by
  obtain ⟨hb, hp⟩ := s.fresh h
  have le : Le B ρ B (ρ ++ [p]) := ⟨fun _ _ e => e, List.prefix_append _ _⟩
  have ext : ∀ b u, H b = some u → upd H p o b = some u := fun b u e => by rw [upd_ne (ne_of_none e h)]; exact e
  refine ⟨⟨fun a u e => ?_, by simp [s.len], ?_, fun a ha => ?_, fun l m' e => ?_, fun a u e => ?_, s.tab.ext ext, s.ntb⟩, le⟩
  · rw [upd_ne (ne_of_none e hb)]; exact s.sub a u e
  · rw [List.nodup_append]
    exact ⟨s.nd, by simp, fun x hx y hy z => hp (by simp at hy; rw [← hy, ← z]; exact hx)⟩
  · rcases List.mem_append.mp ha with ha | ha
    · exact s.off a ha
    · simp at ha; rw [ha]; exact hb
  · by_cases hl : l < S.length
    · rw [List.getElem?_append_left hl] at e
      obtain ⟨a, ea, hm'⟩ := s.obj l m' e
      exact ⟨a, le.at ea, hm'.up le (upd_ne (show a ≠ p from fun z => hp (by rw [← z]; exact List.mem_of_getElem? ea)))⟩
    · have e2 : l = S.length := by
        have := (List.getElem?_eq_some_iff.mp e).1
        simp at this; omega
      subst e2
      simp at e
      subst e
      exact ⟨p, by rw [← s.len]; simp, hm _ _ le⟩
  · obtain ⟨f1, f2, f3⟩ := s.frm a u e
    refine ⟨ext _ _ f1, f2, fun z => ?_, fun z => List.mem_append_left _ (f3.mpr z)⟩
    rcases List.mem_append.mp z with z | z
    · exact f3.mp z
    · simp at z; rw [z, h] at f1; cases f1
/-- an object of the store is written -/
theorem Sim.put (s : Sim K G B ρ S H) {l : Nat} {a : Addr} {o : HO} {m : MO} (e : ρ[l]? = some a) (hf : ∀ o u, H a ≠ some (.frz o u)) (hm : HoldM K G B ρ (upd H a o) a m) : Sim K G B ρ (S.set l m) (upd H a o) := by
  have hmem := List.mem_of_getElem? e
  have hb := s.off a hmem
  have nt : ∀ ps, H a ≠ some (.tbl ps) := fun ps z => by
    have hl : l < S.length := by rw [← s.len]; exact (List.getElem?_eq_some_iff.mp e).1
    obtain ⟨a2, e2, hm2⟩ := s.obj l _ (List.getElem?_eq_getElem hl)
    rw [e] at e2; cases e2
    exact hm2.notbl ps z
  refine ⟨fun b u z => ?_, by rw [List.length_set]; exact s.len, s.nd, s.off, fun j m' ej => ?_, fun b u z => ?_, ?_, s.ntb⟩
  · rw [upd_ne (ne_of_none z hb)]; exact s.sub b u z
  · by_cases hj : j = l
    · subst hj
      have hl : j < S.length := by rw [← s.len]; exact (List.getElem?_eq_some_iff.mp e).1
      rw [List.getElem?_set_self hl] at ej
      cases ej
      exact ⟨a, e, hm⟩
    · rw [List.getElem?_set_ne (Ne.symm hj)] at ej
      obtain ⟨b, eb, hm'⟩ := s.obj j m' ej
      refine ⟨b, eb, hm'.up Le.refl (upd_ne fun z => hj ?_)⟩
      subst z
      obtain ⟨h1, e1⟩ := List.getElem?_eq_some_iff.mp eb
      obtain ⟨h2, e2⟩ := List.getElem?_eq_some_iff.mp e
      exact (List.getElem_inj s.nd).mp (e1.trans e2.symm)
  · obtain ⟨f1, f2, f3⟩ := s.frm b u z
    exact ⟨by
      rw [upd_ne (show b ≠ a from fun q => by
        obtain ⟨o', u', rfl⟩ := f3.mp (by rw [q]; exact hmem)
        rw [q] at f1; exact hf _ _ f1)]
      exact f1, f2, f3⟩
  · intro q hq
    obtain ⟨ps, h1, h2, h3⟩ := s.tab q hq
    have ne : q.1 ≠ a := fun z => nt ps (by rw [← z]; exact h1)
    refine ⟨ps, by rw [upd_ne ne]; exact h1, h2, fun pos cv hc => ?_⟩
    obtain ⟨c, e1, e2⟩ := h3 pos cv hc
    have hl : l < S.length := by rw [← s.len]; exact (List.getElem?_eq_some_iff.mp e).1
    obtain ⟨a2, ea2, hm2⟩ := s.obj l _ (List.getElem?_eq_getElem hl)
    rw [e] at ea2; cases ea2
    exact ⟨c, e1, by rw [upd_ne (show c ≠ a from fun z => hm2.nocode _ (by rw [← z]; exact e2))]; exact e2⟩
/-- a dict is locked -/
theorem Sim.lock (s : Sim K G B ρ S H) {l : Nat} {a : Addr} {kd : List (D × D)} {ks : List Ent} {b : Obj} (e : ρ[l]? = some a) (hs : S[l]? = some (.dn false kd)) (hH : H a = some (DnO G.w a ks)) (r : RepN K G B ρ ks kd) :
    G.fr a = none ∧ Sim K (G.put (upd G.fr a (.frz b (DnO G.w a ks)))) B ρ (S.set l (.dn true kd)) (upd H a (.frz b (DnO G.w a ks))) := by
  have hmem := List.mem_of_getElem? e
  have hb := s.off a hmem
  have hf : G.fr a = none := by
    cases q : G.fr a with
    | none => rfl
    | some u =>
      obtain ⟨f1, _, f3⟩ := s.frm a u q
      obtain ⟨_, _, rfl⟩ := f3.mp hmem
      rw [hH] at f1; unfold DnO at f1; cases f1
  have nc : ∀ c q, c = a → H c ≠ some (LamX.CodeO c q) := fun c q z y => by
    subst z
    rw [hH] at y
    exact DnO_code (Option.some.inj y) rfl
  refine ⟨hf, fun c u z => ?_, by rw [List.length_set]; exact s.len, s.nd, s.off, fun j m' ej => ?_, fun c u z => ?_, ?_, ⟨s.ntb.1, s.ntb.2.upd fun _ z => by cases z⟩⟩
  · rw [upd_ne (ne_of_none z hb)]; exact s.sub c u z
  · by_cases hj : j = l
    · subst hj
      have hl : j < S.length := by rw [← s.len]; exact (List.getElem?_eq_some_iff.mp e).1
      rw [List.getElem?_set_self hl] at ej
      cases ej
      exact ⟨a, e, b, ks, upd_same, upd_same, r⟩
    · rw [List.getElem?_set_ne (Ne.symm hj)] at ej
      obtain ⟨c, eb, hm'⟩ := s.obj j m' ej
      have hne : c ≠ a := fun z => hj (by
        subst z
        obtain ⟨h1, e1⟩ := List.getElem?_eq_some_iff.mp eb
        obtain ⟨h2, e2⟩ := List.getElem?_eq_some_iff.mp e
        exact (List.getElem_inj s.nd).mp (e1.trans e2.symm))
      refine ⟨c, eb, HoldM.put (φ := upd G.fr a (.frz b (DnO G.w a ks))) (fun o u z => by rw [upd_ne hne]; exact z) (hm'.up Le.refl (upd_ne hne))⟩
  · have z : upd G.fr a (.frz b (DnO G.w a ks)) c = some u := z
    by_cases hc : c = a
    · subst hc
      rw [upd_same] at z; cases z
      exact ⟨upd_same, hb, fun _ => ⟨_, _, rfl⟩, fun _ => hmem⟩
    · rw [upd_ne hc] at z
      obtain ⟨g1, g2, g3⟩ := s.frm c u z
      exact ⟨by rw [upd_ne hc]; exact g1, g2, g3⟩
  · intro q hq
    obtain ⟨ps, h1, h2, h3⟩ := s.tab q hq
    have ne : q.1 ≠ a := fun z => by rw [z, hH] at h1; unfold DnO at h1; cases h1
    refine ⟨ps, by rw [upd_ne ne]; exact h1, h2, fun pos cv hc => ?_⟩
    obtain ⟨c, e1, e2⟩ := h3 pos cv hc
    exact ⟨c, e1, by rw [upd_ne (show c ≠ a from fun z => nc c _ z e2)]; exact e2⟩
/-- .. and let go again -/
theorem Sim.unlock {a : Addr} {b : Obj} {ks0 : List Ent} (s : Sim K (G.put (upd G.fr a (.frz b (DnO G.w a ks0)))) B ρ S H) (hf : G.fr a = none) {l : Nat} {kd : List (D × D)} (e : ρ[l]? = some a) (hs : S[l]? = some (.dn true kd)) :
    H a = some (.frz b (DnO G.w a ks0)) ∧ Sim K G B ρ (S.set l (.dn false kd)) (upd H a (DnO G.w a ks0)) := by
  obtain ⟨a', ea', b', ks, hH, hfr, r⟩ := s.obj _ _ hs
  rw [e] at ea'; cases ea'
  have hfr : upd G.fr a (.frz b (DnO G.w a ks0)) a = some (.frz b' (DnO G.w a ks)) := hfr
  rw [upd_same] at hfr
  have hfr := Option.some.inj hfr
  have hmem := List.mem_of_getElem? e
  have hb := s.off a hmem
  have eb : b = b' := by injection hfr
  have ek : DnO G.w a ks0 = DnO G.w a ks := by injection hfr
  have hH : H a = some (.frz b' (DnO G.w a ks)) := hH
  refine ⟨by rw [hH, eb, ek], fun c u z => ?_, by rw [List.length_set]; exact s.len, s.nd, s.off, fun j m' ej => ?_, fun c u z => ?_, ?_, ⟨s.ntb.1, s.ntb.2.out hf⟩⟩
  · rw [upd_ne (ne_of_none z hb)]; exact s.sub c u z
  · by_cases hj : j = l
    · subst hj
      have hl : j < S.length := by rw [← s.len]; exact (List.getElem?_eq_some_iff.mp e).1
      rw [List.getElem?_set_self hl] at ej
      cases ej
      exact ⟨a, e, ks, by rw [upd_same, ek], r⟩
    · rw [List.getElem?_set_ne (Ne.symm hj)] at ej
      obtain ⟨c, eb', hm'⟩ := s.obj j m' ej
      have hne : c ≠ a := fun z => hj (by
        subst z
        obtain ⟨h1, e1⟩ := List.getElem?_eq_some_iff.mp eb'
        obtain ⟨h2, e2⟩ := List.getElem?_eq_some_iff.mp e
        exact (List.getElem_inj s.nd).mp (e1.trans e2.symm))
      refine ⟨c, eb', HoldM.put (G := G.put (upd G.fr a (.frz b (DnO G.w a ks0)))) (φ := G.fr) (fun o u z => ?_) (hm'.up Le.refl (upd_ne hne))⟩
      have z : upd G.fr a (.frz b (DnO G.w a ks0)) c = _ := z
      rw [upd_ne hne] at z
      exact z
  · have hc : c ≠ a := ne_of_none z hf
    obtain ⟨g1, g2, g3⟩ := s.frm c u (by show upd G.fr a _ c = some u; rw [upd_ne hc]; exact z)
    exact ⟨by rw [upd_ne hc]; exact g1, g2, g3⟩
  · intro q hq
    obtain ⟨ps, h1, h2, h3⟩ := s.tab q hq
    have ne : q.1 ≠ a := fun z => by rw [z, hH] at h1; cases h1
    refine ⟨ps, by rw [upd_ne ne]; exact h1, h2, fun pos cv hc => ?_⟩
    obtain ⟨c, e1, e2⟩ := h3 pos cv hc
    exact ⟨c, e1, by rw [upd_ne (show c ≠ a from fun z => by rw [z, hH] at e2; unfold LamX.CodeO at e2; cases e2)]; exact e2⟩
/-- a thing of the frame is let go into the ground -/
theorem Sim.adopt {φ : Hp} {p : Addr} {o : HO} (s : Sim K (G.put (upd φ p o)) B ρ S H) (hn : φ p = none) (nf : ∀ b u, o ≠ .frz b u := by intro _ _ z; cases z) : Sim K (G.put φ) (upd B p o) ρ S H ∧ Le B ρ (upd B p o) ρ := by
  obtain ⟨f1, f2, f3⟩ := s.frm p o upd_same
  have f3 : p ∉ ρ := fun z => notF nf (f3.mp z)
  have le : Le B ρ (upd B p o) ρ := ⟨fun a u e => by rw [upd_ne (ne_of_none e f2)]; exact e, List.prefix_refl _⟩
  refine ⟨⟨fun a u e => ?_, s.len, s.nd, fun a ha => ?_, fun l m e => ?_, fun a u e => ?_, s.tab, ⟨s.ntb.1.upd s.ntb.2.self, s.ntb.2.out hn⟩⟩, le⟩
  · by_cases ha : a = p
    · subst ha; rw [upd_same] at e; cases e; exact f1
    · rw [upd_ne ha] at e; exact s.sub a u e
  · rw [upd_ne (show a ≠ p from fun e => f3 (by rw [← e]; exact ha))]; exact s.off a ha
  · obtain ⟨a, ea, hm⟩ := s.obj l m e
    refine ⟨a, ea, HoldM.up le rfl (hm.put (φ := φ) fun o' u' z => ?_)⟩
    have z : upd φ p o a = _ := z
    rw [upd_ne (show a ≠ p from fun q => f3 (by rw [← q]; exact List.mem_of_getElem? ea))] at z
    exact z
  · have e : φ a = some u := e
    have ne : a ≠ p := ne_of_none e hn
    obtain ⟨g1, g2, g3⟩ := s.frm a u (by show upd φ p o a = some u; rw [upd_ne ne]; exact e)
    exact ⟨g1, by rw [upd_ne ne]; exact g2, g3⟩
/-- a list of the frame changes -/
theorem Sim.turn {φ : Hp} {p : Addr} {vs ws : List V} (s : Sim K (G.put (upd φ p (.lst vs))) B ρ S H) : Sim K (G.put (upd φ p (.lst ws))) B ρ S (upd H p (.lst ws)) := by
  obtain ⟨f1, f2, f3⟩ := s.frm p _ upd_same
  have f3 : p ∉ ρ := fun z => notF (fun _ _ z => by cases z) (f3.mp z)
  refine ⟨fun a u e => ?_, s.len, s.nd, s.off, fun l m e => ?_, fun a u e => ?_, fun q hq => ?_, ⟨s.ntb.1, fun a ps z => ?_⟩⟩
  · rw [upd_ne (ne_of_none e f2)]; exact s.sub a u e
  · obtain ⟨a, ea, hm⟩ := s.obj l m e
    have hne : a ≠ p := fun z => f3 (by rw [← z]; exact List.mem_of_getElem? ea)
    refine ⟨a, ea, HoldM.put (G := G.put (upd φ p (.lst vs))) (φ := upd φ p (.lst ws)) (fun o' u' z => ?_) (hm.up Le.refl (upd_ne hne))⟩
    have z : upd φ p (.lst vs) a = _ := z
    rw [upd_ne hne] at z ⊢
    exact z
  · have e : upd φ p (.lst ws) a = some u := e
    by_cases ha : a = p
    · subst ha
      rw [upd_same] at e; cases e
      exact ⟨upd_same, f2, fun z => (f3 z).elim, fun ⟨_, _, z⟩ => by cases z⟩
    · rw [upd_ne ha] at e
      obtain ⟨g1, g2, g3⟩ := s.frm a u (by show upd φ p (.lst vs) a = some u; rw [upd_ne ha]; exact e)
      exact ⟨by rw [upd_ne ha]; exact g1, g2, g3⟩
  · obtain ⟨ps, h1, h2, h3⟩ := s.tab q hq
    have ne : q.1 ≠ p := fun z => by rw [z, f1] at h1; cases h1
    refine ⟨ps, by rw [upd_ne ne]; exact h1, h2, fun pos cv hc => ?_⟩
    obtain ⟨c, e1, e2⟩ := h3 pos cv hc
    refine ⟨c, e1, ?_⟩
    rw [upd_ne (show c ≠ p from fun z => by rw [z, f1] at e2; unfold LamX.CodeO at e2; cases e2)]
    exact e2
  · have z : upd φ p (.lst ws) a = some (.tbl ps) := z
    by_cases e : a = p
    · subst e; rw [upd_same] at z; cases z
    · rw [upd_ne e] at z
      exact s.ntb.2 a ps (by show upd φ p (.lst vs) a = _; rw [upd_ne e]; exact z)
/-- a new thing beside all -/
theorem Sim.beside (s : Sim K G B ρ S H) {p : Addr} {o : HO} (h : H p = none) (ho : ∀ ps, o ≠ .tbl ps := by intro _ z; cases z) (nf : ∀ b u, o ≠ .frz b u := by intro _ _ z; cases z) : G.fr p = none ∧ Sim K (G.put (upd G.fr p o)) B ρ S (upd H p o) := by
  obtain ⟨hb, hp⟩ := s.fresh h
  have hf : G.fr p = none := by
    cases e : G.fr p with
    | none => rfl
    | some u => rw [(s.frm p u e).1] at h; cases h
  have ext : ∀ b u, H b = some u → upd H p o b = some u := fun b u e => by rw [upd_ne (ne_of_none e h)]; exact e
  refine ⟨hf, fun a u e => ext _ _ (s.sub a u e), s.len, s.nd, s.off, fun l m e => ?_, fun a u e => ?_, s.tab.ext ext, ⟨s.ntb.1, s.ntb.2.upd ho⟩⟩
  · obtain ⟨a, ea, hm⟩ := s.obj l m e
    obtain ⟨o', ho⟩ := hm.there
    refine ⟨a, ea, HoldM.put (φ := upd G.fr p o) (fun o' u' z => ?_) (hm.up Le.refl ((ext _ _ ho).trans ho.symm))⟩
    rw [upd_ne (ne_of_none z hf)]
    exact z
  · have e : upd G.fr p o a = some u := e
    by_cases ha : a = p
    · subst ha
      rw [upd_same] at e; cases e
      exact ⟨upd_same, hb, fun z => (hp z).elim, fun z => (notF nf z).elim⟩
    · rw [upd_ne ha] at e
      obtain ⟨g1, g2, g3⟩ := s.frm a u e
      exact ⟨ext _ _ g1, g2, g3⟩
theorem Sim.notb (s : Sim K G B ρ S H) {a : Addr} (h : a ∈ ρ) : ∀ ps, H a ≠ some (.tbl ps) := by
  obtain ⟨l, hl, rfl⟩ := List.getElem_of_mem h
  have h2 : l < S.length := by rw [← s.len]; exact hl
  obtain ⟨a, e, m⟩ := s.obj l _ (List.getElem?_eq_getElem h2)
  rw [List.getElem?_eq_getElem hl] at e
  cases e
  exact m.notbl
end
end Mi
end
section
set_option autoImplicit false
set_option linter.all false
set_option maxRecDepth 100000
/-! MiN5: a, b = a list; a tuple once -/
namespace L2
open PySem PySem.Spec PyProof.Rows
section
variable {prog : Program} {w : World} {A : Around} {E : Value → Shared → Prop} {s : Shared}
theorem assign_Tuple_list {env : Env} {elts : List Expr} {x1} {pos : Pos} {t : Addr} {items : Array Value} {Q : Unit → Shared → Prop} (hh : A.handled = none) (ht : s.heap.IsList t items)
    (hn : (assignEach elts env).length = items.size) (hstar : (assignEach elts env).findIdx? (·.1) = none)
    (h : ∀ h', Heap.ExtBut s.heap.objs.size s.heap h' → wpAny (model prog w) A (assignInOrder ((assignEach elts env).map (·.2)) items.toList) Q E { s with heap := h' }) :
    wpAny (model prog w) A (assign (.Tuple elts x1 pos) env (.ref t)) Q E s := by
  rw [assign_Tuple]
  refine wpAny_bind (wpAny_standAt ?_)
  unfold unpack
  rw [hn, hstar]
  exact wpAny_bind (wpAny_holding (PySem.W.kun_itemsOf hh ht h))
end
section
variable {X : Cx} {pos : Pos}
/-- (a, b, ..) = a tuple or a list of that length -/
def gSeq (K : PySem.W.Frag) (n : Nat) (t : TGs) : TG := fun v σ H Q => ∃ a xs, v = .ref a ∧ (SqT K H a xs ∨ SqL K H a xs) ∧ xs.length = n ∧ t xs σ H Q
theorem pg_seq {es : List Expr} {k : Nat} {t : TGs} {n : Nat} (hc : X.calm = true) (h : PGs X es t)
    (hn : (assignEach es X.env).length = n := by rfl) (hst : (assignEach es X.env).findIdx? (·.1) = none := by rfl) : PG X (.Tuple es k pos) (gSeq X.K n t) := by
  refine ⟨fun pins s σ H v u Q I r hw => ?_⟩
  obtain ⟨a, xs, e1, hq, hl, hw⟩ := hw
  subst e1
  cases r
  rcases hq with hq | hq
  · obtain ⟨its, rv, ht, hz⟩ := I.tuple hq
    refine assign_Tuple_tuple (I.ok.hd hc) ht (by simp [hn, ← hl, rv.length]) hst fun h' hx => ?_
    have I1 : Inv X pins σ H { s with heap := h' } := I.kept (t' := s.toks) fun b o e => hx b o (Nat.ne_of_lt (Heap.lt_size e)) e
    exact h.run pins _ σ H xs _ Q I1 (by simpa using rv) hw
  · obtain ⟨its, rv, ht, hz⟩ := I.list hq
    refine assign_Tuple_list (I.ok.hd hc) ht.isList (by simp [hn, ← hl, rv.length]) hst fun h' hx => ?_
    have I1 : Inv X pins σ H { s with heap := h' } := I.kept (t' := s.toks) fun b o e => hx b o (Nat.ne_of_lt (Heap.lt_size e)) e
    exact h.run pins _ σ H xs _ Q I1 (by simpa using rv) hw
theorem tuple_mul1 (l : Addr) (items : Array Value) (n : Nat) (dd : Option Addr) (sl : Array (Option Value)) (u : Tok) :
    Meets (Builtin.«tuple.__mul__» ⟨[.ref l, .int 1 u], []⟩) (fun _ R s => s.heap.get? l = some { cls := .type "tuple", dict := dd, data := .seq items n, slots := sl } ∧
      R (.ok (.ret (Value.ref l))) s) :=
  .of_wp fun prog w A R s h => by
    obtain ⟨hp, g, d, tk, os⟩ := s
    obtain ⟨hl, h⟩ := h
    have f1 := AutoSeq1.idx_int
    wp_walk using wpAny_loadPart' hl
    exact ⟨_, rfl, h⟩
def rRep1 (K : PySem.W.Frag) : R2 := fun x y H Q => ∃ l xs, x = .ref l ∧ y = .int 1 ∧ SqT K H l xs ∧ Q (.ref l) H
theorem op_rep1 : OpR X (binaryOp .Mult) (rRep1 X.K) := by
  intro pins s σ H x y v u Q I rx ry h
  obtain ⟨l, xs, rfl, rfl, hT, q⟩ := h
  cases rx
  obtain ⟨t, rfl⟩ := ry
  obtain ⟨its, r, ⟨⟨cls, dd, data, sl⟩, ho, hc, n, hd⟩, hs⟩ := I.tuple hT
  simp only at hc hd
  subst hc hd
  refine wpAny_binaryOp_repeat_ref (T := "tuple") (U := "int") (by decide) ⟨_, ho, rfl⟩ (fun s' => typeIs_int s' 1 t) noFill_tuple_mul F.fills_int_mul F.slot_int_rmul repeat_tuple F.slot_int_index.lookup
    (call_meets F.slot_int_rmul (typeIs_int s 1 t) F.entry_int_rmul (F.args_int_rmul_2 _ _) (int_rmul_tuple 1 t l its.toArray n dd sl)
      ⟨ho, rfl, ⟨_, ho, rfl⟩, call_meets F.slot_tuple_mul ⟨_, ho, rfl⟩ F.entry_tuple_mul (F.args_tuple_mul_2 _ _) (tuple_mul1 l its.toArray n dd sl t) ⟨ho, ?_⟩⟩)
  exact ⟨.ref l, _, I, rfl, q⟩
end
end L2
end
section
set_option autoImplicit false
set_option linter.all false
set_option maxRecDepth 100000
/-! MiN7: max and min of a tuple, a tuple no times, a text some times -/
namespace PySem
open PySem
section
variable {prog : Program} {w : World} {A : Around} {E : Value → Shared → Prop} {s : Shared} {l : Addr} {xs : Array (Int × Tok)}
theorem iter_intTup {Q : Value → Shared → Prop} (hl : s.heap.IsTuple l (intItems xs))
    (h : ∀ s₂ : Shared, s₂ = { s with heap := s.heap.push { cls := .type "tuple_iterator", data := .fields #[.ref l, .int 0 0] } } →
      (s₂.heap.IsTupleIter s.heap.objs.size l 0 ∧ s₂.heap.IsTuple l (intItems xs)) → (∀ b ∈ [s.heap.objs.size, l], b < s₂.heap.objs.size) → l ≠ s.heap.objs.size → Q (.ref s.heap.objs.size) s₂) :
    wpAny (model prog w) A (pyIter (.ref l)) Q E s := by
  have hlt : l < s.heap.objs.size := by obtain ⟨_, e, _⟩ := hl; exact Heap.lt_size e
  have hT : (s.heap.push { cls := .type "tuple_iterator", data := .fields #[.ref l, .int 0 0] }).IsTuple l (intItems xs) := by
    obtain ⟨o, e, r⟩ := hl
    exact ⟨o, Heap.get?_push_of_some _ e, r⟩
  refine wpAny_pyIter_tuple hl (h _ rfl ⟨⟨_, Heap.get?_push_size _ rfl, rfl, rfl⟩, hT⟩ (fun b hb => ?_) (Nat.ne_of_lt hlt))
  show b < (s.heap.push _).objs.size
  rw [Heap.size_push]
  rcases List.mem_cons.mp hb with rfl | hb
  · exact Nat.lt_succ_self _
  · rcases List.mem_cons.mp hb with rfl | hb
    · exact Nat.lt_succ_of_lt hlt
    · cases hb
theorem max_intTup {Q : Value → Shared → Prop} (hh : A.handled = none) (hl : s.heap.IsTuple l (intItems xs)) (hne : 0 < xs.size)
    (h : ∀ v h' tk, (intItems xs)[argBest (fun i j => decide (numAt xs i > numAt xs j)) (xs.size - 1)]? = some v → (∀ b o, s.heap.get? b = some o → h'.get? b = some o) → Q v { s with heap := h', toks := tk }) :
    wpAny (model prog w) A (call (.builtin "max") [.ref l]) Q E s := by
  refine call_max_walk (iter_intTup hl fun s₂ e st hfp hlI => ?_)
  subst e
  refine ⟨_, _, _, _, _, _, _, rfl, Walks.tuple (A := A.in1) hh _ l hlI (intItems xs), st, hfp, by simpa [intItems] using hne, CmpOf.ints_gt (numAt xs) (fun _ _ => intItems_at), fun v h' tk hP hk => ?_⟩
  exact h v h' tk (by simpa [intItems] using hP) fun b o e => hk b o (by rw [List.mem_singleton]; exact Nat.ne_of_lt (Heap.lt_size e)) (Heap.get?_push_of_some _ e)
theorem min_intTup {Q : Value → Shared → Prop} (hh : A.handled = none) (hl : s.heap.IsTuple l (intItems xs)) (hne : 0 < xs.size)
    (h : ∀ v h' tk, (intItems xs)[argBest (fun i j => decide (numAt xs i < numAt xs j)) (xs.size - 1)]? = some v → (∀ b o, s.heap.get? b = some o → h'.get? b = some o) → Q v { s with heap := h', toks := tk }) :
    wpAny (model prog w) A (call (.builtin "min") [.ref l]) Q E s := by
  refine call_min_walk (iter_intTup hl fun s₂ e st hfp hlI => ?_)
  subst e
  refine ⟨_, _, _, _, _, _, _, rfl, Walks.tuple (A := A.in1) hh _ l hlI (intItems xs), st, hfp, by simpa [intItems] using hne, CmpOf.ints_lt (numAt xs) (fun _ _ => intItems_at), fun v h' tk hP hk => ?_⟩
  exact h v h' tk (by simpa [intItems] using hP) fun b o e => hk b o (by rw [List.mem_singleton]; exact Nat.ne_of_lt (Heap.lt_size e)) (Heap.get?_push_of_some _ e)
end
end PySem
namespace L2
open PySem PySem.Spec PyProof.Rows
section
variable {prog : Program} {w : World} {A : Around} {E : Value → Shared → Prop} {s : Shared} {l : Addr} {its : List Value} {ns : List Int} {Q : Value → Shared → Prop}
theorem maxT_raw (hh : A.handled = none) (hl : IsTup s.heap l its.toArray) (hi : IntsAre its ns) (hne : 0 < ns.length)
    (h : ∀ h' tk M t', (∀ b o, s.heap.get? b = some o → h'.get? b = some o) → M ∈ ns → (∀ a, a ∈ ns → a ≤ M) → Q (.int M t') { s with heap := h', toks := tk }) : wpAny (model prog w) A (call (.builtin "max") [.ref l]) Q E s := by
  obtain ⟨xs, e⟩ := hi.allInts.items
  have hn : numsOf (intItems xs).toList = ns := by rw [← e]; exact hi.numsOf
  rw [nums_intItems] at hn
  subst hn
  rw [e] at hl
  have hsz : 0 < xs.size := by simpa using hne
  refine PySem.max_intTup hh hl hsz fun v h' tk hv hk => ?_
  obtain ⟨t, rfl⟩ := intItems_at hv
  obtain ⟨h1, h2⟩ := argBest_gt (numAt xs) (xs.size - 1)
  refine h h' tk _ t hk ?_ fun a ha => ?_
  · rw [numAt_eq]; exact PySem.getD_mem (by rw [List.length_map, Array.length_toList]; omega)
  · obtain ⟨j, hj, rfl⟩ := mem_getD ha
    rw [List.length_map, Array.length_toList] at hj
    rw [← numAt_eq]; exact h2 j (by omega)
theorem minT_raw (hh : A.handled = none) (hl : IsTup s.heap l its.toArray) (hi : IntsAre its ns) (hne : 0 < ns.length)
    (h : ∀ h' tk M t', (∀ b o, s.heap.get? b = some o → h'.get? b = some o) → M ∈ ns → (∀ a, a ∈ ns → M ≤ a) → Q (.int M t') { s with heap := h', toks := tk }) : wpAny (model prog w) A (call (.builtin "min") [.ref l]) Q E s := by
  obtain ⟨xs, e⟩ := hi.allInts.items
  have hn : numsOf (intItems xs).toList = ns := by rw [← e]; exact hi.numsOf
  rw [nums_intItems] at hn
  subst hn
  rw [e] at hl
  have hsz : 0 < xs.size := by simpa using hne
  refine PySem.min_intTup hh hl hsz fun v h' tk hv hk => ?_
  obtain ⟨t, rfl⟩ := intItems_at hv
  obtain ⟨h1, h2⟩ := argBest_lt (numAt xs) (xs.size - 1)
  refine h h' tk _ t hk ?_ fun a ha => ?_
  · rw [numAt_eq]; exact PySem.getD_mem (by rw [List.length_map, Array.length_toList]; omega)
  · obtain ⟨j, hj, rfl⟩ := mem_getD ha
    rw [List.length_map, Array.length_toList] at hj
    rw [← numAt_eq]; exact h2 j (by omega)
end
section
variable {X : Cx}
def rMaxT (K : PySem.W.Frag) : List V → Hp → VK → Prop := fun vs H Q => ∃ (a : Addr) (ns : List Int), vs = [V.ref a] ∧ SqT K H a (ns.map V.int) ∧ 0 < ns.length ∧ ∀ m, m ∈ ns → (∀ y, y ∈ ns → y ≤ m) → Q (.int m) H
def rMinT (K : PySem.W.Frag) : List V → Hp → VK → Prop := fun vs H Q => ∃ (a : Addr) (ns : List Int), vs = [V.ref a] ∧ SqT K H a (ns.map V.int) ∧ 0 < ns.length ∧ ∀ m, m ∈ ns → (∀ y, y ∈ ns → m ≤ y) → Q (.int m) H
theorem cr_maxT (hc : X.calm = true) : CallR X (.builtin "max") (rMaxT X.K) := by
  intro pins s σ H vs us Q I r h
  obtain ⟨a, ns, rfl, hs, hne, q⟩ := h
  obtain ⟨its, rv, hl, _⟩ := I.tuple hs
  rw [Vals.ref1 r]
  exact maxT_raw (I.ok.hd hc) hl rv.ints hne fun h' tk m t' hk h1 h2 => ⟨.int _, H, I.kept hk, ⟨_, rfl⟩, q m h1 h2⟩
theorem cr_minT (hc : X.calm = true) : CallR X (.builtin "min") (rMinT X.K) := by
  intro pins s σ H vs us Q I r h
  obtain ⟨a, ns, rfl, hs, hne, q⟩ := h
  obtain ⟨its, rv, hl, _⟩ := I.tuple hs
  rw [Vals.ref1 r]
  exact minT_raw (I.ok.hd hc) hl rv.ints hne fun h' tk m t' hk h1 h2 => ⟨.int _, H, I.kept hk, ⟨_, rfl⟩, q m h1 h2⟩
theorem tuple_mul0 (l : Addr) (items : Array Value) (n : Nat) (dd : Option Addr) (sl : Array (Option Value)) (x : Int) (u : Tok) (c0 : (decide (x < -(2 ^ 63)) || decide (x ≥ 2 ^ 63)) = false) (c1 : (items.isEmpty || x == 1) = false) (c2 : (decide (x ≤ 0) || items.isEmpty) = true) :
    Meets (Builtin.«tuple.__mul__» ⟨[.ref l, .int x u], []⟩) (fun _ R s => s.heap.get? l = some { cls := .type "tuple", dict := dd, data := .seq items n, slots := sl } ∧
      R (.ok (.ret (Value.ref s.heap.objs.size))) { s with heap := s.heap.push { cls := Value.type "tuple", data := Data.seq #[] }, toks := s.toks }) :=
  .of_wp fun prog w A R s h => by
    obtain ⟨hp, g, d, tk, os⟩ := s
    obtain ⟨hl, h⟩ := h
    have f1 := AutoSeq1.idx_int
    wp_walk using wpAny_loadPart' hl
    repeat (first
      | (refine wpAny_ite_false (decide_eq_false (by rw [c0]; exact Bool.false_ne_true)) ?_; wp_walk using wpAny_loadPart' hl)
      | (refine wpAny_ite_false (decide_eq_false (by rw [c1]; exact Bool.false_ne_true)) ?_; wp_walk using wpAny_loadPart' hl)
      | (refine wpAny_ite_true (decide_eq_true c2) ?_; wp_walk using wpAny_loadPart' hl))
    exact ⟨_, rfl, h⟩
def rRep0 (K : PySem.W.Frag) : R2 := fun x y H Q => ∃ l k xs, x = .ref l ∧ y = .int k ∧ SqT K H l xs ∧ xs ≠ [] ∧ -1000 ≤ k ∧ k ≤ 0 ∧ ∀ p, H p = none → Q (.ref p) (upd H p (.tup []))
theorem op_rep0 : OpR X (binaryOp .Mult) (rRep0 X.K) := by
  intro pins s σ H x y v u Q I rx ry h
  obtain ⟨l, k, xs, rfl, rfl, hT, hne, h1, h2, q⟩ := h
  cases rx
  obtain ⟨t, rfl⟩ := ry
  obtain ⟨its, r, ⟨⟨cls, dd, data, sl⟩, ho, hc, n, hd⟩, hs⟩ := I.tuple hT
  simp only at hc hd
  subst hc hd
  have hle : its.length = xs.length := r.length.symm
  have hi : its.toArray.isEmpty = false := by
    cases its with
    | nil => exact absurd (List.eq_nil_of_length_eq_zero hle.symm) hne
    | cons a b => rfl
  have c0 : (decide (k < -(2 ^ 63)) || decide (k ≥ 2 ^ 63)) = false := by
    rw [decide_eq_false (by omega), decide_eq_false (by omega)] <;> rfl
  have c1 : (its.toArray.isEmpty || k == 1) = false := by
    rw [hi, Bool.false_or]
    exact beq_eq_false_iff_ne.mpr (by omega)
  have c2 : (decide (k ≤ 0) || its.toArray.isEmpty) = true := by
    rw [decide_eq_true h2]; rfl
  refine wpAny_binaryOp_repeat_ref (T := "tuple") (U := "int") (by decide) ⟨_, ho, rfl⟩ (fun s' => typeIs_int s' k t) noFill_tuple_mul F.fills_int_mul F.slot_int_rmul repeat_tuple F.slot_int_index.lookup
    (call_meets F.slot_int_rmul (typeIs_int s k t) F.entry_int_rmul (F.args_int_rmul_2 _ _) (int_rmul_tuple k t l its.toArray n dd sl)
      ⟨ho, rfl, ⟨_, ho, rfl⟩, call_meets F.slot_tuple_mul ⟨_, ho, rfl⟩ F.entry_tuple_mul (F.args_tuple_mul_2 _ _) (tuple_mul0 l its.toArray n dd sl k t c0 c1 c2) ⟨ho, ?_⟩⟩)
  refine ⟨.ref s.heap.objs.size, _, I.laid (t' := s.toks) (o := .tup []) (fun b ob q => Heap.get?_push_of_some _ q) (Nat.le_refl _) ?_, rfl, q _ (I.hok.fresh (Nat.le_refl _))⟩
  exact ⟨Nat.zero_le _, [], .nil, IsTup.new _ _⟩
def rRepS : R2 := fun x y H Q => ∃ (z : Str) (k : Int), x = .str z ∧ y = .int k ∧ 1 ≤ k ∧ k ≤ 1000 ∧ z.length ≤ 1000 ∧ (Mi.repS z k.toNat).length ≤ sizeLine ∧ Q (.str (Mi.repS z k.toNat)) H
theorem op_repS : OpR X (binaryOp .Mult) rRepS := by
  intro pins s σ H x y v u Q I rx ry h
  obtain ⟨z, k, rfl, rfl, h1, h2, h3, h4, q⟩ := h
  obtain ⟨t, rfl⟩ := rx
  obtain ⟨t', rfl⟩ := ry
  refine PySem.P.mul_str ?_ (fun _ _ => ?_) (fun _ _ => ?_) ?_
  · rw [decide_eq_false (by omega), decide_eq_false (by omega)] <;> rfl
  · have : (2 ^ 63 - 1) / 1000 ≤ ((2 ^ 63 - 1) / k : Int) := Int.le_ediv_of_mul_le (by omega) (by
      have : (2 ^ 63 - 1 : Int) / 1000 * k ≤ (2 ^ 63 - 1 : Int) / 1000 * 1000 := Int.mul_le_mul_of_nonneg_left h2 (by decide)
      omega)
    omega
  · have : z.length * k.toNat ≤ 1000 * 1000 := Nat.mul_le_mul h3 (by omega)
    unfold PySem.Builtin.Str.tooLong
    rw [sizeLine_eq]
    exact decide_eq_false (by omega)
  · obtain ⟨n, rfl⟩ := Int.eq_ofNat_of_zero_le (show 0 ≤ k by omega)
    rw [if_neg (by omega)]
    rw [Int.toNat_natCast] at h4 q ⊢
    have e1 : ((n : Int) == 1) = (n == 1) := by
      by_cases e : n = 1
      · subst e; rfl
      · rw [beq_eq_false_iff_ne.mpr e, beq_eq_false_iff_ne.mpr (by omega)]
    rw [e1]
    unfold Mi.repS at h4 q
    split
    · rename_i e
      rw [if_pos e] at h4 q
      exact ⟨.str z, H, I, ⟨t, rfl⟩, q⟩
    · rename_i e
      rw [if_neg e] at h4 q
      exact ⟨h4, .str _, H, I.tok _, ⟨_, rfl⟩, q⟩
end
end L2
end
section
set_option autoImplicit false
set_option linter.all false
set_option maxRecDepth 100000
/-! Mi5: operators on values that stand for trees -/
namespace Mi
open PySem PySem.Spec PyProof.Rows L2

theorem LIM_eq : LIM = sizeLine := by rw [sizeLine_eq]; rfl

section
variable {K : PySem.W.Frag} {G : Ga} {B : Hp} {ρ : List Addr} {S : Sto} {H : Hp} {x : V} {a d : D}
/-- what is wanted of a value that stands for d -/
def Post (K : PySem.W.Frag) (G : Ga) (B : Hp) (ρ : List Addr) (S : Sto) (d : D) (Q : VK) : Prop :=
  ∀ (u : V) (H' : Hp) (B' : Hp) (ρ' : List Addr), Le B ρ B' ρ' → Sim K G B' ρ' S H' → Rep K G B' ρ' u d → Q u H'
theorem Post.here {Q : VK} {u : V} (q : Post K G B ρ S d Q) (s : Sim K G B ρ S H) (r : Rep K G B ρ u d) : Q u H := q u H B ρ Le.refl s r
theorem Post.tup {Q : VK} {vs : List V} {ds : List D} (q : Post K G B ρ S (.tup ds) Q) (s : Sim K G B ρ S H) (r : Reps K G B ρ vs ds) : ∀ p, H p = none → Q (.ref p) (upd H p (.tup vs)) := fun p hp =>
  let ⟨s', le⟩ := s.lay (o := .tup vs) hp
  q _ _ _ _ le s' (.tup (.inl upd_same) (r.up le))
theorem Post.lst {Q : VK} {vs : List V} {ds : List D} (q : Post K G B ρ S (.lst ds) Q) (s : Sim K G B ρ S H) (r : Reps K G B ρ vs ds) : ∀ p, H p = none → Q (.ref p) (upd H p (.lst vs)) := fun p hp =>
  let ⟨s', le⟩ := s.lay (o := .lst vs) hp
  q _ _ _ _ le s' (.lst upd_same (r.up le))
theorem Post.up {Q : VK} {B' : Hp} {ρ' : List Addr} (q : Post K G B ρ S d Q) (le : Le B ρ B' ρ') : Post K G B' ρ' S d Q := fun u H' B2 ρ2 l s r => q u H' B2 ρ2 (le.trans l) s r

/-- the trees' forms, and what stands behind them -/
theorem der_lst (s : Sim K G B ρ S H) (r : Rep K G B ρ x a) {xs : List D} (e : der S a = .lst xs) : ∃ p vs, x = .ref p ∧ H p = some (.lst vs) ∧ Reps K G B ρ vs xs := by
  cases r with
  | lst h r => cases e; exact ⟨_, _, rfl, s.sub _ _ h, r⟩
  | @loc p l h =>
    unfold der at e
    simp only at e
    split at e
    · rename_i ys hs
      cases e
      obtain ⟨p', ep, vs, hv, r⟩ := s.obj _ _ hs
      rw [h] at ep; cases ep
      exact ⟨_, vs, rfl, hv, r⟩
    · cases e
  | _ => cases e
theorem der_tup (s : Sim K G B ρ S H) (r : Rep K G B ρ x a) {xs : List D} (e : der S a = .tup xs) : ∃ p vs, x = .ref p ∧ SqT K H p vs ∧ Reps K G B ρ vs xs := by
  cases r with
  | tup h r => cases e; exact ⟨_, _, rfl, sqT_up s.sub h.sq, r⟩
  | loc h =>
    unfold der at e
    simp only at e
    split at e <;> cases e
  | _ => cases e
theorem der_scr (s : Sim K G B ρ S H) (r : Rep K G B ρ x a) {xs : List D} (e : der S a = .scr xs) : ∃ p vs, x = .ref p ∧ SqL K H p vs ∧ Reps K G B ρ vs xs := by
  cases r with
  | scr h r => cases e; exact ⟨_, _, rfl, sqL_up s.sub h, r⟩
  | loc h =>
    unfold der at e
    simp only at e
    split at e <;> cases e
  | _ => cases e
theorem der_int (r : Rep K G B ρ x a) {i : Int} (e : der S a = .int i) : x = .int i := by
  cases r with
  | int i => cases e; rfl
  | loc h => unfold der at e; simp only at e; split at e <;> cases e
  | _ => cases e
theorem der_str (r : Rep K G B ρ x a) {i : Str} (e : der S a = .str i) : x = .str i := by
  cases r with
  | str i => cases e; rfl
  | loc h => unfold der at e; simp only at e; split at e <;> cases e
  | _ => cases e
theorem der_bl (r : Rep K G B ρ x a) {i : Bool} (e : der S a = .bl i) : x = .bl i := by
  cases r with
  | bl i => cases e; rfl
  | loc h => unfold der at e; simp only at e; split at e <;> cases e
  | _ => cases e
theorem der_non (r : Rep K G B ρ x a) (e : der S a = .non) : x = .non := by
  cases r with
  | non => rfl
  | loc h => unfold der at e; simp only at e; split at e <;> cases e
  | _ => cases e
/-- a list or a tuple (or the script), read -/
theorem seq_of (s : Sim K G B ρ S H) (r : Rep K G B ρ x a) {xs : List D} (e : seqOf S a = some xs) : ∃ p vs, x = .ref p ∧ (SqL K H p vs ∨ SqT K H p vs) ∧ Reps K G B ρ vs xs := by
  unfold seqOf at e
  split at e
  · rename_i h; cases e
    obtain ⟨p, vs, e1, h1, h2⟩ := der_tup s r h
    exact ⟨p, vs, e1, .inr h1, h2⟩
  · rename_i h; cases e
    obtain ⟨p, vs, e1, h1, h2⟩ := der_lst s r h
    exact ⟨p, vs, e1, .inl (SqL.of h1), h2⟩
  · rename_i h; cases e
    obtain ⟨p, vs, e1, h1, h2⟩ := der_scr s r h
    exact ⟨p, vs, e1, .inl h1, h2⟩
  · cases e

/-! ### data -/
mutual
theorem rep_dp (sub : ∀ a o, B a = some o → H a = some o) : ∀ {x : V} {d : D} {p : PyData}, Rep K G B ρ x d → toP d = some p → Dp K H x p
  | _, _, _, .non, e => by cases e; exact .non
  | _, _, _, .bl b, e => by cases e; exact .bl b
  | _, _, _, .int b, e => by cases e; exact .int b
  | _, _, _, .str b, e => by cases e; exact .str b
  | _, _, _, .tup h r, e => by
    simp only [toP, Option.map_eq_some_iff] at e
    obtain ⟨ps, e, rfl⟩ := e
    exact .tup (sqT_up sub h.sq) (reps_dp sub r e)
  | _, _, _, .lst h r, e => by
    simp only [toP, Option.map_eq_some_iff] at e
    obtain ⟨ps, e, rfl⟩ := e
    exact .lst (SqL.of (sub _ _ h)) (reps_dp sub r e)
  | _, _, _, .scr _ _, e => by simp [toP] at e
  | _, _, _, .ins _ _, e => by simp [toP] at e
  | _, _, _, .dct _ _, e => by simp [toP] at e
  | _, _, _, .fn _, e => by simp [toP] at e
  | _, _, _, .cls _, e => by simp [toP] at e
  | _, _, _, .ty _, e => by simp [toP] at e
  | _, _, _, .loc _, e => by simp [toP] at e
theorem reps_dp (sub : ∀ a o, B a = some o → H a = some o) : ∀ {vs : List V} {ds : List D} {ps : List PyData}, Reps K G B ρ vs ds → toPs ds = some ps → DpAll K H vs ps
  | _, _, _, .nil, e => by cases e; exact .nil
  | _, _, _, .cons (d := d) (ds := ds) h r, e => by
    unfold toPs at e
    split at e
    · rename_i p ps h1 h2
      cases e
      exact .cons (rep_dp sub h h1) (reps_dp sub r h2)
    · cases e
end
mutual
theorem toP_plain : ∀ {d : D} {p : PyData}, toP d = some p → p.plain = true
  | .non, _, e => by cases e; rfl
  | .bl _, _, e => by cases e; rfl
  | .int _, _, e => by cases e; rfl
  | .str _, _, e => by cases e; rfl
  | .tup xs, _, e => by
    simp only [toP, Option.map_eq_some_iff] at e
    obtain ⟨ps, e, rfl⟩ := e
    exact toPs_plain e
  | .lst xs, _, e => by
    simp only [toP, Option.map_eq_some_iff] at e
    obtain ⟨ps, e, rfl⟩ := e
    exact toPs_plain e
  | .scr _, _, e => by simp [toP] at e
  | .ins _ _, _, e => by simp [toP] at e
  | .dct _, _, e => by simp [toP] at e
  | .fn _, _, e => by simp [toP] at e
  | .cls _, _, e => by simp [toP] at e
  | .ty _, _, e => by simp [toP] at e
  | .loc _, _, e => by simp [toP] at e
theorem toPs_plain : ∀ {ds : List D} {ps : List PyData}, toPs ds = some ps → PyData.plainAll ps = true
  | [], _, e => by cases e; rfl
  | d :: ds, _, e => by
    unfold toPs at e
    split at e
    · rename_i p ps h1 h2
      cases e
      show (p.plain && PyData.plainAll ps) = true
      rw [toP_plain h1, toPs_plain h2]; rfl
    · cases e
end
theorem der_dp (s : Sim K G B ρ S H) (r : Rep K G B ρ x a) {p : PyData} (e : toP (der S a) = some p) : Dp K H x p := by
  cases r with
  | @loc q l h =>
    unfold der at e
    simp only at e
    split at e
    · rename_i ys hs
      obtain ⟨p', ep, vs, hv, r⟩ := s.obj _ _ hs
      rw [h] at ep; cases ep
      simp only [toP, Option.map_eq_some_iff] at e
      obtain ⟨ps, e, rfl⟩ := e
      exact .lst (SqL.of hv) (reps_dp s.sub r e)
    · simp [toP] at e
  | non => exact rep_dp s.sub (K := K) (G := G) (ρ := ρ) .non e
  | bl b => exact rep_dp s.sub (K := K) (G := G) (ρ := ρ) (.bl b) e
  | int b => exact rep_dp s.sub (K := K) (G := G) (ρ := ρ) (.int b) e
  | str b => exact rep_dp s.sub (K := K) (G := G) (ρ := ρ) (.str b) e
  | tup h r => exact rep_dp s.sub (.tup h r) e
  | lst h r => exact rep_dp s.sub (.lst h r) e
  | _ => simp [der, toP] at e
end

section
variable {X : Cx} {pins : List (Addr × Obj)} {σ : L2.St} {H : Hp} {s : Shared} {G : Ga} {B : Hp} {ρ : List Addr} {S : Sto} {x y : V} {u w : Value} {a b d : D} {Q : VK}

theorem o_bin {o : Operator} (I : Inv X pins σ H s) (sim : Sim X.K G B ρ S H) (rx : RelV x u) (ry : RelV y w) (ra : Rep X.K G B ρ x a) (rb : Rep X.K G B ρ y b) (e : binD S o a b = some d) (q : Post X.K G B ρ S d Q) :
    wpAny (model X.prog X.w) X.A (binaryOp o u w) (EP X pins σ Q) X.xe s := by
  unfold binD at e
  split at e
  · rename_i i j h1 h2
    have ex := der_int ra h1
    have ey := der_int rb h2
    unfold binI at e
    split at e
    · cases e; exact op_add pins s σ H x y u w Q I rx ry ⟨i, j, ex, ey, q.here sim (.int _)⟩
    · cases e; exact op_sub pins s σ H x y u w Q I rx ry ⟨i, j, ex, ey, q.here sim (.int _)⟩
    · split at e
      · rename_i hg
        cases e; exact op_mulW pins s σ H x y u w Q I rx ry ⟨i, j, ex, ey, show i.natAbs.log2 + j.natAbs.log2 < 1000000 from of_decide_eq_true hg, q.here sim (.int _)⟩
      · cases e
    · split at e
      · rename_i hg
        obtain ⟨g1, g2⟩ := Bool.and_eq_true_iff.mp hg
        cases e; exact op_fdivW pins s σ H x y u w Q I rx ry ⟨i, j, ex, ey, ⟨of_decide_eq_true g1, of_decide_eq_true g2⟩, q.here sim (.int _)⟩
      · cases e
    · split at e
      · rename_i hg
        cases e; exact op_mod pins s σ H x y u w Q I rx ry ⟨i, j, ex, ey, of_decide_eq_true hg, q.here sim (.int _)⟩
      · cases e
    · split at e
      · rename_i hg
        obtain ⟨g1, g2⟩ := Bool.and_eq_true_iff.mp hg
        obtain ⟨g3, g4⟩ := Bool.and_eq_true_iff.mp g2
        cases e; exact op_pow pins s σ H x y u w Q I rx ry ⟨i, j, ex, ey, ⟨of_decide_eq_true g1, of_decide_eq_true g3, Nat.lt_of_lt_of_le (of_decide_eq_true g4) (by decide)⟩, q.here sim (.int _)⟩
      · cases e
    · cases e
  · rename_i i j h1 h2
    have ex := der_str ra h1
    have ey := der_str rb h2
    split at e
    · split at e
      · rename_i hg
        cases e; exact op_add_str pins s σ H x y u w Q I rx ry ⟨i, j, ex, ey, by rw [← LIM_eq]; exact hg, q.here sim (.str _)⟩
      · cases e
    · cases e
  · rename_i z k h1 h2
    have ex := der_str ra h1
    have ey := der_int rb h2
    split at e
    · split at e
      · rename_i hg
        simp only [Bool.and_eq_true, decide_eq_true_eq] at hg
        obtain ⟨⟨⟨g1, g2⟩, g3⟩, g4⟩ := hg
        cases e
        exact op_repS pins s σ H x y u w Q I rx ry ⟨z, k, ex, ey, g2, g3, g1, by rw [← LIM_eq]; exact g4, q.here sim (.str _)⟩
      · cases e
    · cases e
  · rename_i xs ys h1 h2
    obtain ⟨p1, v1, rfl, t1, r1⟩ := der_tup sim ra h1
    obtain ⟨p2, v2, rfl, t2, r2⟩ := der_tup sim rb h2
    split at e
    · split at e
      · rename_i hg
        cases e
        refine op_catA pins s σ H _ _ u w Q I rx ry ⟨p1, p2, v1, v2, rfl, rfl, t1, t2, by rw [← LIM_eq, r1.length, r2.length]; exact hg, fun e0 => ?_, fun _ e0 => ?_, fun _ _ => q.tup sim (r1.append r2)⟩
        · subst e0
          cases r1
          have hd : b = .tup ys := by
            cases rb with
            | tup h r => exact h2
            | loc h => unfold der at h2; simp only at h2; split at h2 <;> cases h2
            | _ => cases h2
          exact q.here sim (by rw [hd] at rb; exact rb)
        · subst e0
          cases r2
          have hd : a = .tup xs := by
            cases ra with
            | tup h r => exact h1
            | loc h => unfold der at h1; simp only at h1; split at h1 <;> cases h1
            | _ => cases h1
          rw [List.append_nil] at q
          exact q.here sim (by rw [hd] at ra; exact ra)
      · cases e
    · cases e
  · rename_i xs ys h1 h2
    obtain ⟨p1, v1, rfl, t1, r1⟩ := der_lst sim ra h1
    obtain ⟨p2, v2, rfl, t2, r2⟩ := der_lst sim rb h2
    split at e
    · split at e
      · rename_i hg
        cases e
        exact op_cat pins s σ H _ _ u w Q I rx ry ⟨p1, p2, v1, v2, rfl, rfl, t1, t2, by rw [← LIM_eq, r1.length, r2.length]; exact hg, q.lst sim (r1.append r2)⟩
      · cases e
    · cases e
  · rename_i xs k h1 h2
    obtain ⟨p1, v1, rfl, t1, r1⟩ := der_lst sim ra h1
    have ey := der_int rb h2
    split at e
    · split at e
      · rename_i hg
        obtain ⟨hg, g3⟩ := Bool.and_eq_true_iff.mp hg
        obtain ⟨g1, g2⟩ := Bool.and_eq_true_iff.mp hg
        have g1 := of_decide_eq_true g1
        have g2 := of_decide_eq_true g2
        have g3 := of_decide_eq_true g3
        cases e
        exact op_rep pins s σ H _ _ u w Q I rx ry ⟨p1, k, v1, rfl, ey, t1, by omega, by omega, by rw [sizeLine_eq, r1.length]; omega, q.lst sim (r1.rep _)⟩
      · cases e
    · cases e
  · rename_i xs k h1 h2
    obtain ⟨p1, v1, rfl, t1, r1⟩ := der_tup sim ra h1
    have ey := der_int rb h2
    split at e
    · split at e
      · rename_i hg
        obtain ⟨hg, g4⟩ := Bool.and_eq_true_iff.mp hg
        obtain ⟨hg, g3⟩ := Bool.and_eq_true_iff.mp hg
        obtain ⟨g1, g2⟩ := Bool.and_eq_true_iff.mp hg
        have g1 := of_decide_eq_true g1
        have g2 := of_decide_eq_true g2
        have g3 := of_decide_eq_true g3
        have g4 := of_decide_eq_true g4
        cases e
        by_cases e1 : k = 1
        · subst e1
          have ez : (List.replicate (1 : Int).toNat xs).flatten = xs := by simp [show (1 : Int).toNat = 1 from rfl]
          rw [ez] at q
          refine op_rep1 pins s σ H _ _ u w Q I rx ry ⟨p1, v1, rfl, ey, t1, ?_⟩
          have hd : a = .tup xs := by
            cases ra with
            | tup h r => exact h1
            | loc h => unfold der at h1; simp only at h1; split at h1 <;> cases h1
            | _ => cases h1
          exact q.here sim (by rw [hd] at ra; exact ra)
        · by_cases e0 : k ≤ 0
          · have ez : (List.replicate k.toNat xs).flatten = [] := by rw [Int.toNat_of_nonpos e0]; rfl
            rw [ez] at q
            exact op_rep0 pins s σ H _ _ u w Q I rx ry ⟨p1, k, v1, rfl, ey, t1, (fun z => by subst z; cases r1; simp at g1), g3, e0, q.tup sim .nil⟩
          · exact op_repT pins s σ H _ _ u w Q I rx ry ⟨p1, k, v1, rfl, ey, t1, (fun z => by subst z; cases r1; simp at g1), by omega, g4, by rw [r1.length]; exact g2, q.tup sim (r1.rep _)⟩
      · cases e
    · cases e
  · cases e

/-! data with dicts, as the library reads them -/
theorem pairs_keys {w : World} {P : Program} {h : Heap} : ∀ {es : List DictEntry} {vs : List (L2.Key × Value)}, Pairs (mixKind P w) es vs → ReadsAll h (es.map (·.key)) (vs.map fun q => kP q.1) [] ∧ es.map (·.val) = vs.map (·.2)
  | _, _, .nil => ⟨.nil, rfl⟩
  | _, _, .cons (kv := kv) h1 h2 h3 => by
    obtain ⟨q1, q2⟩ := pairs_keys (h := h) h3
    refine ⟨?_, by simp [h2, q2]⟩
    rw [mixKind_is] at h1
    obtain ⟨k, v⟩ := kv
    rcases keyIs_shape h1 with ⟨i, t, e1, e2⟩ | ⟨x, t, e1, e2⟩
    · simp only at e1
      subst e1
      simp only [List.map_cons, e2]
      exact ReadsAll.cons (Reads.int i t) q1
    · simp only at e1
      subst e1
      simp only [List.map_cons, e2]
      exact ReadsAll.cons (Reads.str x t) q1
mutual
theorem rep_reads (I : Inv X pins σ H s) (sub : ∀ a o, B a = some o → H a = some o) (sm : H sysModules = none) : ∀ {x : V} {d : D} {p : PyData} {u : Value}, Rep X.K G B ρ x d → toD d = some p → RelV x u → ∃ as, Reads s.heap u p as ∧ sysModules ∉ as
  | _, _, _, _, .non, e, r => by cases e; cases r; exact ⟨_, Reads.none, by simp⟩
  | _, _, _, _, .bl b, e, r => by cases e; cases r; exact ⟨_, Reads.bool b, by simp⟩
  | _, _, _, _, .int i, e, r => by cases e; obtain ⟨t, rfl⟩ := r; exact ⟨_, Reads.int i t, by simp⟩
  | _, _, _, _, .str x, e, r => by cases e; obtain ⟨t, rfl⟩ := r; exact ⟨_, Reads.str x t, by simp⟩
  | _, _, _, _, .tup h rr, e, r => by
    simp only [toD, Option.map_eq_some_iff] at e
    obtain ⟨ps, e, rfl⟩ := e
    cases r
    obtain ⟨its, rv, ⟨o, ho, hc, n, hd⟩, _⟩ := I.tuple (sqT_up sub h.sq)
    obtain ⟨as, hr, hn⟩ := reps_reads I sub sm rr e rv
    exact ⟨_, Reads.tuple ho hc hd hr, hn⟩
  | _, _, _, _, .lst (a := a) h rr, e, r => by
    simp only [toD, Option.map_eq_some_iff] at e
    obtain ⟨ps, e, rfl⟩ := e
    cases r
    obtain ⟨its, rv, ⟨o, n, ho, hc, _, hd⟩, _⟩ := I.list (SqL.of (sub _ _ h))
    obtain ⟨as, hr, hn⟩ := reps_reads I sub sm rr e rv
    refine ⟨_, Reads.list ho hc hd hr, fun z => ?_⟩
    rcases List.mem_cons.mp z with z | z
    · have := sub _ _ h
      rw [← z, sm] at this; cases this
    · exact hn z
  | _, _, _, _, .dct (a := a) h rr, e, r => by
    simp only [toD, Option.map_eq_some_iff] at e
    obtain ⟨ps, e, rfl⟩ := e
    cases r
    obtain ⟨_, hsm, vs, rv, o, es, ep, h1, h2, h3, h4, h5, h6⟩ := (show ObjOk X.prog X.w H s.heap _ (.dK _) from I.hok _ _ (sub _ _ h))
    obtain ⟨q1, as, q2, hn⟩ := repk_reads I sub sm rr e rv
    obtain ⟨g1, g2⟩ := pairs_keys (h := s.heap) h5
    refine ⟨_, Reads.dict h1 h2.1 h3 (as := []) (bs := as) (by rw [q1]; exact g1) (by rw [g2]; exact q2), fun z => ?_⟩
    rcases List.mem_cons.mp z with z | z
    · rw [← z] at hsm; exact absurd hsm (by decide)
    · exact hn z
  | _, _, _, _, .scr _ _, e, _ => by simp [toD] at e
  | _, _, _, _, .ins _ _, e, _ => by simp [toD] at e
  | _, _, _, _, .fn _, e, _ => by simp [toD] at e
  | _, _, _, _, .cls _, e, _ => by simp [toD] at e
  | _, _, _, _, .ty _, e, _ => by simp [toD] at e
  | _, _, _, _, .loc _, e, _ => by simp [toD] at e
theorem reps_reads (I : Inv X pins σ H s) (sub : ∀ a o, B a = some o → H a = some o) (sm : H sysModules = none) : ∀ {vs : List V} {ds : List D} {ps : List PyData} {us : List Value}, Reps X.K G B ρ vs ds → toDs ds = some ps → Vals vs us → ∃ as, ReadsAll s.heap us ps as ∧ sysModules ∉ as
  | _, _, _, _, .nil, e, r => by cases e; cases r; exact ⟨_, ReadsAll.nil, by simp⟩
  | _, _, _, _, .cons h rr, e, r => by
    unfold toDs at e
    split at e
    · rename_i p ps h1 h2
      cases e
      cases r with
      | cons r1 r2 =>
        obtain ⟨as, q1, n1⟩ := rep_reads I sub sm h h1 r1
        obtain ⟨bs, q2, n2⟩ := reps_reads I sub sm rr h2 r2
        exact ⟨_, ReadsAll.cons q1 q2, fun z => (List.mem_append.mp z).elim n1 n2⟩
    · cases e
theorem repk_reads (I : Inv X pins σ H s) (sub : ∀ a o, B a = some o → H a = some o) (sm : H sysModules = none) : ∀ {kv : List (L2.Key × V)} {kd : List (Key × D)} {ps : List (PyData × PyData)} {vs : List (L2.Key × Value)}, RepK X.K G B ρ kv kd → toDk kd = some ps → KV kv vs → ps.map (·.1) = vs.map (fun q => kP q.1) ∧ ∃ as, ReadsAll s.heap (vs.map (·.2)) (ps.map (·.2)) as ∧ sysModules ∉ as
  | _, _, _, _, .nil, e, r => by cases e; cases r; exact ⟨rfl, _, ReadsAll.nil, by simp⟩
  | _, _, _, _, .cons h rr, e, r => by
    unfold toDk at e
    split at e
    · rename_i p ps h1 h2
      cases e
      cases r with
      | @cons _ b _ _ r1 r2 =>
        obtain ⟨as, q1, n1⟩ := rep_reads I sub sm h h1 r1.2
        obtain ⟨e1, bs, q2, n2⟩ := repk_reads I sub sm rr h2 r2
        have e3 := r1.1
        simp only at e3
        exact ⟨by simp [e1, ← e3], _, ReadsAll.cons q1 q2, fun z => (List.mem_append.mp z).elim n1 n2⟩
    · cases e
end
theorem der_reads (I : Inv X pins σ H s) (sim : Sim X.K G B ρ S H) (sm : H sysModules = none) (ra : Rep X.K G B ρ x a) {p : PyData} (e : toD (der S a) = some p) (rx : RelV x u) : ∃ as, Reads s.heap u p as ∧ sysModules ∉ as := by
  cases ra with
  | @loc q l h =>
    unfold der at e
    simp only at e
    split at e
    · rename_i ys hs
      obtain ⟨p', ep, vs, hv, r⟩ := sim.obj _ _ hs
      rw [h] at ep; cases ep
      simp only [toD, Option.map_eq_some_iff] at e
      obtain ⟨ps, e, rfl⟩ := e
      cases rx
      obtain ⟨its, rv, ⟨o, n, ho, hc, _, hd⟩, _⟩ := I.list (SqL.of hv)
      obtain ⟨as, hr, hn⟩ := reps_reads I sim.sub sm r e rv
      refine ⟨_, Reads.list ho hc hd hr, fun z => ?_⟩
      rcases List.mem_cons.mp z with z | z
      · rw [← z, sm] at hv; cases hv
      · exact hn z
    · simp [toD] at e
  | non => exact rep_reads (G := G) (ρ := ρ) I sim.sub sm .non e rx
  | bl b => exact rep_reads (G := G) (ρ := ρ) I sim.sub sm (.bl b) e rx
  | int b => exact rep_reads (G := G) (ρ := ρ) I sim.sub sm (.int b) e rx
  | str b => exact rep_reads (G := G) (ρ := ρ) I sim.sub sm (.str b) e rx
  | tup h r => exact rep_reads I sim.sub sm (.tup h r) e rx
  | lst h r => exact rep_reads I sim.sub sm (.lst h r) e rx
  | dct h r => exact rep_reads I sim.sub sm (.dct h r) e rx
  | _ => simp [der, toD] at e
theorem LIM_le {n : Nat} (h : n ≤ LIM) : n ≤ sizeLine := by rw [← LIM_eq]; exact h
theorem bl_here {k : Bool} (sim : Sim X.K G B ρ S H) (q : Post X.K G B ρ S (.bl k) Q) : Q (.bl k) H := q.here sim (.bl k)

theorem eq_core (I : Inv X pins σ H s) (sim : Sim X.K G B ρ S H) (rx : RelV x u) (ry : RelV y w) (ra : Rep X.K G B ρ x a) (rb : Rep X.K G B ρ y b) {k : Bool} (e : eqPy S a b = some k) :
    ∃ p q as bs, Reads s.heap u p as ∧ Reads s.heap w q bs ∧ p.plain = true ∧ q.plain = true ∧ min p.depth q.depth ≤ deep ∧ PyData.eqv p q = k := by
  unfold eqPy at e
  split at e
  · rename_i p q h1 h2
    split at e
    · rename_i hd
      cases e
      obtain ⟨as, r1⟩ := Dp.reads I _ _ _ (der_dp sim ra h1) rx
      obtain ⟨bs, r2⟩ := Dp.reads I _ _ _ (der_dp sim rb h2) ry
      exact ⟨p, q, as, bs, r1, r2, toP_plain h1, toP_plain h2, hd, rfl⟩
    · cases e
  · cases e
theorem reads_all (I : Inv X pins σ H s) : ∀ {vs : List V} {us : List Value} {ps : List PyData}, DpAll X.K H vs ps → Vals vs us → ∃ as, ReadsAll s.heap us ps as := fun h r => Dp.readsAll I _ _ _ h r
theorem in_core (I : Inv X pins σ H s) (sim : Sim X.K G B ρ S H) (rx : RelV x u) (ry : RelV y w) (ra : Rep X.K G B ρ x a) (rb : Rep X.K G B ρ y b) {k : Bool} (e : inPy S a b = some k) :
    ∃ p qs as bs, Reads s.heap u p as ∧ (Reads s.heap w (.list qs) bs ∨ Reads s.heap w (.tuple qs) bs) ∧ p.plain = true ∧ PyData.plainAll qs = true ∧ min (PyData.depthAll qs) p.depth ≤ deep ∧ (qs.any fun y => PyData.eqv y p) = k := by
  unfold inPy at e
  split at e
  · rename_i p qs h1 h2
    split at e
    · rename_i hd
      cases e
      obtain ⟨as, r1⟩ := Dp.reads I _ _ _ (der_dp sim ra h1) rx
      obtain ⟨ds, h3, h4⟩ := Option.bind_eq_some_iff.mp h2
      obtain ⟨p2, vs, ey, hsq, rr⟩ := seq_of sim rb h3
      have dp := reps_dp sim.sub rr h4
      rcases hsq with hsq | hsq
      · obtain ⟨bs, r2⟩ := Dp.reads I (.list qs) _ _ (by rw [ey]; exact .lst hsq dp) ry
        exact ⟨p, qs, as, bs, r1, .inl r2, toP_plain h1, toPs_plain h4, hd, rfl⟩
      · obtain ⟨bs, r2⟩ := Dp.reads I (.tuple qs) _ _ (by rw [ey]; exact .tup hsq dp) ry
        exact ⟨p, qs, as, bs, r1, .inr r2, toP_plain h1, toPs_plain h4, hd, rfl⟩
    · cases e
  · cases e
theorem o_inSeq (hu : X.A.units + 100 < cLine) (I : Inv X pins σ H s) (sim : Sim X.K G B ρ S H) (rx : RelV x u) (ry : RelV y w) (ra : Rep X.K G B ρ x a) (rb : Rep X.K G B ρ y b) {k : Bool} (e : inPy S a b = some k) (q : Post X.K G B ρ S (.bl k) Q) :
    wpAny (model X.prog X.w) X.A (compareOp .In u w) (EP X pins σ Q) X.xe s := by
  obtain ⟨p, qs, as, bs, r1, r2, h1, h2, h3, h4⟩ := in_core I sim rx ry ra rb e
  have hd : X.A.units + 1 + min (PyData.depthAll qs) p.depth < cLine := by unfold deep at h3; omega
  have fin : EP X pins σ Q (.bool (qs.any fun y => PyData.eqv y p)) s := by rw [h4]; exact ⟨.bl k, H, I, rfl, bl_here sim q⟩
  rcases r2 with r2 | r2
  · exact SeqAt.in_list_data r2 r1 h2 h1 hd fin
  · exact SeqAt.in_tuple_data r2 r1 h2 h1 hd fin
theorem o_notInSeq (hu : X.A.units + 100 < cLine) (I : Inv X pins σ H s) (sim : Sim X.K G B ρ S H) (rx : RelV x u) (ry : RelV y w) (ra : Rep X.K G B ρ x a) (rb : Rep X.K G B ρ y b) {k : Bool} (e : inPy S a b = some k) (q : Post X.K G B ρ S (.bl (!k)) Q) :
    wpAny (model X.prog X.w) X.A (compareOp .NotIn u w) (EP X pins σ Q) X.xe s := by
  obtain ⟨p, qs, as, bs, r1, r2, h1, h2, h3, h4⟩ := in_core I sim rx ry ra rb e
  have hd : X.A.units + 1 + min (PyData.depthAll qs) p.depth < cLine := by unfold deep at h3; omega
  have fin : EP X pins σ Q (.bool (!qs.any fun y => PyData.eqv y p)) s := by rw [h4]; exact ⟨.bl (!k), H, I, rfl, bl_here sim q⟩
  rcases r2 with r2 | r2
  · exact SeqAt.notIn_list_data r2 r1 h2 h1 hd fin
  · exact SeqAt.notIn_tuple_data r2 r1 h2 h1 hd fin

theorem Rep.dct_inv {K : PySem.W.Frag} {x : V} {kd : List (Key × D)} (r : Rep K G B ρ x (.dct kd)) : ∃ p kv, x = .ref p ∧ B p = some (.dK kv) ∧ RepK K G B ρ kv kd := by
  cases r with
  | dct h r => exact ⟨_, _, rfl, h, r⟩
theorem RepK.look {K : PySem.W.Frag} {k : Key} : ∀ {kv : List (L2.Key × V)} {kd : List (Key × D)}, RepK K G B ρ kv kd → (lookK k kd = none → valV kv k = none) ∧ ∀ d, lookK k kd = some d → ∃ v, valV kv k = some v ∧ Rep K G B ρ v d
  | _, _, .nil => ⟨fun _ => rfl, fun _ e => by cases e⟩
  | _, _, .cons (k := j) (v := v) (kv := kv) (d := d) (kd := kd) h r => by
    have ih := RepK.look (k := k) r
    by_cases e : j = k
    · simp only [lookK, decide_eq_true e, if_true]
      exact ⟨fun z => (nomatch z), fun d' z => by cases z; exact ⟨v, valV_pos e, h⟩⟩
    · simp only [lookK, decide_eq_false e]
      have e2 : valV ((j, v) :: kv) k = valV kv k := valV_neg e
      rw [e2]; exact ih
theorem RepK.isSome {K : PySem.W.Frag} {k : Key} {kv : List (L2.Key × V)} {kd : List (Key × D)} (r : RepK K G B ρ kv kd) : (valV kv k).isSome = (lookK k kd).isSome := by
  obtain ⟨h1, h2⟩ := RepK.look (k := k) r
  cases e : lookK k kd with
  | none => rw [h1 e]; rfl
  | some d => obtain ⟨v, hv, _⟩ := h2 d e; rw [hv]; rfl
theorem RepK.repl {K : PySem.W.Frag} {k : Key} {v : V} {d : D} (hv : Rep K G B ρ v d) : ∀ {kv : List (L2.Key × V)} {kd : List (Key × D)}, RepK K G B ρ kv kd → RepK K G B ρ (kv.map fun kv => if kv.1 = k then (kv.1, v) else kv) (repK k d kd)
  | _, _, .nil => .nil
  | _, _, .cons (k := j) (v := w) (d := e) h r => by
    rw [List.map_cons]
    have ih := RepK.repl (k := k) hv r
    by_cases z : j = k
    · simp only [repK, decide_eq_true z, if_true, z]; exact .cons hv (by simpa [z] using ih)
    · simp only [repK, decide_eq_false z, if_neg z]; exact .cons h ih
theorem RepK.snoc {K : PySem.W.Frag} {k : Key} {v : V} {d : D} (hv : Rep K G B ρ v d) : ∀ {kv : List (L2.Key × V)} {kd : List (Key × D)}, RepK K G B ρ kv kd → RepK K G B ρ (kv ++ [(k, v)]) (kd ++ [(k, d)])
  | _, _, .nil => .cons hv .nil
  | _, _, .cons h r => .cons h (RepK.snoc hv r)
theorem RepK.put {K : PySem.W.Frag} {k : Key} {v : V} {d : D} (hv : Rep K G B ρ v d) {kv : List (L2.Key × V)} {kd : List (Key × D)} (r : RepK K G B ρ kv kd) : RepK K G B ρ (L2.putK kv k v) (Mi.putK k d kd) := by
  unfold L2.putK Mi.putK
  rw [valV_any, RepK.isSome r]
  by_cases z : (lookK k kd).isSome = true
  · rw [if_pos z, if_pos z]; exact RepK.repl hv r
  · rw [if_neg z, if_neg z]; exact RepK.snoc hv r
theorem toKey_inv {K : PySem.W.Frag} (r : Rep K G B ρ x a) {k : Key} (e : toKey a = some k) : x = kV k := by
  cases r <;> first | (cases e; rfl) | cases e
theorem loc_dk (sim : Sim X.K G B ρ S H) {l : Nat} {kd : List (Key × D)} (r : Rep X.K G B ρ x (.loc l)) (e : S[l]? = some (.dk kd)) : ∃ p kv, x = .ref p ∧ ρ[l]? = some p ∧ H p = some (.dK kv) ∧ RepK X.K G B ρ kv kd := by
  cases r with
  | loc h =>
    obtain ⟨a, ea, kv, hk, r⟩ := sim.obj _ _ e
    rw [h] at ea; cases ea
    exact ⟨_, kv, rfl, h, hk, r⟩
theorem RepK.length {K : PySem.W.Frag} : ∀ {kv : List (L2.Key × V)} {kd : List (Key × D)}, RepK K G B ρ kv kd → kv.length = kd.length
  | _, _, .nil => rfl
  | _, _, .cons _ r => congrArg (· + 1) (RepK.length r)

/-! ### keys that are tuples -/
mutual
theorem nk_is (I : Inv X pins σ H s) (sub : ∀ a o, B a = some o → H a = some o) : ∀ {x : V} {a : D} {k : NestedKey} {u : Value}, Rep X.K G B ρ x a → nkOf a = some k → RelV x u → NestedIs s.heap k u
  | _, _, _, _, .non, e, r => by cases e; cases r; exact .none
  | _, _, _, _, .bl b, e, r => by cases e; cases r; exact .bool rfl
  | _, _, _, _, .int i, e, r => by cases e; obtain ⟨t, rfl⟩ := r; exact .int i t
  | _, _, _, _, .str x, e, r => by cases e; obtain ⟨t, rfl⟩ := r; exact .text x t
  | _, _, _, _, .tup (a := a) h rr, e, r => by
    simp only [nkOf, Option.map_eq_some_iff] at e
    obtain ⟨ks, e, rfl⟩ := e
    cases r
    obtain ⟨its, rv, ⟨o, ho, hc, n, hd⟩, _⟩ := I.tuple (sqT_up sub h.sq)
    exact .tup ho hc hd (by simpa using nks_is I sub rr e rv)
  | _, _, _, _, .lst _ _, e, _ => by simp [nkOf] at e
  | _, _, _, _, .scr _ _, e, _ => by simp [nkOf] at e
  | _, _, _, _, .ins _ _, e, _ => by simp [nkOf] at e
  | _, _, _, _, .dct _ _, e, _ => by simp [nkOf] at e
  | _, _, _, _, .fn _, e, _ => by simp [nkOf] at e
  | _, _, _, _, .cls _, e, _ => by simp [nkOf] at e
  | _, _, _, _, .ty _, e, _ => by simp [nkOf] at e
  | _, _, _, _, .loc _, e, _ => by simp [nkOf] at e
theorem nks_is (I : Inv X pins σ H s) (sub : ∀ a o, B a = some o → H a = some o) : ∀ {vs : List V} {ds : List D} {ks : List NestedKey} {us : List Value}, Reps X.K G B ρ vs ds → nksOf ds = some ks → Vals vs us → NestedAll s.heap ks us
  | _, _, _, _, .nil, e, r => by cases e; cases r; exact .nil
  | _, _, _, _, .cons h rr, e, r => by
    unfold nksOf at e
    split at e
    · rename_i k ks h1 h2
      cases e
      cases r with
      | cons r1 r2 => exact .cons (nk_is I sub h h1 r1) (nks_is I sub rr h2 r2)
    · cases e
end
theorem tk_is (I : Inv X pins σ H s) (sub : ∀ a o, B a = some o → H a = some o) {a : D} {k : NestedKey} (r : Rep X.K G B ρ x a) (e : tkOf a = some k) : ∃ b, x = .ref b ∧ (nestedKind X.prog X.w).is s.heap k b := by
  cases a <;> simp only [tkOf] at e <;> try cases e
  rename_i xs
  cases e1 : nksOf xs with
  | none => rw [e1] at e; cases e
  | some ks =>
    rw [e1] at e
    simp only at e
    split at e
    · rename_i hd
      cases e
      cases r with
      | @tup b vs _ h rr => exact ⟨b, rfl, nk_is I sub (.tup h rr) (by simp [nkOf, e1]) rfl, hd⟩
    · cases e
theorem RepN.keys (I : Inv X pins σ H s) (sub : ∀ a o, B a = some o → H a = some o) : ∀ {ks : List Ent} {kd : List (D × D)}, RepN X.K G B ρ ks kd → KeysAt X.prog X.w s.heap ks
  | _, _, .nil => fun x hx => nomatch hx
  | _, _, .cons h t => fun x hx => by
    rcases List.mem_cons.mp hx with e | hx
    · subst e
      obtain ⟨b, eb, hb⟩ := tk_is I sub h.1 h.2.1
      cases eb
      exact hb
    · exact RepN.keys I sub t x hx
theorem RepN.look {K : PySem.W.Frag} {k : NestedKey} : ∀ {ks : List Ent} {kd : List (D × D)}, RepN K G B ρ ks kd → (lookT k kd = none → findE ks k = none) ∧ ∀ d, lookT k kd = some d → ∃ v, findE ks k = some v ∧ Rep K G B ρ v d
  | _, _, .nil => ⟨fun _ => rfl, fun _ e => by cases e⟩
  | _, _, @Paired.cons _ _ _ p q ps qs h t => by
    have ih := RepN.look (k := k) t
    obtain ⟨j, d⟩ := q
    have hj : tkOf j = some p.1 := h.2.1
    by_cases e : p.1 = k
    · have e1 : findE (p :: ps) k = some p.2.2 := by unfold findE; simp only [List.find?_cons, e, decide_true, Option.map_some]
      have e2 : lookT k ((j, d) :: qs) = some d := by simp only [lookT, hj, e, decide_true, if_true]
      rw [e1, e2]
      exact ⟨fun z => (nomatch z), fun d' z => by cases z; exact ⟨_, rfl, h.2.2⟩⟩
    · have e1 : findE (p :: ps) k = findE ps k := by unfold findE; simp only [List.find?_cons, e, decide_false]
      have e2 : lookT k ((j, d) :: qs) = lookT k qs := by
        have : ¬ tkOf j = some k := by rw [hj]; intro z; exact e (Option.some.inj z)
        simp only [lookT, decide_eq_false this]; rfl
      rw [e1, e2]; exact ih
theorem RepN.isSome {K : PySem.W.Frag} {k : NestedKey} {ks : List Ent} {kd : List (D × D)} (r : RepN K G B ρ ks kd) : (findE ks k).isSome = (lookT k kd).isSome := by
  obtain ⟨h1, h2⟩ := RepN.look (k := k) r
  cases e : lookT k kd with
  | none => rw [h1 e]; rfl
  | some d => obtain ⟨v, hv, _⟩ := h2 d e; rw [hv]; rfl
theorem RepN.repl {K : PySem.W.Frag} {k : NestedKey} {v : V} {d : D} (hv : Rep K G B ρ v d) : ∀ {ks : List Ent} {kd : List (D × D)}, RepN K G B ρ ks kd → RepN K G B ρ (ks.map (fun x => if x.1 = k then (x.1, x.2.1, v) else x)) (repT k d kd)
  | _, _, .nil => .nil
  | _, _, @Paired.cons _ _ _ p q ps qs h t => by
    obtain ⟨j, d'⟩ := q
    have hj : tkOf j = some p.1 := h.2.1
    rw [List.map_cons]
    by_cases e : p.1 = k
    · have : (decide (tkOf j = some k)) = true := decide_eq_true (by rw [hj, e])
      simp only [repT, this, e, if_true]
      exact .cons ⟨h.1, hj.trans (by rw [e]), hv⟩ (RepN.repl hv t)
    · have : (decide (tkOf j = some k)) = false := decide_eq_false (by rw [hj]; intro z; exact e (Option.some.inj z))
      simp only [repT, this, e, if_false]
      exact .cons h (RepN.repl hv t)
theorem RepN.snoc {K : PySem.W.Frag} {k : NestedKey} {b : Addr} {a : D} {v : V} {d : D} (ha : Rep K G B ρ (.ref b) a) (hk : tkOf a = some k) (hv : Rep K G B ρ v d) : ∀ {ks : List Ent} {kd : List (D × D)}, RepN K G B ρ ks kd → RepN K G B ρ (ks ++ [(k, b, v)]) (kd ++ [(a, d)])
  | _, _, .nil => .cons ⟨ha, hk, hv⟩ .nil
  | _, _, .cons h r => .cons h (RepN.snoc ha hk hv r)
theorem RepN.put {K : PySem.W.Frag} {k : NestedKey} {b : Addr} {a : D} {v : V} {d : D} (ha : Rep K G B ρ (.ref b) a) (hk : tkOf a = some k) (hv : Rep K G B ρ v d) {ks : List Ent} {kd : List (D × D)} (r : RepN K G B ρ ks kd) : RepN K G B ρ (putE ks k b v) (putT k a d kd) := by
  unfold putE putT
  rw [RepN.isSome r]
  by_cases z : (lookT k kd).isSome = true
  · rw [if_pos z, if_pos z]; exact RepN.repl hv r
  · rw [if_neg z, if_neg z]; exact RepN.snoc ha hk hv r
theorem RepN.length {K : PySem.W.Frag} {ks : List Ent} {kd : List (D × D)} (r : RepN K G B ρ ks kd) : ks.length = kd.length := Paired.length r
theorem RepN.refs {K : PySem.W.Frag} : ∀ {ks : List Ent} {kd : List (D × D)}, RepN K G B ρ ks kd → Reps K G B ρ (ks.map fun x => V.ref x.2.1) (kd.map (·.1))
  | _, _, .nil => .nil
  | _, _, .cons h t => .cons h.1 (RepN.refs t)
theorem dnAt_inv {a : D} {kd : List (D × D)} (e : dnAt S a = some kd) : ∃ l z, a = .loc l ∧ S[l]? = some (.dn z kd) := by
  unfold dnAt at e
  split at e
  · rename_i l
    split at e
    · rename_i z kvs h
      cases e
      exact ⟨l, z, rfl, h⟩
    · cases e
  · cases e
theorem loc_dn (sim : Sim X.K G B ρ S H) {l : Nat} {z : Bool} {kd : List (D × D)} (r : Rep X.K G B ρ x (.loc l)) (e : S[l]? = some (.dn z kd)) : ∃ p ks, x = .ref p ∧ ρ[l]? = some p ∧ DnH G.w H p ks ∧ RepN X.K G B ρ ks kd := by
  cases r with
  | loc h =>
    obtain ⟨a, ea, hm⟩ := sim.obj _ _ e
    rw [h] at ea; cases ea
    cases z with
    | false => obtain ⟨ks, h1, h2⟩ := hm; exact ⟨_, ks, rfl, h, .inl h1, h2⟩
    | true => obtain ⟨o, ks, h1, _, h2⟩ := hm; exact ⟨_, ks, rfl, h, .inr ⟨o, h1⟩, h2⟩

theorem o_cmp {o : CmpOp} {k : Bool} (hw : G.w = X.w) (hu : X.A.units + 100 < cLine) (I : Inv X pins σ H s) (sim : Sim X.K G B ρ S H) (rx : RelV x u) (ry : RelV y w) (ra : Rep X.K G B ρ x a) (rb : Rep X.K G B ρ y b) (e : cmpD S o a b = some k) (q : Post X.K G B ρ S (.bl k) Q) :
    wpAny (model X.prog X.w) X.A (compareOp o u w) (EP X pins σ Q) X.xe s := by
  unfold cmpD at e
  split at e
  · obtain ⟨p, q2, as, bs, r1, r2, h1, h2, h3, h4⟩ := eq_core I sim rx ry ra rb e
    exact SeqAt.eq_plain r1 r2 h1 h2 (by unfold deep at h3; omega) (by rw [h4]; exact ⟨.bl k, H, I, rfl, bl_here sim q⟩)
  · obtain ⟨k', e', rfl⟩ := Option.map_eq_some_iff.mp e
    obtain ⟨p, q2, as, bs, r1, r2, h1, h2, h3, h4⟩ := eq_core I sim rx ry ra rb e'
    exact SeqAt.ne_plain r1 r2 h1 h2 (by unfold deep at h3; omega) (by rw [h4]; exact ⟨.bl (!k'), H, I, rfl, bl_here sim q⟩)
  · split at e
    · split at e
      · rename_i kd hs
        obtain ⟨kk, ek, rfl⟩ := Option.map_eq_some_iff.mp e
        obtain ⟨p, kv, rfl, _, hk, rk⟩ := loc_dk sim rb hs
        cases ry
        have ex := toKey_inv ra ek
        subst ex
        exact d_in (by omega) I (DGet.k (k := kk) hk) rx fun s' I' => ⟨.bl _, H, I', rfl, by rw [rk.isSome]; exact bl_here sim q⟩
      · rename_i z kd hs
        obtain ⟨kk, ek, rfl⟩ := Option.map_eq_some_iff.mp e
        obtain ⟨p, ks, rfl, _, hk, rk⟩ := loc_dn sim rb hs
        cases ry
        obtain ⟨b, rfl, hb⟩ := tk_is I sim.sub ra ek
        cases rx
        exact n_in (by omega) I (by rw [← hw]; exact hk) (rk.keys I sim.sub) hb fun s' I' => ⟨.bl _, H, I', rfl, by rw [rk.isSome]; exact bl_here sim q⟩
      · exact o_inSeq hu I sim rx ry ra rb e q
    · split at e
      · cases e
        have ex := ra.str_inv
        have ey := rb.str_inv
        exact op_in_str pins s σ H x y u w Q I rx ry ⟨_, _, ex, ey, bl_here sim q⟩
      · cases e
    · obtain ⟨kk, ek, rfl⟩ := Option.map_eq_some_iff.mp e
      obtain ⟨p, kv, rfl, hk, rk⟩ := rb.dct_inv
      cases ry
      have ex := toKey_inv ra ek
      subst ex
      exact d_in (by omega) I (DGet.k (k := kk) (sim.sub _ _ hk)) rx fun s' I' => ⟨.bl _, H, I', rfl, by rw [rk.isSome]; exact bl_here sim q⟩
    · exact o_inSeq hu I sim rx ry ra rb e q
  · split at e
    · split at e
      · rename_i kd hs
        obtain ⟨kk, ek, rfl⟩ := Option.map_eq_some_iff.mp e
        obtain ⟨p, kv, rfl, _, hk, rk⟩ := loc_dk sim rb hs
        cases ry
        have ex := toKey_inv ra ek
        subst ex
        exact d_notIn (by omega) I (DGet.k (k := kk) hk) rx fun s' I' => ⟨.bl _, H, I', rfl, by rw [rk.isSome]; exact bl_here sim q⟩
      · rename_i z kd hs
        obtain ⟨kk, ek, rfl⟩ := Option.map_eq_some_iff.mp e
        obtain ⟨p, ks, rfl, _, hk, rk⟩ := loc_dn sim rb hs
        cases ry
        obtain ⟨b, rfl, hb⟩ := tk_is I sim.sub ra ek
        cases rx
        exact n_notIn (by omega) I (by rw [← hw]; exact hk) (rk.keys I sim.sub) hb fun s' I' => ⟨.bl _, H, I', rfl, by rw [rk.isSome]; exact bl_here sim q⟩
      · obtain ⟨k', e', rfl⟩ := Option.map_eq_some_iff.mp e
        exact o_notInSeq hu I sim rx ry ra rb e' q
    · split at e
      · cases e
        have ex := ra.str_inv
        have ey := rb.str_inv
        exact op_notIn_str pins s σ H x y u w Q I rx ry ⟨_, _, ex, ey, bl_here sim q⟩
      · cases e
    · obtain ⟨kk, ek, rfl⟩ := Option.map_eq_some_iff.mp e
      obtain ⟨p, kv, rfl, hk, rk⟩ := rb.dct_inv
      cases ry
      have ex := toKey_inv ra ek
      subst ex
      exact d_notIn (by omega) I (DGet.k (k := kk) (sim.sub _ _ hk)) rx fun s' I' => ⟨.bl _, H, I', rfl, by rw [rk.isSome]; exact bl_here sim q⟩
    · obtain ⟨k', e', rfl⟩ := Option.map_eq_some_iff.mp e
      exact o_notInSeq hu I sim rx ry ra rb e' q
  · split at e
    · have ey := rb.non_inv
      cases e
      refine op_isN pins s σ H x y u w Q I rx ry ⟨ey, ?_⟩
      cases ra <;> exact bl_here sim q
    · cases e
      have ex := ra.bl_inv
      have ey := rb.bl_inv
      exact op_isBl pins s σ H x y u w Q I rx ry ⟨_, _, ex, ey, bl_here sim q⟩
    · cases e
  · split at e
    · have ey := rb.non_inv
      cases e
      refine op_notN pins s σ H x y u w Q I rx ry ⟨ey, ?_⟩
      cases ra <;> exact bl_here sim q
    · cases e
      have ex := ra.bl_inv
      have ey := rb.bl_inv
      exact op_notBl pins s σ H x y u w Q I rx ry ⟨_, _, ex, ey, bl_here sim q⟩
    · cases e
  · split at e
    · rename_i i j
      have ex := ra.int_inv
      have ey := rb.int_inv
      unfold cmpI at e
      split at e
      · cases e; exact op_lt pins s σ H x y u w Q I rx ry ⟨i, j, ex, ey, bl_here sim q⟩
      · cases e; exact op_le pins s σ H x y u w Q I rx ry ⟨i, j, ex, ey, bl_here sim q⟩
      · cases e; exact op_gt pins s σ H x y u w Q I rx ry ⟨i, j, ex, ey, bl_here sim q⟩
      · cases e; exact op_ge pins s σ H x y u w Q I rx ry ⟨i, j, ex, ey, bl_here sim q⟩
      · cases e
    · cases e
end
end Mi
end
section
set_option autoImplicit false
set_option linter.all false
set_option maxRecDepth 100000
/-! Mi6: subscripts, slices, truth, attributes -/
namespace Mi
open PySem PySem.Spec PyProof.Rows L2

section
variable {K : PySem.W.Frag} {G : Ga} {B : Hp} {ρ : List Addr} {S : Sto} {H : Hp} {x : V} {a d : D}
theorem loc_lst (sim : Sim K G B ρ S H) {l : Nat} {xs : List D} (r : Rep K G B ρ x (.loc l)) (e : S[l]? = some (.lst xs)) : ∃ p vs, x = .ref p ∧ ρ[l]? = some p ∧ H p = some (.lst vs) ∧ Reps K G B ρ vs xs := by
  cases r with
  | loc h =>
    obtain ⟨a, ea, vs, hk, r⟩ := sim.obj _ _ e
    rw [h] at ea; cases ea
    exact ⟨_, vs, rfl, h, hk, r⟩
theorem loc_ins (sim : Sim K G B ρ S H) {l c : Nat} {fs : List (Nat × D)} (r : Rep K G B ρ x (.loc l)) (e : S[l]? = some (.ins c fs)) : ∃ p dx fv, x = .ref p ∧ ρ[l]? = some p ∧ H p = some (.ins (G.cl c) dx fv) ∧ RepF K G B ρ fv fs := by
  cases r with
  | loc h =>
    obtain ⟨a, ea, dx, fv, hk, r⟩ := sim.obj _ _ e
    rw [h] at ea; cases ea
    exact ⟨_, dx, fv, rfl, h, hk, r⟩
theorem atI_rep {vs : List V} {ds : List D} (r : Reps K G B ρ vs ds) {i : Int} (e : atI ds i = some d) : ∃ v, atI vs i = some v ∧ Rep K G B ρ v d := by
  unfold atI at e ⊢
  rw [r.length]
  obtain ⟨j, h1, h2⟩ := Option.bind_eq_some_iff.mp e
  obtain ⟨v, h3, h4⟩ := r.get h2
  exact ⟨v, by rw [h1]; exact h3, h4⟩
theorem cut_rep {vs : List V} {ds : List D} (r : Reps K G B ρ vs ds) (lo hi : Option Int) : Reps K G B ρ (cutV vs lo hi) (cutD ds lo hi) := by
  unfold cutV cutD
  rw [r.length]
  exact (r.drop _).take _
theorem lookF_rep (inj : ∀ i j, G.nm i = G.nm j → i = j) {f : Nat} : ∀ {fv : List (Str × V)} {fs : List (Nat × D)}, RepF K G B ρ fv fs → (lookF f fs = none → fv.lookup (G.nm f) = none) ∧ ∀ d, lookF f fs = some d → ∃ v, fv.lookup (G.nm f) = some v ∧ Rep K G B ρ v d
  | _, _, .nil => ⟨fun _ => rfl, fun _ e => by cases e⟩
  | _, _, .cons (v := v) (i := i) (fv := fv) (d := d) (fs := fs) h r => by
    have ih := lookF_rep inj (f := f) r
    by_cases e : i = f
    · subst e
      simp only [lookF, decide_true, if_true]
      have e1 : ((G.nm i, v) :: fv).lookup (G.nm i) = some v := by simp [List.lookup]
      rw [e1]
      exact ⟨fun z => (nomatch z), fun d' z => by cases z; exact ⟨v, rfl, h⟩⟩
    · simp only [lookF, decide_eq_false e]
      have e2 : ((G.nm i, v) :: fv).lookup (G.nm f) = fv.lookup (G.nm f) := by
        have : (G.nm f == G.nm i) = false := by
          simp only [beq_eq_false_iff_ne, ne_eq]
          exact fun z => e (inj _ _ z).symm
        simp [List.lookup, this]
      rw [e2]; exact ih
theorem putF_rep (inj : ∀ i j, G.nm i = G.nm j → i = j) {f : Nat} {y : V} (hy : Rep K G B ρ y d) : ∀ {fv : List (Str × V)} {fs : List (Nat × D)}, RepF K G B ρ fv fs → RepF K G B ρ (L2.putF (G.nm f) y fv) (Mi.putF f d fs)
  | _, _, .nil => .cons hy .nil
  | _, _, .cons (v := v) (i := i) (fv := fv) (d := e) (fs := fs) h r => by
    by_cases z : i = f
    · subst z
      simp only [L2.putF, Mi.putF, decide_true, if_true]
      exact .cons hy r
    · have z2 : ¬ G.nm i = G.nm f := fun q => z (inj _ _ q)
      simp only [L2.putF, Mi.putF, decide_eq_false z, if_neg z2]
      exact .cons h (putF_rep inj hy r)
theorem RepF.length : ∀ {fv : List (Str × V)} {fs : List (Nat × D)}, RepF K G B ρ fv fs → fv.length = fs.length
  | _, _, .nil => rfl
  | _, _, .cons _ r => congrArg (· + 1) (RepF.length r)
end

section
variable {X : Cx} {pins : List (Addr × Obj)} {σ : L2.St} {H : Hp} {s : Shared} {G : Ga} {B : Hp} {ρ : List Addr} {S : Sto} {x y : V} {u w : Value} {a b d : D} {Q : VK}
theorem o_idx {value slice : Expr} (hw : G.w = X.w) (hu : X.A.units + 100 < cLine) (I : Inv X pins σ H s) (sim : Sim X.K G B ρ S H) (rx : RelV x u) (ry : RelV y w) (ra : Rep X.K G B ρ x a) (rb : Rep X.K G B ρ y b) (e : idxD S a b = some d) (q : Post X.K G B ρ S d Q)
    (hs : ∀ o i, subscripted slice false o i = operate [o, i] (getItem o i)) : wpAny (model X.prog X.w) X.A (subscriptTail value slice u w) (EP X pins σ Q) X.xe s := by
  unfold idxD at e
  split at e
  · split at e
    · rename_i xs hx
      obtain ⟨p, vs, rfl, _, hl, rr⟩ := loc_lst sim ra hx
      split at e
      · obtain ⟨v, h1, h2⟩ := atI_rep rr e
        exact ix_list value slice pins s σ H _ y u w Q I rx ry ⟨p, vs, _, v, rfl, rb.int_inv, SqL.of hl, h1, q.here sim h2⟩ (hs _ _)
      · cases e
    · rename_i kd hx
      obtain ⟨p, kv, rfl, _, hl, rk⟩ := loc_dk sim ra hx
      obtain ⟨k, h1, h2⟩ := Option.bind_eq_some_iff.mp e
      have ey := toKey_inv rb h1
      subst ey
      obtain ⟨v, h3, h4⟩ := (rk.look (k := k)).2 d h2
      cases rx
      have g : DGet H p (kV k) (some v) := by rw [← h3]; exact DGet.k hl
      exact tail_any (dict_typeIs I g) PySem.F.slot_dict_getitem.lookup (d_getItem (by omega) I g ry fun w' s3 I3 rw' => ⟨v, H, I3, rw', q.here sim h4⟩) (hs _ _)
    · rename_i z kd hx
      obtain ⟨p, ks, rfl, _, hl, rk⟩ := loc_dn sim ra hx
      obtain ⟨k, h1, h2⟩ := Option.bind_eq_some_iff.mp e
      obtain ⟨b', rfl, hb⟩ := tk_is I sim.sub rb h1
      obtain ⟨v, h3, h4⟩ := (rk.look (k := k)).2 d h2
      cases rx
      cases ry
      rw [hw] at hl
      exact tail_any (n_typeIs I hl) PySem.F.slot_dict_getitem.lookup (n_getItem (by omega) I hl (rk.keys I sim.sub) hb h3 fun w' s3 I3 rw' => ⟨v, H, I3, rw', q.here sim h4⟩) (hs _ _)
    · cases e
  · obtain ⟨p, kv, rfl, hl, rk⟩ := ra.dct_inv
    obtain ⟨k, h1, h2⟩ := Option.bind_eq_some_iff.mp e
    have ey := toKey_inv rb h1
    subst ey
    obtain ⟨v, h3, h4⟩ := (rk.look (k := k)).2 d h2
    cases rx
    have g : DGet H p (kV k) (some v) := by rw [← h3]; exact DGet.k (sim.sub _ _ hl)
    exact tail_any (dict_typeIs I g) PySem.F.slot_dict_getitem.lookup (d_getItem (by omega) I g ry fun w' s3 I3 rw' => ⟨v, H, I3, rw', q.here sim h4⟩) (hs _ _)
  · cases ra with
    | tup h r =>
      obtain ⟨v, h1, h2⟩ := atI_rep r e
      exact ix_tup value slice pins s σ H _ y u w Q I rx ry ⟨_, _, _, v, rfl, rb.int_inv, sqT_up sim.sub h.sq, h1, q.here sim h2⟩ (hs _ _)
  · cases ra with
    | lst h r =>
      obtain ⟨v, h1, h2⟩ := atI_rep r e
      exact ix_list value slice pins s σ H _ y u w Q I rx ry ⟨_, _, _, v, rfl, rb.int_inv, SqL.of (sim.sub _ _ h), h1, q.here sim h2⟩ (hs _ _)
  · split at e
    · rename_i hz
      obtain ⟨c, h1, rfl⟩ := Option.map_eq_some_iff.mp e
      exact ix_str value slice pins s σ H _ y u w Q I rx ry ⟨_, _, c, ra.str_inv, rb.int_inv, LIM_le hz, h1, q.here sim (.str _)⟩ (hs _ _)
    · cases e
  · cases e

theorem tup_self (ra : Rep X.K G B ρ x a) {xs : List D} (h1 : der S a = .tup xs) : Rep X.K G B ρ x (.tup xs) := by
  have hd : a = .tup xs := by
    cases ra with
    | tup h r => exact h1
    | loc h => unfold der at h1; simp only at h1; split at h1 <;> cases h1
    | _ => cases h1
  rw [hd] at ra; exact ra
theorem dct_self (ra : Rep X.K G B ρ x a) {xs : List (Key × D)} (h1 : der S a = .dct xs) : Rep X.K G B ρ x (.dct xs) := by
  have hd : a = .dct xs := by
    cases ra with
    | dct h r => exact h1
    | loc h => unfold der at h1; simp only at h1; split at h1 <;> cases h1
    | _ => cases h1
  rw [hd] at ra; exact ra
theorem cutD_whole {xs : List D} {lo hi : Option Int} (h : HT.sIx xs.length 0 lo = 0 ∧ HT.sIx xs.length xs.length hi = xs.length) : cutD xs lo hi = xs := by
  unfold cutD
  rw [h.1, h.2]
  simp
/-- a[lo:hi] by values -/
theorem o_slc {lo hi : Option Int} (sim : Sim X.K G B ρ S H) (ra : Rep X.K G B ρ x a) (e : slcD S a lo hi = some d) (q : Post X.K G B ρ S d Q) :
    (rSlA X.K x lo hi H Q ∨ rSlL X.K x lo hi H Q) ∨ C8.rSlX x lo hi H Q := by
  unfold slcD at e
  split at e
  · rename_i xs h
    cases e
    obtain ⟨p, vs, rfl, ht, rr⟩ := der_tup sim ra h
    have r2 := tup_self ra h
    refine .inl (.inl ⟨p, vs, rfl, ht, fun hw => ?_, fun _ => q.tup sim (cut_rep rr lo hi)⟩)
    rw [rr.length] at hw
    rw [cutD_whole hw] at q
    exact q.here sim r2
  · rename_i xs h
    cases e
    obtain ⟨p, vs, rfl, hl, rr⟩ := der_lst sim ra h
    exact .inl (.inr ⟨p, vs, rfl, SqL.of hl, q.lst sim (cut_rep rr lo hi)⟩)
  · rename_i z h
    split at e
    · rename_i hz
      cases e
      exact .inr ⟨z, der_str ra h, LIM_le hz, q.here sim (.str _)⟩
    · cases e
  · cases e
theorem sl_all : SlR X (fun x lo hi H Q => (rSlA X.K x lo hi H Q ∨ rSlL X.K x lo hi H Q) ∨ C8.rSlX x lo hi H Q) := (sl_tupA.or sl_list).or C8.sl_txt

theorem isEmpty_rep {K : PySem.W.Frag} {vs : List V} {ds : List D} (r : Reps K G B ρ vs ds) : vs.isEmpty = ds.isEmpty := by cases r <;> rfl
/-- truth -/
theorem o_tru {k : Bool} {Q : Bool → Hp → Prop} (I : Inv X pins σ H s) (sim : Sim X.K G B ρ S H) (rx : RelV x u) (ra : Rep X.K G B ρ x a) (e : tru S a = some k) (q : Q k H) : wpAny (model X.prog X.w) X.A (truthy u) (TP X pins σ Q) X.xe s := by
  refine tru_ok pins s σ H x u Q I rx ⟨k, ?_, q⟩
  unfold tru at e
  split at e
  · rename_i h; cases e; rw [der_non ra h]; rfl
  · rename_i h; cases e; rw [der_bl ra h]; rfl
  · rename_i h; cases e; rw [der_int ra h]; rfl
  · rename_i h
    split at e
    · rename_i hz
      cases e; rw [der_str ra h]; exact ⟨LIM_le hz, rfl⟩
    · cases e
  · rename_i xs h; cases e
    obtain ⟨p, vs, rfl, ht, rr⟩ := der_tup sim ra h
    exact .inr (.inl ⟨vs, ht, by rw [isEmpty_rep rr]⟩)
  · rename_i xs h; cases e
    obtain ⟨p, vs, rfl, ht, rr⟩ := der_lst sim ra h
    exact .inl ⟨vs, SqL.of ht, by rw [isEmpty_rep rr]⟩
  · rename_i kd h; cases e
    have r2 := dct_self ra h
    obtain ⟨p, kv, rfl, hk, rk⟩ := r2.dct_inv
    exact .inr (.inr ⟨kv, sim.sub _ _ hk, by rw [show kv.isEmpty = kd.isEmpty from by cases rk <;> rfl]⟩)
  · cases e
/-- an instance and one of its fields -/
theorem att_of (inj : ∀ i j, G.nm i = G.nm j → i = j) {f : Nat} (sim : Sim X.K G B ρ S H) (ra : Rep X.K G B ρ x a) (e : attD S a f = some d) : ∃ p c dx fv v, x = .ref p ∧ H p = some (.ins (G.cl c) dx fv) ∧ clsOf S a = some c ∧ fv.lookup (G.nm f) = some v ∧ Rep X.K G B ρ v d := by
  unfold attD at e
  split at e
  · cases ra with
    | ins h r =>
      obtain ⟨v, h1, h2⟩ := (lookF_rep inj r).2 d e
      exact ⟨_, _, _, _, v, rfl, sim.sub _ _ h, rfl, h1, h2⟩
  · split at e
    · rename_i c fs hs
      obtain ⟨p, dx, fv, rfl, _, hl, rr⟩ := loc_ins sim ra hs
      obtain ⟨v, h1, h2⟩ := (lookF_rep inj rr).2 d e
      exact ⟨_, _, _, _, v, rfl, hl, by unfold clsOf; simp only; rw [hs], h1, h2⟩
    · cases e
  · cases e
theorem cls_of {c : Nat} (sim : Sim X.K G B ρ S H) (ra : Rep X.K G B ρ x a) (e : clsOf S a = some c) : ∃ p dx fv fs, x = .ref p ∧ H p = some (.ins (G.cl c) dx fv) ∧ RepF X.K G B ρ fv fs ∧ ((∃ l, a = .loc l ∧ S[l]? = some (.ins c fs)) ∨ a = .ins c fs) := by
  unfold clsOf at e
  split at e
  · cases e
    cases ra with
    | ins h r => exact ⟨_, _, _, _, rfl, sim.sub _ _ h, r, .inr rfl⟩
  · split at e
    · rename_i c fs hs
      cases e
      obtain ⟨p, dx, fv, rfl, _, hl, rr⟩ := loc_ins sim ra hs
      exact ⟨_, _, _, _, rfl, hl, rr, .inl ⟨_, rfl, hs⟩⟩
    · cases e
  · cases e
end
end Mi
end
section
set_option autoImplicit false
set_option linter.all false
set_option maxRecDepth 100000
/-! Mi22: forms of the syntax -/
namespace Mi
open PySem PySem.Spec PyProof.Rows L2

def notStar : Expr → Bool
  | .Starred _ _ => false
  | _ => true
theorem star1 {a : Expr} {es : List Expr} {env : PySem.Env} (h : notStar a = true) : starEach (a :: es) env = (false, eval a env) :: starEach es env := by
  cases a <;> first | rfl | cases h
theorem stars_any {env : PySem.Env} {pos : Pos} : ∀ {es : List Expr}, es.all notStar = true → (backTo pos (starEach es env)).any (·.1) = false
  | [], _ => rfl
  | a :: es, h => by
    simp only [List.all_cons, Bool.and_eq_true] at h
    rw [star1 h.1]
    show (false || (backTo pos (starEach es env)).any (·.1)) = false
    rw [stars_any h.2]; rfl
theorem stars_all {env : PySem.Env} {pos : Pos} : ∀ {es : List Expr}, es.all notStar = true → (backTo pos (starEach es env)).all (fun x => !x.1) = true
  | [], _ => rfl
  | a :: es, h => by
    simp only [List.all_cons, Bool.and_eq_true] at h
    rw [star1 h.1]
    show (true && (backTo pos (starEach es env)).all (fun x => !x.1)) = true
    rw [stars_all h.2]; rfl
theorem few_ok {env : PySem.Env} {pos : Pos} {es : List Expr} (h : es.all notStar = true) (hl : es.length < 30) : ((backTo pos (starEach es env)).all (fun x => !x.1) && (backToKw pos (keywordEach [] env)).all (fun x => x.1.isSome)
      && decide (es.length + ([] : List Keyword).length + (if ([] : List Keyword).isEmpty then 0 else 1) < 30)) = true := by
  rw [stars_all h]
  show (true && true && decide (es.length + 0 + 0 < 30)) = true
  simp [hl]
/-- no super() -/
def notSup : Expr → Bool
  | .Call (.Name _ _) [] [] _ => false
  | _ => true
theorem base_ok {o : Expr} {f : Str} {env : PySem.Env} (h : notSup o = true) : attributeBase o f env (eval o env) = eval o env := by
  unfold attributeBase
  split
  · cases h
  · rfl
theorem mth_form {o : Expr} {name : Str} {apos pos : Pos} {args : List Expr} {env : PySem.Env} (h0 : notSup o = true) (h1 : args.all notStar = true) (hl : args.length < 30) (hline : (apos.endLine == pos.line) = true) :
    eval (.Call (.Attribute o name apos) args [] pos) env = (do
      let ov ← eval o env
      standAt apos.atName
      let (f, first) ← holding [ov] (getMethod ov name (do return (← importBound o env).getD true))
      callWith pos f first (backTo pos (starEach args env)) (backToKw pos (keywordEach [] env))) := by
  have e1 : methodCallForm (args.length + ([] : List Keyword).length) (backTo pos (starEach args env)) (backToKw pos (keywordEach [] env)) = true := by
    unfold methodCallForm
    rw [stars_all h1]
    show (true && true && decide (args.length + 0 + 0 < 30)) = true
    simp [hl]
  show (do
    let ov ← attributeBase o name env (eval o env)
    standAt apos.atName
    methodCall o name apos pos env ov (args.length + ([] : List Keyword).length) (backTo pos (starEach args env)) (backToKw pos (keywordEach [] env))) = _
  rw [base_ok h0]
  unfold methodCall calleeOf methodCallPos
  rw [e1, hline]
  rfl
def isLC : Expr → Bool
  | .ListComp _ _ _ _ => true
  | .SetComp _ _ _ _ => true
  | .DictComp _ _ _ _ _ => true
  | _ => false
theorem swaps_no {e : Expr} {t : Option Expr} {l : Nat} {env : PySem.Env} (h : isLC e = false) : swapsWith e t l env = pure false := by
  cases e <;> first | rfl | cases h
theorem swaps_tgt {e t : Expr} {l : Nat} {env : PySem.Env} (h : (match t with | .Name _ _ => false | _ => true) = true) : swapsWith e (some t) l env = pure false := by
  cases e <;> first | rfl | (cases t <;> first | rfl | cases h)
def notSet : Expr → Bool
  | .Set _ _ _ => false
  | _ => true
theorem fold_ok {e : Expr} {env : PySem.Env} (h : notSet e = true) : ∀ x, foldedSetIterable e env x = pure x := by
  intro x
  cases e <;> first | rfl | cases h
theorem marks_no {o : CmpOp} {e : Expr} (h : notSet e = true) : behindInMarks o e = false := by
  cases e <;> first | rfl | cases h
theorem marks2_no {o o' : CmpOp} {b c : Expr} (h : notSet c = true) : lastMarks [o, o'] [b, c] = false := by
  show behindInMarks o' c = false
  exact marks_no h
def notSlice : Expr → Bool
  | .Slice _ _ _ _ => false
  | _ => true
theorem sub_ok {b : Expr} (h : notSlice b = true) : ∀ o i, subscripted b false o i = operate [o, i] (getItem o i) := by
  intro o i
  cases b <;> first | rfl | cases h
/-- tests of these forms are asked by their value -/
def asVal : Expr → Bool
  | .UnaryOp .Not _ _ => false
  | .BoolOp _ _ _ => false
  | .IfExp _ _ _ _ => false
  | .Compare _ _ _ _ => false
  | _ => true
theorem val_ok {e : Expr} {env : PySem.Env} (h : asVal e = true) : ∀ whole, isTrue e env whole = (do let v ← whole; standAt e.pos; holding [v] (truthy v)) := by
  intro whole
  unfold asVal at h
  split at h
  · cases h
  · cases h
  · cases h
  · cases h
  · rename_i h1 h2 h3 h4
    cases e <;> first | rfl | (exact absurd rfl (h2 _ _ _)) | (exact absurd rfl (h3 _ _ _ _)) | (exact absurd rfl (h4 _ _ _ _)) | skip
    rename_i o x p
    cases o <;> first | rfl | exact absurd rfl (h1 _ _)
theorem sub_assign {o i : Expr} {env : PySem.Env} {pos : Pos} (h : notSlice i = true) : ∀ v, assign (.Subscript o i pos) env v = (do
      let ov ← holding [v] (eval o env)
      let iv ← holding [v, ov] (eval i env)
      standAt pos
      holding [v, ov, iv] (setItem ov iv v)
      release [v, ov, iv] []) := by
  intro v
  cases i <;> first | rfl | cases h
theorem aug_ok {i : Expr} (h : notSlice i = true) : ∀ ov iv new, augStore i ov iv new = (do holding [new, ov, iv] (setItem ov iv new); release [new, ov, iv] []; pure .next) := by
  intro ov iv new
  cases i <;> first | rfl | cases h
theorem asg1 {t : Expr} {env : PySem.Env} (h : notStar t = true) : (assignEach [t] env).map (·.2) = [assign t env] := by
  cases t <;> first | rfl | cases h
theorem asgs {t : Expr} {ts : List Expr} {env : PySem.Env} (h : notStar t = true) : (assignEach (t :: ts) env).map (·.2) = assign t env :: (assignEach ts env).map (·.2) := by
  cases t <;> first | rfl | cases h
theorem asg_len {env : PySem.Env} : ∀ (ts : List Expr), (assignEach ts env).length = ts.length
  | [] => rfl
  | t :: ts => by
    have : (assignEach (t :: ts) env).length = (assignEach ts env).length + 1 := by cases t <;> rfl
    rw [this, asg_len ts]; rfl
theorem asg_star {env : PySem.Env} : ∀ {ts : List Expr}, ts.all notStar = true → (assignEach ts env).findIdx? (·.1) = none
  | [], _ => rfl
  | t :: ts, h => by
    simp only [List.all_cons, Bool.and_eq_true] at h
    have e : assignEach (t :: ts) env = (false, assign t env) :: assignEach ts env := by
      cases t <;> first | rfl | cases h.1
    rw [e, List.findIdx?_cons]
    simp only [Bool.false_eq_true, if_false]
    rw [asg_star h.2]; rfl
end Mi
namespace Mi
open PySem PySem.Spec PyProof.Rows L2
/-- whether a tuple is stored swapped -/
def swapS (sc : Scope) (ts vs : List Expr) : Option (Option (List Str)) :=
  if !(ts.length == 2 || ts.length == 3) || vs.length != ts.length then some none
  else if (vs.any fun | .Starred .. => true | _ => false) then some none
  else
    let line := (ts.head?.map (·.pos.line)).getD 0
    let names := ts.filterMap fun
      | .Name id pos => if sc.names.lookup id == some .local && pos.line == line then some id else none
      | _ => none
    if names.length != ts.length || names.eraseDups.length != names.length then some none
    else if vs.all (foldedForSure 8) then some none
    else if vs.all (constantsAlone 8) then none
    else some (some names)
theorem swap_ok {env : PySem.Env} {ts vs : List Expr} {kt k2 : Nat} {pt pt2 : Pos} {r : Option (List Str)} (hk : env.scope.kind = .function) (h : swapS env.scope ts vs = some r) : swappedStores [.Tuple ts kt pt] (.Tuple vs k2 pt2) env = pure r := by
  have hb : env.blockKind = .function := by unfold Env.blockKind; rw [hk]; rfl
  unfold swapS at h
  unfold swappedStores
  simp only [hb]
  by_cases c1 : (!(ts.length == 2 || ts.length == 3) || vs.length != ts.length) = true
  · rw [if_pos c1] at h
    cases h
    rw [if_pos (by simp only [c1]; rfl)]
  · rw [if_neg c1] at h
    have c1' : (!(ts.length == 2 || ts.length == 3) || vs.length != ts.length) = false := by simpa using c1
    rw [if_neg (by rw [c1']; decide)]
    split at h
    · rename_i c2
      cases h
      exact if_pos c2
    · rename_i c2
      refine (if_neg c2).trans ?_
      simp only at h
      split at h
      · rename_i c3
        cases h
        exact if_pos c3
      · rename_i c3
        refine (if_neg c3).trans ?_
        split at h
        · rename_i c4
          cases h
          exact if_pos c4
        · rename_i c4
          refine (if_neg c4).trans ?_
          split at h
          · cases h
          · rename_i c5
            cases h
            exact if_neg c5
theorem swap_none {env : PySem.Env} {t e : Expr} (h : (match e with | .Tuple _ _ _ => false | _ => true) = true) : swappedStores [t] e env = pure none := by
  unfold swappedStores
  cases e <;> first | (cases t <;> rfl) | cases h
theorem swap_name {env : PySem.Env} {x : Str} {p : Pos} {e : Expr} : swappedStores [.Name x p] e env = pure none := by
  unfold swappedStores
  rfl
end Mi
end
section
set_option autoImplicit false
set_option linter.all false
set_option maxRecDepth 100000
set_option maxHeartbeats 4000000
/-! MiX1: own exceptions are made -/
namespace Mi
open PySem PySem.Spec PyProof.Rows L2

/-- what stands behind B.__init__ for an own base class of exceptions -/
structure BaI (K : PySem.W.Frag) (B : Addr) : Prop where
  ga : PySem.W.specialIn K (.ref B) "__getattribute__" = some (some (.builtin "type.__getattribute__"))
  rd : PySem.W.readsIn K B (.type "type") = true
  vi : PySem.W.findCls K (.ref B) (.type "type") "__init__" = some (.val (.builtin "ValueError.__init__"))
/-- self.f = f, one behind the other -/
def iniSt (self : Str) : List Str → List Stmt → Bool
  | [], [] => true
  | f :: fs, .Assign [.Attribute (.Name s _) g _] (.Name h _) _ :: r => decide (s = self) && (decide (g = f) && (decide (h = f) && iniSt self fs r))
  | _, _ => false
/-- B.__init__(self, 'text'), then the fields -/
def iniB (b self : Str) (fs : List Str) : List Stmt → Bool
  | .Expr (.Call (.Attribute (.Name b' _) i p2) [.Name s _, .Constant (.str _) _ _] [] pos) _ :: r => decide (b' = b) && (decide (i = "__init__") && (decide (s = self) && ((p2.endLine == pos.line) && iniSt self fs r)))
  | _ => false
def okN (x : Str) : Bool := !(x == ("__debug__" : Str)) && !(x == ("__classdict__" : Str))
/-- the class at C of own exceptions, its fields, its __init__ -/
structure ExI (K : PySem.W.Frag) (mg : Str → Option Value) (C : Addr) (fs : List Str) : Prop where
  T : OexC K C
  xf : XfC K C
  ne : fs ≠ []
  le : fs.length < 100
  nd : fs.Nodup
  no : ∀ f ∈ fs, PySem.W.findIn K (.ref C) f = some none
  ini : ∃ (fI B : Addr) (b self name qual : Str) (params : Arguments) (body : List Stmt) (scope : Scope) (dV kV doc pm cdv ct oc : Value) (an od : Option Addr) (osl : Array (Option Value)),
    PySem.W.findIn K (.ref C) "__init__" = some (some (.ref fI)) ∧ PySem.W.typeIn K (.ref fI) = some (.type "function") ∧
    K.lookup fI = some ⟨oc, od, .func (PySem.W.fnOf name qual params body scope dV kV doc pm an cdv ct), osl⟩ ∧ PySem.W.codeIn K cdv qual = true ∧ FnScope (self :: fs) (self :: fs) scope ∧
    Binds K (PySem.W.fnOf name qual params body scope dV kV doc pm an cdv ct) (self :: fs) [] ∧ iniB b self fs body = true ∧ mg b = some (.ref B) ∧ BaI K B ∧ scope.names.lookup b = some .globalImplicit ∧ okN b = true ∧ (self :: fs).all okN = true

section
variable {X : Cx} {e : Expr} {es : List Expr} {ta : TA} {p1 p2 pos : Pos} {b : Str} {B : Addr}
theorem pe_bainit {pl : Sem Bool} (hg : Gl X b) (hm : X.mg b = some (.ref B)) (hdb : (b == ("__debug__" : Str)) = false) (T : BaI X.K B) (ha : PA X (e :: es) ta)
    (hc : eval (.Call (.Attribute (.Name b p1) "__init__" p2) (e :: es) [] pos) X.env = (do
      let ov ← eval (.Name b p1) X.env
      standAt p2.atName
      let (f, first) ← holding [ov] (getMethod ov "__init__" pl)
      callWith pos f first (backTo pos (starEach (e :: es) X.env)) (backToKw pos (keywordEach [] X.env))))
    (he : starEach (e :: es) X.env = (false, eval e X.env) :: starEach es X.env) (hpl : (backTo pos (starEach es X.env)).any (·.1) = false) :
    PE X (.Call (.Attribute (.Name b p1) "__init__" p2) (e :: es) [] pos) (tVeI X.K ta) := by
  refine ⟨fun pins s σ H Q I h => ?_⟩
  refine PySem.W.methodCall_KW (ld_glob I hg hm ?_ hdb) hc
  refine PySem.W.method_cls I.kIn T.ga (PySem.W.cls_value I.kIn T.rd T.vi (by decide +kernel) ?_)
  show wpAny _ _ (callWith pos (Value.builtin "ValueError.__init__") [] (backTo pos (starEach (e :: es) X.env)) []) _ _ _
  refine PyProof.Rows.callWith_method1 (thn (ha.run pos pins _ σ H _ (I.tok _) h) fun us s1 ⟨vs, H1, I1, r1, a, C, ws, ev, hl, T, ea, q⟩ => ?_) he hpl
  subst ev
  cases r1 with
  | @cons _ u0 _ ur ra rw' =>
    obtain rfl : u0 = Value.ref a := ra
    have hlen : ur.length ≤ sizeLine := by
      rw [← Paired.length rw', sizeLine_eq]
      omega
    exact oinit_ok T I1 ea hlen fun s' J => ⟨.non, H1, J, rfl, q⟩
end
/-- what the __init__ of the class at C keeps -/
def spI (K : PySem.W.Frag) (C : Addr) (fs : List Str) : Sp := fun vs H Q _ => ∃ (a : Addr) (xs : List V), vs = .ref a :: xs ∧ xs.length = fs.length ∧ H a = some (exo a C none) ∧
  ∀ (d : Addr) (H2 : Hp), H d = none → d ≠ a → H2 a = some (exo a C (some d)) → H2 d = some (exd d (fs.zip xs).reverse) → (∀ b, b ≠ a → b ≠ d → H2 b = H b) → Q .non H2
/-- the stores behind the first -/
def tRest (D : Ends) (C a d : Addr) (acc : List (Str × V)) (fs : List Str) (xs : List V) (H0 : Hp) (σ : L2.St) : Prop :=
  ∀ H2 : Hp, H2 a = some (exo a C (some d)) → H2 d = some (exd d ((fs.zip xs).reverse ++ acc)) → (∀ b, b ≠ a → b ≠ d → H2 b = H0 b) → D.nx σ H2
theorem ini_rest {X : Cx} {self : Str} (hs : X.N[0]? = some self) (hvs : Vis X.env.scope self) (hns : okN self = true) {C a : Addr} (T : OexC X.K C) : ∀ (fs : List Str) (body : List Stmt) (i : Nat) (xs : List V) (acc : List (Str × V)),
    iniSt self fs body = true → (∀ j f, fs[j]? = some f → X.N[i + j]? = some f ∧ Vis X.env.scope f ∧ okN f = true ∧ PySem.W.findIn X.K (.ref C) f = some none) → xs.length = fs.length → acc.length + fs.length ≤ 100 →
    ∃ t, PSs X body t ∧ ∀ (d : Addr) (D : Ends) (σ : L2.St) (H H0 : Hp), σ[0]? = some (some (.ref a)) → (∀ j x, xs[j]? = some x → σ[i + j]? = some (some x)) → H a = some (exo a C (some d)) → H d = some (exd d acc) → (∀ b, b ≠ a → b ≠ d → H b = H0 b) → d ≠ a → tRest D C a d acc fs xs H0 σ → t D σ H
  | [], [], i, xs, acc, _, _, hl, _ => ⟨_, pss_nil, fun d D σ H H0 h0 hx ea ed ho hda h => h H ea (by
      have : xs = [] := List.eq_nil_of_length_eq_zero hl
      subst this; exact ed) ho⟩
  | [], _ :: _, _, _, _, h, _, _, _ => by simp [iniSt] at h
  | f :: fs, [], _, _, _, h, _, _, _ => by simp [iniSt] at h
  | f :: fs, st :: body, i, xs, acc, h, hn, hl, hz => by
    unfold iniSt at h
    split at h
    · rename_i heq1 heq2; cases heq1
    · rename_i s p1 g p2 h' p3 pos r heq1 heq2
      cases heq1; cases heq2
      simp only [Bool.and_eq_true, decide_eq_true_eq] at h
      obtain ⟨rfl, rfl, rfl, h4⟩ := h
      match xs, hl with
      | x :: xs, hl =>
        obtain ⟨n1, n2, n3, n4⟩ := hn 0 h' rfl
        have nm : ∀ {y : Str}, okN y = true → (y == ("__debug__" : Str)) = false ∧ (y == ("__classdict__" : Str)) = false := fun {y} h => by unfold okN at h; simpa using h
        obtain ⟨t, ht, hq⟩ := ini_rest hs hvs hns T fs _ (i + 1) xs ((h', x) :: acc) h4 (fun j f e => by
          have := hn (j + 1) f (by simpa using e)
          rw [show i + 1 + j = i + (j + 1) by omega]; exact this) (by simpa using hl) (by simp only [List.length_cons] at hz ⊢; omega)
        refine ⟨_, pss_cons (ps_ost (pe_var hs hvs (nm hns).1 (nm hns).2) (pe_var n1 n2 (nm n3).1 (nm n3).2) (by rfl)) ht, fun d D σ H H0 h0 hx ea ed ho hda h => ?_⟩
        refine ⟨x, by have := hx 0 x rfl; simpa using this, .ref a, h0, a, C, rfl, T, n4, .inr ⟨d, acc, ea, ed, by omega, ?_⟩⟩
        have ea' : upd H d (exd d ((h', x) :: acc)) a = some (exo a C (some d)) := by rw [upd_ne (Ne.symm hda)]; exact ea
        refine hq d D σ _ H0 h0 (fun j y e => by
          rw [show i + 1 + j = i + (j + 1) by omega]; exact hx (j + 1) y (by simpa using e)) ea' upd_same (fun b h1 h2 => by rw [upd_ne h2]; exact ho b h1 h2) hda ?_
        intro H2 e1 e2 e3
        refine h H2 e1 ?_ e3
        rw [e2]
        simp [List.zip_cons_cons, List.append_assoc]
    · cases h
theorem iniB_inv {b self : Str} {fs : List Str} {body : List Stmt} (h : iniB b self fs body = true) : ∃ (p1 p2 p3 p4 pos pos2 : Pos) (tx : Str) (k : Nat) (r : List Stmt),
    body = .Expr (.Call (.Attribute (.Name b p1) "__init__" p2) [.Name self p3, .Constant (.str tx) k p4] [] pos) pos2 :: r ∧ (p2.endLine == pos.line) = true ∧ iniSt self fs r = true := by
  unfold iniB at h
  split at h
  · simp only [Bool.and_eq_true, decide_eq_true_eq] at h
    obtain ⟨e1, e2, e3, h1, h2⟩ := h
    subst e1 e2 e3
    exact ⟨_, _, _, _, _, _, _, _, _, rfl, h1, h2⟩
  · cases h
theorem iniSt_inv {self f : Str} {fs : List Str} {body : List Stmt} (h : iniSt self (f :: fs) body = true) : ∃ (p1 p2 p3 pos : Pos) (r : List Stmt),
    body = .Assign [.Attribute (.Name self p1) f p2] (.Name f p3) pos :: r ∧ iniSt self fs r = true := by
  cases body with
  | nil => simp [iniSt] at h
  | cons st r =>
    unfold iniSt at h
    split at h
    · rename_i heq1 heq2; cases heq1
    · rename_i heq1 heq2
      cases heq1; cases heq2
      simp only [Bool.and_eq_true, decide_eq_true_eq] at h
      obtain ⟨e1, e2, e3, h1⟩ := h
      subst e1 e2 e3
      exact ⟨_, _, _, _, _, rfl, h1⟩
    · cases h
theorem ini_ok {prog : Program} {w : World} {K : PySem.W.Frag} {mg : Str → Option Value} {base : Heap} {C : Addr} {fs : List Str} (E : ExI K mg C fs) :
    ∃ fI fd ps, PySem.W.findIn K (.ref C) "__init__" = some (some (.ref fI)) ∧ PySem.W.typeIn K (.ref fI) = some (.type "function") ∧ FnOk prog w K mg base (L2.CX prog w) 1 fI fd ps (spI K C fs) ∧ Binds K fd ps [] := by
  obtain ⟨fI, B, b, self, name, qual, params, body, scope, dV, kV, doc, pm, cdv, ct, oc, an, od, osl, i1, i2, lk, hcd, Sc, hb, hB, hmb, T, hgb, okb, oka⟩ := E.ini
  refine ⟨fI, _, _, i1, i2, fn_of (N := self :: fs) lk hcd Sc (fun vs H Q E ⟨a, xs, e, hl, _⟩ => by rw [e]; simp [hl]) ?_, hb⟩
  intro A outer s H vs Q E' hr hsp
  obtain ⟨a, xs, rfl, hl, ha, q⟩ := hsp
  have nm : ∀ {y : Str}, okN y = true → (y == ("__debug__" : Str)) = false ∧ (y == ("__classdict__" : Str)) = false := fun {y} h => by unfold okN at h; simpa using h
  have vis : ∀ y ∈ self :: fs, Vis scope y := fun y hy => by
    rcases Sc.par y hy with h | h
    · exact .inl h
    · exact .inr (.inl h)
  have ok1 := List.all_eq_true.mp oka
  have os : okN self = true := ok1 self (List.mem_cons_self ..)
  have vs : Vis scope self := vis self (List.mem_cons_self ..)
  obtain ⟨f, fs', rfl⟩ : ∃ f fs', fs = f :: fs' := by
    cases fs with
    | nil => exact absurd rfl E.ne
    | cons f fs' => exact ⟨f, fs', rfl⟩
  obtain ⟨x, xs', rfl⟩ : ∃ x xs', xs = x :: xs' := by
    cases xs with
    | nil => simp at hl
    | cons f fs' => exact ⟨f, fs', rfl⟩
  obtain ⟨p1, p2, p3, p4, pos, pos2, tx, k, r, rfl, hline, h2⟩ := iniB_inv hB
  obtain ⟨q1, q2, q3, pos3, r2, rfl, h3⟩ := iniSt_inv h2
  have memf : ∀ {j : Nat} {g : Str}, fs'[j]? = some g → g ∈ f :: fs' := fun e => List.mem_cons_of_mem _ (List.mem_of_getElem? e)
  obtain ⟨t, ht, hq⟩ := ini_rest (X := cxOf (L2.CX prog w) prog w K mg base (self :: f :: fs') qual scope fI cdv A outer s H E') (self := self) (C := C) (a := a) rfl vs os E.T fs' r2 2 xs' [(f, x)] h3
    (fun j g e => ⟨by show (self :: f :: fs')[2 + j]? = some g; rw [show 2 + j = j + 1 + 1 by omega]; exact e, vis g (List.mem_cons_of_mem _ (memf e)), ok1 g (List.mem_cons_of_mem _ (memf e)), E.no g (memf e)⟩)
    (by simpa using hl) (by have := E.le; simp only [List.length_cons, List.length_nil] at this ⊢; omega)
  have hf : f ∈ f :: fs' := List.mem_cons_self ..
  have of_ := ok1 f (List.mem_cons_of_mem _ hf)
  have st0 : (L2.start (self :: f :: fs') (V.ref a :: x :: xs'))[0]? = some (some (V.ref a)) := rfl
  refine ⟨_, pss_cons (ps_expr (pe_bainit (hg := hgb) hmb (nm okb).1 T (pa_cons (pe_var (i := 0) rfl vs (nm os).1 (nm os).2) (pa_cons pe_str pa_nil)) (mth_form rfl rfl (by simp) hline) rfl rfl) (by rfl)) (pss_cons (ps_ost (pe_var (i := 0) rfl vs (nm os).1 (nm os).2) (pe_var (i := 1) rfl (vis f (List.mem_cons_of_mem _ hf)) (nm of_).1 (nm of_).2) (by rfl)) ht), ?_⟩
  refine ⟨.ref a, st0, a, C, [.str tx], rfl, by simp, E.T, ha, ?_⟩
  refine ⟨x, rfl, .ref a, st0, a, C, rfl, E.T, E.no f hf, .inl ⟨ha, fun d hd1 hd2 => ?_⟩⟩
  refine hq d _ _ _ H st0 (fun j y e => ?_) upd_same ?_ (fun b h1 h2 => ?_) hd2 ?_
  · show (L2.start (self :: f :: fs') (V.ref a :: x :: xs'))[2 + j]? = some (some y)
    have hj := (List.getElem?_eq_some_iff.mp e).1
    unfold L2.start
    rw [List.getElem?_append_left (by simp; omega), List.getElem?_map, show 2 + j = j + 1 + 1 by omega]
    show Option.map some xs'[j]? = _
    rw [e]; rfl
  · rw [upd_ne hd2, upd_same]
  · rw [upd_ne h1, upd_ne h2]
  · intro H2 e1 e2 e3
    refine q d H2 hd1 hd2 e1 ?_ e3
    rw [e2]
    simp [List.zip_cons_cons]
end Mi
end
section
set_option autoImplicit false
set_option linter.all false
set_option maxRecDepth 100000
/-! Mi7: expressions -/
namespace Mi
open PySem PySem.Spec PyProof.Rows L2

/-! ### what is wanted behind -/
def EnvR (K : PySem.W.Frag) (G : Ga0) (B : Hp) (ρ : List Addr) (σ : L2.St) (v : Env) : Prop :=
  σ.length = v.length ∧ ∀ (i : Nat) (d : D), v[i]? = some (some d) → ∃ u, σ[i]? = some (some u) ∧ Rep K G B ρ u d
theorem EnvR.up {K : PySem.W.Frag} {G : Ga0} {B B' : Hp} {ρ ρ' : List Addr} {σ : L2.St} {v : Env} (le : Le B ρ B' ρ') (h : EnvR K G B ρ σ v) : EnvR K G B' ρ' σ v :=
  ⟨h.1, fun i d e => let ⟨u, h1, h2⟩ := h.2 i d e; ⟨u, h1, h2.up le⟩⟩
def ExF (K : PySem.W.Frag) (G : Ga0) (B : Hp) (ρ : List Addr) (fv : List (Str × V)) (fs : List (Nat × D)) : Prop :=
  ∀ i d, lookF i fs = some d → ∃ v, fv.lookup (G.nm i) = some v ∧ Rep K G B ρ v d
/-- what is wanted of an exception -/
def ExC (K : PySem.W.Frag) (G : Ga) (W : Value → Option Addr → Hp → Prop) (B : Hp) (ρ : List Addr) (c : Nat) (fs : List (Nat × D)) (S' : Sto) : Prop :=
  ∀ (dd : Addr) (fv : List (Str × V)) (H' B' : Hp) (ρ' : List Addr), Le B ρ B' ρ' → Sim K G B' ρ' S' H' → H' dd = some (.xd fv) → ExF K G B' ρ' fv fs → W (.ref (G.cl c)) (some dd) H'
def Aft (K : PySem.W.Frag) (G : Ga) (W : XK) (B : Hp) (ρ : List Addr) (r : R) (Q : VK) : Prop := match r with
  | .ok d S' => Post K G B ρ S' d Q
  | .ex c fs S' => ExC K G W B ρ c fs S'
  | .bad => False
def AftL (K : PySem.W.Frag) (G : Ga) (W : XK) (B : Hp) (ρ : List Addr) (r : RL) (Q : List V → Hp → Prop) : Prop := match r with
  | .ok ds S' => ∀ (us : List V) (H' B' : Hp) (ρ' : List Addr), Le B ρ B' ρ' → Sim K G B' ρ' S' H' → Reps K G B' ρ' us ds → Q us H'
  | .ex c fs S' => ExC K G W B ρ c fs S'
  | .bad => False
def AftT (K : PySem.W.Frag) (G : Ga) (W : XK) (B : Hp) (ρ : List Addr) (r : RT) (Q : Bool → Hp → Prop) : Prop := match r with
  | .ok b S' => ∀ (H' B' : Hp) (ρ' : List Addr), Le B ρ B' ρ' → Sim K G B' ρ' S' H' → Q b H'
  | .ex c fs S' => ExC K G W B ρ c fs S'
  | .bad => False
section
variable {K : PySem.W.Frag} {G : Ga} {W : XK} {B B' : Hp} {ρ ρ' : List Addr}
theorem ExC.up {c : Nat} {fs : List (Nat × D)} {S : Sto} (h : ExC K G W B ρ c fs S) (le : Le B ρ B' ρ') : ExC K G W B' ρ' c fs S := fun dd fv H B2 ρ2 l s e x => h dd fv H B2 ρ2 (le.trans l) s e x
theorem Aft.up {r : R} {Q : VK} (h : Aft K G W B ρ r Q) (le : Le B ρ B' ρ') : Aft K G W B' ρ' r Q := by
  cases r with
  | ok d S => exact Post.up h le
  | ex c fs S => exact ExC.up h le
  | bad => exact h
theorem AftL.up {r : RL} {Q : List V → Hp → Prop} (h : AftL K G W B ρ r Q) (le : Le B ρ B' ρ') : AftL K G W B' ρ' r Q := by
  cases r with
  | ok d S => exact fun us H B2 ρ2 l => h us H B2 ρ2 (le.trans l)
  | ex c fs S => exact ExC.up h le
  | bad => exact h
theorem AftT.up {r : RT} {Q : Bool → Hp → Prop} (h : AftT K G W B ρ r Q) (le : Le B ρ B' ρ') : AftT K G W B' ρ' r Q := by
  cases r with
  | ok d S => exact fun H B2 ρ2 l => h H B2 ρ2 (le.trans l)
  | ex c fs S => exact ExC.up h le
  | bad => exact h
/-- in the middle: a value, its tree, and what is left to do -/
def Mid (K : PySem.W.Frag) (G : Ga) (B : Hp) (ρ : List Addr) (k : D → Sto → Hp → List Addr → Prop) (u : V) (H1 : Hp) : Prop :=
  ∃ B1 ρ1 S1 d, Le B ρ B1 ρ1 ∧ Sim K G B1 ρ1 S1 H1 ∧ Rep K G B1 ρ1 u d ∧ k d S1 B1 ρ1
theorem Aft.mid {r : R} {f : D → Sto → R} {Q : VK} (h : Aft K G W B ρ (bind1 r f) Q) : Aft K G W B ρ r (Mid K G B ρ fun d S1 B1 ρ1 => Aft K G W B1 ρ1 (f d S1) Q) := by
  cases r with
  | ok d S => exact fun u H' B' ρ' le s rp => ⟨B', ρ', S, d, le, s, rp, Aft.up h le⟩
  | ex c fs S => exact h
  | bad => exact h
/-- by cases of what a part comes to: the wish for it -/
theorem Aft.cases {r : R} {p : VK} (hok : ∀ d S, r = .ok d S → Post K G B ρ S d p) (hex : ∀ c fs S, r = .ex c fs S → ExC K G W B ρ c fs S) (hbad : r ≠ .bad) : Aft K G W B ρ r p := by
  cases r with
  | ok d S => exact hok d S rfl
  | ex c fs S => exact hex c fs S rfl
  | bad => exact absurd rfl hbad
end

section
variable {P : Pg} {F : Fo} {G : Ga} {X : Cx} {W : WX}
/-- readings -/
def tE (K : PySem.W.Frag) (P : Pg) (F : Fo) (G : Ga) (W : WX) (m : ME) : TE := fun σ H Q => ∃ B ρ v S, Sim K G B ρ S H ∧ EnvR K G B ρ σ v ∧ Aft K G (fun c d => W c d σ) B ρ (ev P F m v S) Q
def tL (K : PySem.W.Frag) (P : Pg) (F : Fo) (G : Ga) (W : WX) (ms : List ME) : TA := fun σ H Q => ∃ B ρ v S, Sim K G B ρ S H ∧ EnvR K G B ρ σ v ∧ AftL K G (fun c d => W c d σ) B ρ (evs P F ms v S) Q
def tQ (K : PySem.W.Frag) (P : Pg) (F : Fo) (G : Ga) (W : WX) (m : MQ) : TT := fun σ H Q => ∃ B ρ v S, Sim K G B ρ S H ∧ EnvR K G B ρ σ v ∧ AftT K G (fun c d => W c d σ) B ρ (evT P F m v S) Q
variable {a b c : Expr} {es : List Expr} {ma mb mc : ME} {ms : List ME} {pos : Pos}

/-- an operand, and what follows with it -/
theorem _root_.L2.PE.mid (ha : PE X a (tE X.K P F G W ma)) {pins : List (Addr × Obj)} {s : Shared} {σ : L2.St} {H B : Hp} {ρ : List Addr} {v : Env} {S : Sto} {f : D → Sto → R} {Q : VK} {Z : Value → Shared → Prop} (I : Inv X pins σ H s) (sim : Sim X.K G B ρ S H) (er : EnvR X.K G B ρ σ v)
    (h : Aft X.K G (fun c d => W c d σ) B ρ (bind1 (ev P F ma v S) f) Q)
    (k : ∀ u s1 x H1 B1 ρ1 S1 d, Inv X pins σ H1 s1 → RelV x u → Le B ρ B1 ρ1 → Sim X.K G B1 ρ1 S1 H1 → EnvR X.K G B1 ρ1 σ v → Rep X.K G B1 ρ1 x d → Aft X.K G (fun c d => W c d σ) B1 ρ1 (f d S1) Q → Z u s1) :
    wpAny (model X.prog X.w) X.A (eval a X.env) Z X.xe s :=
  thn (ha.run pins s σ H _ I ⟨B, ρ, v, S, sim, er, h.mid⟩) fun u s1 ⟨x, H1, I1, r1, B1, ρ1, S1, d, le, s', rp, af⟩ => k u s1 x H1 B1 ρ1 S1 d I1 r1 le s' (er.up le) rp af


theorem s_int {i : Int} {j : Nat} : PE X (.Constant (.int i) j pos) (tE X.K P F G W (.cst (.int i))) := ⟨fun pins s σ H Q I ⟨_, _, _, _, sim, _, af⟩ => pe_int.run pins s σ H Q I (Post.here af sim (.int i))⟩
theorem s_bl {i : Bool} {j : Nat} : PE X (.Constant (.bool i) j pos) (tE X.K P F G W (.cst (.bl i))) := ⟨fun pins s σ H Q I ⟨_, _, _, _, sim, _, af⟩ => pe_bl.run pins s σ H Q I (Post.here af sim (.bl i))⟩
theorem s_non {j : Nat} : PE X (.Constant .none j pos) (tE X.K P F G W (.cst .non)) := ⟨fun pins s σ H Q I ⟨_, _, _, _, sim, _, af⟩ => pe_non.run pins s σ H Q I (Post.here af sim .non)⟩
theorem s_str {i : Str} {j : Nat} : PE X (.Constant (.str i) j pos) (tE X.K P F G W (.cst (.str i))) := ⟨fun pins s σ H Q I ⟨_, _, _, _, sim, _, af⟩ => pe_str.run pins s σ H Q I (Post.here af sim (.str i))⟩
theorem s_var {i : Nat} {x : Str} (hN : X.N[i]? = some x) (hv : Vis X.env.scope x) (hd : (x == ("__debug__" : Str)) = false) (hcd : (x == ("__classdict__" : Str)) = false) : PE X (.Name x pos) (tE X.K P F G W (.var i)) :=
  ⟨fun pins s σ H Q I ⟨B, ρ, v, S, sim, er, af⟩ => by
    have af : Aft X.K G (fun c d => W c d σ) B ρ (match v[i]? with
      | some (some d) => .ok d S
      | _ => .bad) Q := af
    split at af
    · rename_i d e
      obtain ⟨u, h1, h2⟩ := er.2 i d e
      exact (pe_var hN hv hd hcd).run pins s σ H Q I ⟨u, h1, Post.here af sim h2⟩
    · exact af.elim⟩
theorem s_glb {g : Nat} {x : Str} {d : D} {v : V} {u : Value} (hg : Gl X x) (hd : (x == ("__debug__" : Str)) = false) (e : P.glb[g]? = some d) (hm : X.mg x = some u) (r : RelV v u) (rp : ∀ B ρ, Rep X.K G B ρ v d) : PE X (.Name x pos) (tE X.K P F G W (.glb g)) :=
  ⟨fun pins s σ H Q I ⟨B, ρ, w, S, sim, er, af⟩ => by
    have af : Aft X.K G (fun c d => W c d σ) B ρ (ofO P.glb[g]? S) Q := af
    rw [e] at af
    exact (pe_glob hg hm r hd).run pins s σ H Q I (Post.here af sim (rp _ _))⟩
theorem s_ty {n : String} {x : Str} (hg : Gl X x) (hd : (x == ("__debug__" : Str)) = false) (hm : X.mg x = none) (hv : bootBuiltins x = some (.type n)) (hn : x ≠ "__name__") : PE X (.Name x pos) (tE X.K P F G W (.cst (.ty n))) :=
  ⟨fun pins s σ H Q I ⟨B, ρ, w, S, sim, er, af⟩ => (pe_bltn (v := .ty n) hg hm hv rfl hn hd).run pins s σ H Q I (Post.here af sim (.ty n))⟩

theorem s_bin {o : Operator} (ha : PE X a (tE X.K P F G W ma)) (hb : PE X b (tE X.K P F G W mb)) : PE X (.BinOp a o b pos) (tE X.K P F G W (.bin o ma mb)) :=
  ⟨fun pins s σ H Q I ⟨B, ρ, v, S, sim, er, af⟩ => wpAny_BinOp (ha.mid I sim er af fun u s1 x H1 B1 ρ1 S1 d I1 r1 le1 sim1 er1 rp1 af1 => hb.mid I1 sim1 er1 af1 fun w s2 y H2 B2 ρ2 S2 e I2 r2 le2 sim2 er2 rp2 af2 => by
    cases hq : binD S2 o d e with
    | none => rw [hq] at af2; exact af2.elim
    | some z => rw [hq] at af2; exact o_bin I2 sim2 r1 r2 (rp1.up le2) rp2 hq af2)⟩
theorem s_neg (ha : PE X a (tE X.K P F G W ma)) : PE X (.UnaryOp .USub a pos) (tE X.K P F G W (.neg ma)) :=
  ⟨fun pins s σ H Q I ⟨B, ρ, v, S, sim, er, af⟩ => UnaryOp_ (ha.mid I sim er af fun u s1 x H1 B1 ρ1 S1 d I1 r1 le1 sim1 er1 rp1 af1 => by
    split at af1
    · exact un_neg pins s1 σ H1 x u Q I1 r1 ⟨_, rp1.int_inv, Post.here af1 sim1 (.int _)⟩
    · exact af1.elim)⟩
theorem s_cmp {o : CmpOp} (hw : G.w = X.w) (hu : X.A.units + 100 < cLine) (ha : PE X a (tE X.K P F G W ma)) (hb : PE X b (tE X.K P F G W mb)) (hm : behindInMarks o b = false) : PE X (.Compare a [o] [b] pos) (tE X.K P F G W (.cmp o ma mb)) :=
  ⟨fun pins s σ H Q I ⟨B, ρ, v, S, sim, er, af⟩ => wpAny_Compare1 (ha.mid I sim er af fun u s1 x H1 B1 ρ1 S1 d I1 r1 le1 sim1 er1 rp1 af1 => hb.mid I1 sim1 er1 af1 fun w s2 y H2 B2 ρ2 S2 e I2 r2 le2 sim2 er2 rp2 af2 => by
    cases hq : cmpD S2 o d e with
    | none => rw [hq] at af2; exact af2.elim
    | some z => rw [hq] at af2; exact o_cmp hw hu I2 sim2 r1 r2 (rp1.up le2) rp2 hq af2) hm⟩
/-- the same as a test -/
theorem q_cmp {o : CmpOp} (hw : G.w = X.w) (hu : X.A.units + 100 < cLine) (ha : PE X a (tE X.K P F G W ma)) (hb : PE X b (tE X.K P F G W mb)) (hm : behindInMarks o b = false) : PT X (.Compare a [o] [b] pos) (tQ X.K P F G W (.v (.cmp o ma mb))) :=
  ⟨fun pins s σ H Q I ⟨B, ρ, v, S, sim, er, af⟩ => wpAny_isTrue_Compare1 (ha.mid (f := fun x S1 => bind1 (ev P F mb v S1) fun y S2 => ofB (cmpD S2 o x y) S2) (Q := fun x H => ∃ k, x = .bl k ∧ Q k H) I sim er (by
      have af : AftT X.K G (fun c d => W c d σ) B ρ (match bind1 (ev P F ma v S) (fun x S1 => bind1 (ev P F mb v S1) fun y S2 => ofB (cmpD S2 o x y) S2) with
        | .ok d S1 => (match tru S1 d with
          | some b => .ok b S1
          | none => .bad)
        | .ex c fs S1 => .ex c fs S1
        | .bad => .bad) Q := af
      revert af
      have key : ∀ r : R, (∀ d S1, r = .ok d S1 → ∃ k, d = .bl k) → AftT X.K G (fun c d => W c d σ) B ρ (match r with
        | .ok d S1 => (match tru S1 d with
          | some b => .ok b S1
          | none => .bad)
        | .ex c fs S1 => .ex c fs S1
        | .bad => .bad) Q → Aft X.K G (fun c d => W c d σ) B ρ r (fun x H => ∃ k, x = .bl k ∧ Q k H) := by
        intro r hr af
        cases r with
        | ok d S1 =>
          obtain ⟨k, rfl⟩ := hr d S1 rfl
          exact fun u H' B' ρ' le sim' rp => ⟨k, rp.bl_inv, af H' B' ρ' le sim'⟩
        | ex c fs S1 => exact af
        | bad => exact af
      refine key _ fun d S1 e => ?_
      cases h1 : ev P F ma v S with
      | ok d1 S2 =>
        rw [h1] at e
        simp only [bind1] at e
        cases h2 : ev P F mb v S2 with
        | ok d2 S3 =>
          rw [h2] at e
          simp only at e
          unfold ofB at e
          split at e
          · cases e; exact ⟨_, rfl⟩
          · cases e
        | ex c fs S3 => rw [h2] at e; cases e
        | bad => rw [h2] at e; cases e
      | ex c fs S2 => rw [h1] at e; cases e
      | bad => rw [h1] at e; cases e) fun u s1 x H1 B1 ρ1 S1 d I1 r1 le1 sim1 er1 rp1 af1 => hb.mid I1 sim1 er1 af1 fun w s2 y H2 B2 ρ2 S2 e I2 r2 le2 sim2 er2 rp2 af2 => by
    cases hq : cmpD S2 o d e with
    | none => rw [hq] at af2; exact af2.elim
    | some z =>
      rw [hq] at af2
      refine thn (o_cmp hw hu I2 sim2 r1 r2 (rp1.up le2) rp2 hq af2) fun c s3 ⟨x3, H3, I3, r3, k, ek, q3⟩ => ?_
      subst ek
      cases r3
      exact wpAny_truthy_bool ⟨H3, I3, q3⟩) hm⟩
end
end Mi
end
section
set_option autoImplicit false
set_option linter.all false
set_option maxRecDepth 100000
/-! Mi8: more expressions, tests -/
namespace Mi
open PySem PySem.Spec PyProof.Rows L2

section
variable {P : Pg} {F : Fo} {G : Ga} {X : Cx} {W : WX} {a b c : Expr} {es rest : List Expr} {ma mb mc : ME} {ms : List ME} {qa qb qc : MQ} {qs : List MQ} {pos : Pos}

/-- a test, and what follows with it -/
theorem _root_.L2.PT.mid (ha : PT X a (tQ X.K P F G W qa)) {pins : List (Addr × Obj)} {s : Shared} {σ : L2.St} {H B : Hp} {ρ : List Addr} {v : Env} {S : Sto} {Z : Bool → Shared → Prop} (I : Inv X pins σ H s) (sim : Sim X.K G B ρ S H) (er : EnvR X.K G B ρ σ v)
    (hex : ∀ c fs S1, evT P F qa v S = .ex c fs S1 → ExC X.K G (fun c d => W c d σ) B ρ c fs S1) (hbad : evT P F qa v S ≠ .bad)
    (k : ∀ t s1 H1 B1 ρ1 S1, evT P F qa v S = .ok t S1 → Inv X pins σ H1 s1 → Le B ρ B1 ρ1 → Sim X.K G B1 ρ1 S1 H1 → EnvR X.K G B1 ρ1 σ v → Z t s1) :
    wpAny (model X.prog X.w) X.A (isTrue a X.env (eval a X.env)) Z X.xe s := by
  refine thn (ha.run pins s σ H (fun t H1 => ∃ B1 ρ1 S1, evT P F qa v S = .ok t S1 ∧ Le B ρ B1 ρ1 ∧ Sim X.K G B1 ρ1 S1 H1) I ⟨B, ρ, v, S, sim, er, ?_⟩) fun t s1 ⟨H1, I1, B1, ρ1, S1, e, le, s'⟩ => k t s1 H1 B1 ρ1 S1 e I1 le s' (er.up le)
  cases e : evT P F qa v S with
  | ok t S1 => exact fun H' B' ρ' le s' => ⟨B', ρ', S1, rfl, le, s'⟩
  | ex c fs S1 => exact hex c fs S1 e
  | bad => exact hbad e

theorem q_v (ha : PE X a (tE X.K P F G W ma)) (he : ∀ whole, isTrue a X.env whole = (do let v ← whole; standAt a.pos; holding [v] (truthy v))) : PT X a (tQ X.K P F G W (.v ma)) :=
  ⟨fun pins s σ H Q I ⟨B, ρ, v, S, sim, er, af⟩ => by
    have h : Aft X.K G (fun c d => W c d σ) B ρ (ev P F ma v S) (fun x H1 => ∃ B1 ρ1 S1 d k, Sim X.K G B1 ρ1 S1 H1 ∧ Rep X.K G B1 ρ1 x d ∧ tru S1 d = some k ∧ Q k H1) := by
      have af : AftT X.K G (fun c d => W c d σ) B ρ (match ev P F ma v S with
        | .ok d S1 => (match tru S1 d with
          | some b => .ok b S1
          | none => .bad)
        | .ex c fs S1 => .ex c fs S1
        | .bad => .bad) Q := af
      cases e : ev P F ma v S with
      | ok d S1 =>
        rw [e] at af
        simp only at af
        cases ek : tru S1 d with
        | none => rw [ek] at af; exact af.elim
        | some k => rw [ek] at af; exact fun u H' B' ρ' le s' rp => ⟨B', ρ', S1, d, k, s', rp, ek, af H' B' ρ' le s'⟩
      | ex c fs S1 => rw [e] at af; exact af
      | bad => rw [e] at af; exact af
    refine isTrue_plain (thn (ha.run pins s σ H _ I ⟨B, ρ, v, S, sim, er, h⟩) fun u s1 ⟨x, H1, I1, r1, B1, ρ1, S1, d, k, sim1, rp, ek, q⟩ => ?_) (he _)
    exact o_tru I1 sim1 r1 rp ek q⟩

theorem q_not (ha : PT X a (tQ X.K P F G W qa)) : PT X (.UnaryOp .Not a pos) (tQ X.K P F G W (.not qa)) :=
  ⟨fun pins s σ H Q I ⟨B, ρ, v, S, sim, er, af⟩ => by
    have af : AftT X.K G (fun c d => W c d σ) B ρ (match evT P F qa v S with
      | .ok b S1 => .ok (!b) S1
      | .ex c fs S1 => .ex c fs S1
      | .bad => .bad) Q := af
    exact isTrue_not (ha.mid I sim er (fun c fs S1 e => by rw [e] at af; exact af) (fun e => by rw [e] at af; exact af) fun t s1 H1 B1 ρ1 S1 e I1 le s' er' => by
      rw [e] at af; exact ⟨H1, I1, af H1 B1 ρ1 le s'⟩)⟩
theorem s_not (ha : PE X a (tE X.K P F G W ma)) : PE X (.UnaryOp .Not a pos) (tE X.K P F G W (.not (.v ma))) :=
  ⟨fun pins s σ H Q I ⟨B, ρ, v, S, sim, er, af⟩ => by
    have h : Aft X.K G (fun c d => W c d σ) B ρ (ev P F ma v S) (fun x H1 => ∃ B1 ρ1 S1 d k, Sim X.K G B1 ρ1 S1 H1 ∧ Rep X.K G B1 ρ1 x d ∧ tru S1 d = some k ∧ Q (.bl (!k)) H1) := by
      have af : Aft X.K G (fun c d => W c d σ) B ρ (bindT1 (match ev P F ma v S with
        | .ok d S1 => (match tru S1 d with
          | some b => .ok b S1
          | none => .bad)
        | .ex c fs S1 => .ex c fs S1
        | .bad => .bad) fun b S1 => .ok (.bl (!b)) S1) Q := af
      cases e : ev P F ma v S with
      | ok d S1 =>
        rw [e] at af
        simp only at af
        cases ek : tru S1 d with
        | none => rw [ek] at af; exact af.elim
        | some k => rw [ek] at af; exact fun u H' B' ρ' le s' rp => ⟨B', ρ', S1, d, k, s', rp, ek, af _ H' B' ρ' le s' (.bl _)⟩
      | ex c fs S1 => rw [e] at af; exact af
      | bad => rw [e] at af; exact af
    refine UnaryOp_ (thn (ha.run pins s σ H _ I ⟨B, ρ, v, S, sim, er, h⟩) fun u s1 ⟨x, H1, I1, r1, B1, ρ1, S1, d, k, sim1, rp, ek, q⟩ => ?_)
    exact not_of (thn (o_tru (Q := fun k H => Q (.bl (!k)) H) I1 sim1 r1 rp ek q) fun c s2 ⟨H2, I2, q2⟩ => ⟨.bl (!c), H2, I2, rfl, q2⟩)⟩
theorem s_ite (hc : PT X c (tQ X.K P F G W qc)) (ha : PE X a (tE X.K P F G W ma)) (hb : PE X b (tE X.K P F G W mb)) : PE X (.IfExp c a b pos) (tE X.K P F G W (.ite qc ma mb)) :=
  ⟨fun pins s σ H Q I ⟨B, ρ, v, S, sim, er, af⟩ => by
    have af : Aft X.K G (fun c d => W c d σ) B ρ (bindT1 (evT P F qc v S) fun t S1 => if t then ev P F ma v S1 else ev P F mb v S1) Q := af
    refine wpAny_IfExp (hc.mid I sim er (fun c fs S1 e => by rw [e] at af; exact af) (fun e => by rw [e] at af; exact af) fun t s1 H1 B1 ρ1 S1 e I1 le s' er' => ?_)
    rw [e] at af
    cases t with
    | true => exact ha.run pins s1 σ H1 Q I1 ⟨B1, ρ1, v, S1, s', er', Aft.up af le⟩
    | false => exact hb.run pins s1 σ H1 Q I1 ⟨B1, ρ1, v, S1, s', er', Aft.up af le⟩⟩
theorem q_ite (hc : PT X c (tQ X.K P F G W qc)) (ha : PT X a (tQ X.K P F G W qa)) (hb : PT X b (tQ X.K P F G W qb)) : PT X (.IfExp c a b pos) (tQ X.K P F G W (.ite qc qa qb)) :=
  ⟨fun pins s σ H Q I ⟨B, ρ, v, S, sim, er, af⟩ => by
    have af : AftT X.K G (fun c d => W c d σ) B ρ (match evT P F qc v S with
      | .ok t S1 => if t then evT P F qa v S1 else evT P F qb v S1
      | .ex c fs S1 => .ex c fs S1
      | .bad => .bad) Q := af
    show wpAny _ _ (do
      if ← isTrue c X.env (eval c X.env) then isTrue a X.env (eval a X.env) else isTrue b X.env (eval b X.env)) _ _ _
    refine wpAny_bind (hc.mid I sim er (fun c fs S1 e => by rw [e] at af; exact af) (fun e => by rw [e] at af; exact af) fun t s1 H1 B1 ρ1 S1 e I1 le s' er' => ?_)
    rw [e] at af
    cases t with
    | true => exact ha.run pins s1 σ H1 Q I1 ⟨B1, ρ1, v, S1, s', er', AftT.up af le⟩
    | false => exact hb.run pins s1 σ H1 Q I1 ⟨B1, ρ1, v, S1, s', er', AftT.up af le⟩⟩
/-- and, or as tests -/
def tQA (K : PySem.W.Frag) (P : Pg) (F : Fo) (G : Ga) (W : WX) (qs : List MQ) : TT := fun σ H Q => ∃ B ρ v S, Sim K G B ρ S H ∧ EnvR K G B ρ σ v ∧ AftT K G (fun c d => W c d σ) B ρ (evTA P F qs v S) Q
def tQO (K : PySem.W.Frag) (P : Pg) (F : Fo) (G : Ga) (W : WX) (qs : List MQ) : TT := fun σ H Q => ∃ B ρ v S, Sim K G B ρ S H ∧ EnvR K G B ρ σ v ∧ AftT K G (fun c d => W c d σ) B ρ (evTO P F qs v S) Q
theorem q_and_nil : PW X (.BoolOp .And [] pos) (tQA X.K P F G W []) := ⟨fun _ pins s σ H Q I ⟨B, ρ, v, S, sim, er, af⟩ => isTrue_and_nil ⟨H, I, (show AftT X.K G (fun c d => W c d σ) B ρ (.ok true S) Q from af) H B ρ Le.refl sim⟩⟩
theorem q_or_nil : PW X (.BoolOp .Or [] pos) (tQO X.K P F G W []) := ⟨fun _ pins s σ H Q I ⟨B, ρ, v, S, sim, er, af⟩ => isTrue_or_nil ⟨H, I, (show AftT X.K G (fun c d => W c d σ) B ρ (.ok false S) Q from af) H B ρ Le.refl sim⟩⟩
theorem q_and_cons (ha : PT X a (tQ X.K P F G W qa)) (hr : PW X (.BoolOp .And rest pos) (tQA X.K P F G W qs)) : PW X (.BoolOp .And (a :: rest) pos) (tQA X.K P F G W (qa :: qs)) :=
  ⟨fun wh pins s σ H Q I ⟨B, ρ, v, S, sim, er, af⟩ => by
    have af : AftT X.K G (fun c d => W c d σ) B ρ (match evT P F qa v S with
      | .ok true S1 => evTA P F qs v S1
      | .ok false S1 => .ok false S1
      | .ex c fs S1 => .ex c fs S1
      | .bad => .bad) Q := af
    refine isTrue_and (ha.mid I sim er (fun c fs S1 e => by rw [e] at af; exact af) (fun e => by rw [e] at af; exact af) fun t s1 H1 B1 ρ1 S1 e I1 le s' er' => ?_)
    rw [e] at af
    cases t with
    | true => exact hr.run wh pins s1 σ H1 Q I1 ⟨B1, ρ1, v, S1, s', er', AftT.up af le⟩
    | false => exact ⟨H1, I1, af H1 B1 ρ1 le s'⟩⟩
theorem q_or_cons (ha : PT X a (tQ X.K P F G W qa)) (hr : PW X (.BoolOp .Or rest pos) (tQO X.K P F G W qs)) : PW X (.BoolOp .Or (a :: rest) pos) (tQO X.K P F G W (qa :: qs)) :=
  ⟨fun wh pins s σ H Q I ⟨B, ρ, v, S, sim, er, af⟩ => by
    have af : AftT X.K G (fun c d => W c d σ) B ρ (match evT P F qa v S with
      | .ok true S1 => .ok true S1
      | .ok false S1 => evTO P F qs v S1
      | .ex c fs S1 => .ex c fs S1
      | .bad => .bad) Q := af
    refine isTrue_or (ha.mid I sim er (fun c fs S1 e => by rw [e] at af; exact af) (fun e => by rw [e] at af; exact af) fun t s1 H1 B1 ρ1 S1 e I1 le s' er' => ?_)
    rw [e] at af
    cases t with
    | false => exact hr.run wh pins s1 σ H1 Q I1 ⟨B1, ρ1, v, S1, s', er', AftT.up af le⟩
    | true => exact ⟨H1, I1, af H1 B1 ρ1 le s'⟩⟩
theorem q_and (h : PW X (.BoolOp .And es pos) (tQA X.K P F G W qs)) : PT X (.BoolOp .And es pos) (tQ X.K P F G W (.and qs)) := ⟨fun pins s σ H Q I h2 => h.run _ pins s σ H Q I h2⟩
theorem q_or (h : PW X (.BoolOp .Or es pos) (tQO X.K P F G W qs)) : PT X (.BoolOp .Or es pos) (tQ X.K P F G W (.or qs)) := ⟨fun pins s σ H Q I h2 => h.run _ pins s σ H Q I h2⟩
/-- and, or as values -/
def tEA (K : PySem.W.Frag) (P : Pg) (F : Fo) (G : Ga) (W : WX) (ms : List ME) : TE := fun σ H Q => ∃ B ρ v S, Sim K G B ρ S H ∧ EnvR K G B ρ σ v ∧ Aft K G (fun c d => W c d σ) B ρ (evA P F ms v S) Q
def tEO (K : PySem.W.Frag) (P : Pg) (F : Fo) (G : Ga) (W : WX) (ms : List ME) : TE := fun σ H Q => ∃ B ρ v S, Sim K G B ρ S H ∧ EnvR K G B ρ σ v ∧ Aft K G (fun c d => W c d σ) B ρ (evO P F ms v S) Q
theorem s_and1 (ha : PE X a (tE X.K P F G W ma)) : PE X (.BoolOp .And [a] pos) (tEA X.K P F G W [ma]) := ⟨fun pins s σ H Q I h => BoolOp_one (ha.run pins s σ H Q I h)⟩
theorem s_or1 (ha : PE X a (tE X.K P F G W ma)) : PE X (.BoolOp .Or [a] pos) (tEO X.K P F G W [ma]) := ⟨fun pins s σ H Q I h => BoolOp_one (ha.run pins s σ H Q I h)⟩
theorem s_and2 (ha : PE X a (tE X.K P F G W ma)) (hr : PE X (.BoolOp .And (b :: rest) pos) (tEA X.K P F G W (mb :: ms))) : PE X (.BoolOp .And (a :: b :: rest) pos) (tEA X.K P F G W (ma :: mb :: ms)) :=
  ⟨fun pins s σ H Q I ⟨B, ρ, v, S, sim, er, af⟩ => BoolOp_and (ha.mid (f := fun x S1 => (match tru S1 x with
      | some true => evA P F (mb :: ms) v S1
      | some false => .ok x S1
      | none => .bad)) I sim er af fun u s1 x H1 B1 ρ1 S1 d I1 r1 le1 sim1 er1 rp1 af1 => by
    cases ek : tru S1 d with
    | none => rw [ek] at af1; exact af1.elim
    | some k =>
      rw [ek] at af1
      refine thn (o_tru (Q := fun c H => c = k ∧ H = H1) I1 sim1 r1 rp1 ek ⟨rfl, rfl⟩) fun c s2 ⟨H2, I2, ec, eH⟩ => ?_
      subst ec eH
      cases c with
      | true => exact hr.run pins s2 σ _ Q I2 ⟨B1, ρ1, v, S1, sim1, er1, af1⟩
      | false => exact ⟨x, _, I2, r1, Post.here af1 sim1 rp1⟩)⟩
theorem s_or2 (ha : PE X a (tE X.K P F G W ma)) (hr : PE X (.BoolOp .Or (b :: rest) pos) (tEO X.K P F G W (mb :: ms))) : PE X (.BoolOp .Or (a :: b :: rest) pos) (tEO X.K P F G W (ma :: mb :: ms)) :=
  ⟨fun pins s σ H Q I ⟨B, ρ, v, S, sim, er, af⟩ => BoolOp_or (ha.mid (f := fun x S1 => (match tru S1 x with
      | some true => .ok x S1
      | some false => evO P F (mb :: ms) v S1
      | none => .bad)) I sim er af fun u s1 x H1 B1 ρ1 S1 d I1 r1 le1 sim1 er1 rp1 af1 => by
    cases ek : tru S1 d with
    | none => rw [ek] at af1; exact af1.elim
    | some k =>
      rw [ek] at af1
      refine thn (o_tru (Q := fun c H => c = k ∧ H = H1) I1 sim1 r1 rp1 ek ⟨rfl, rfl⟩) fun c s2 ⟨H2, I2, ec, eH⟩ => ?_
      subst ec eH
      cases c with
      | false => exact hr.run pins s2 σ _ Q I2 ⟨B1, ρ1, v, S1, sim1, er1, af1⟩
      | true => exact ⟨x, _, I2, r1, Post.here af1 sim1 rp1⟩)⟩
theorem s_and (h : PE X (.BoolOp .And es pos) (tEA X.K P F G W ms)) : PE X (.BoolOp .And es pos) (tE X.K P F G W (.and ms)) := ⟨fun pins s σ H Q I h2 => h.run pins s σ H Q I h2⟩
theorem s_or (h : PE X (.BoolOp .Or es pos) (tEO X.K P F G W ms)) : PE X (.BoolOp .Or es pos) (tE X.K P F G W (.or ms)) := ⟨fun pins s σ H Q I h2 => h.run pins s σ H Q I h2⟩

/-! ### argument lists -/
theorem l_nil : PA X [] (tL X.K P F G W []) := ⟨fun p pins s σ H Q I ⟨B, ρ, v, S, sim, er, af⟩ => Calls.spliced_nil ⟨[], H, I, .nil, (show AftL X.K G (fun c d => W c d σ) B ρ (.ok [] S) Q from af) [] H B ρ Le.refl sim .nil⟩⟩
theorem l_cons (ha : PE X a (tE X.K P F G W ma)) (hr : PA X es (tL X.K P F G W ms)) (hs : starEach (a :: es) X.env = (false, eval a X.env) :: starEach es X.env) : PA X (a :: es) (tL X.K P F G W (ma :: ms)) :=
  ⟨fun p pins s σ H Q I ⟨B, ρ, v, S, sim, er, af⟩ => by
    have af : AftL X.K G (fun c d => W c d σ) B ρ (match ev P F ma v S with
      | .ok d S1 => (match evs P F ms v S1 with
        | .ok ds S2 => .ok (d :: ds) S2
        | .ex c fs S2 => .ex c fs S2
        | .bad => .bad)
      | .ex c fs S1 => .ex c fs S1
      | .bad => .bad) Q := af
    rw [hs]
    show wpAny _ _ (spliced ((false, eval a X.env) :: backTo p (starEach es X.env))) _ _ s
    refine Calls.spliced_cons (thn (ha.run pins s σ H (Mid X.K G B ρ fun d S1 B1 ρ1 => AftL X.K G (fun c d => W c d σ) B1 ρ1 (match evs P F ms v S1 with
        | .ok ds S2 => .ok (d :: ds) S2
        | .ex c fs S2 => .ex c fs S2
        | .bad => .bad) Q) I ⟨B, ρ, v, S, sim, er, ?_⟩) fun u s1 ⟨x, H1, I1, r1, B1, ρ1, S1, d, le, s', rp, af1⟩ => ?_)
    · cases e : ev P F ma v S with
      | ok d S1 => rw [e] at af; exact fun u H' B' ρ' le s' rp => ⟨B', ρ', S1, d, le, s', rp, AftL.up af le⟩
      | ex c fs S1 => rw [e] at af; exact af
      | bad => rw [e] at af; exact af
    · dsimp only at af1
      refine thn (hr.run p pins s1 σ H1 (fun vs H2 => ∀ u, Rep X.K G B1 ρ1 u d → Q (u :: vs) H2) I1 ⟨B1, ρ1, v, S1, s', er.up le, ?_⟩) fun us s2 ⟨vs, H2, I2, r2, q2⟩ => ⟨x :: vs, H2, I2, .cons r1 r2, q2 x rp⟩
      cases e : evs P F ms v S1 with
      | ok ds S2 => rw [e] at af1; exact fun us H' B' ρ' le2 sm rps u ru => af1 (u :: us) H' B' ρ' le2 sm (.cons (ru.up le2) rps)
      | ex c fs S2 => rw [e] at af1; exact af1
      | bad => rw [e] at af1; exact af1⟩

/-- an argument list, and what follows with it -/
theorem _root_.L2.PA.mid (ha : PA X es (tL X.K P F G W ms)) {p : Pos} {pins : List (Addr × Obj)} {s : Shared} {σ : L2.St} {H B : Hp} {ρ : List Addr} {v : Env} {S : Sto} {f : List D → Sto → R} {Q : VK} {Z : List Value → Shared → Prop} (I : Inv X pins σ H s) (sim : Sim X.K G B ρ S H) (er : EnvR X.K G B ρ σ v)
    (h : Aft X.K G (fun c d => W c d σ) B ρ (bindL (evs P F ms v S) f) Q)
    (k : ∀ us s1 xs H1 B1 ρ1 S1 ds, Inv X pins σ H1 s1 → Vals xs us → Le B ρ B1 ρ1 → Sim X.K G B1 ρ1 S1 H1 → EnvR X.K G B1 ρ1 σ v → Reps X.K G B1 ρ1 xs ds → Aft X.K G (fun c d => W c d σ) B1 ρ1 (f ds S1) Q → Z us s1) :
    wpAny (model X.prog X.w) X.A (spliced (backTo p (starEach es X.env))) Z X.xe s := by
  refine thn (ha.run p pins s σ H (fun xs H1 => ∃ B1 ρ1 S1 ds, Le B ρ B1 ρ1 ∧ Sim X.K G B1 ρ1 S1 H1 ∧ Reps X.K G B1 ρ1 xs ds ∧ Aft X.K G (fun c d => W c d σ) B1 ρ1 (f ds S1) Q) I ⟨B, ρ, v, S, sim, er, ?_⟩) fun us s1 ⟨xs, H1, I1, r1, B1, ρ1, S1, ds, le, s', rp, af⟩ => k us s1 xs H1 B1 ρ1 S1 ds I1 r1 le s' (er.up le) rp af
  cases e : evs P F ms v S with
  | ok d S1 => rw [e] at h; exact fun us H' B' ρ' le s' rp => ⟨B', ρ', S1, d, le, s', rp, Aft.up h le⟩
  | ex c fs S1 => rw [e] at h; exact h
  | bad => rw [e] at h; exact h

theorem s_tup {k : Nat} (ha : PA X es (tL X.K P F G W ms)) : PE X (.Tuple es k pos) (tE X.K P F G W (.tup ms)) :=
  ⟨fun pins s σ H Q I ⟨B, ρ, v, S, sim, er, af⟩ => wpAny_Tuple_spliced (ha.mid I sim er af fun us s1 xs H1 B1 ρ1 S1 ds I1 r1 le sm er1 rp af1 => by
    have z : ds.length ≤ LIM := by
      by_cases z : ds.length ≤ LIM
      · exact z
      · rw [if_neg z] at af1; exact af1.elim
    rw [if_pos z] at af1
    have z2 : xs.length ≤ sizeLine := by rw [rp.length]; exact LIM_le z
    refine ⟨by rw [← r1.length]; exact z2, ?_⟩
    have hf : H1 s1.heap.objs.size = none := I1.hok.fresh (Nat.le_refl _)
    exact ⟨.ref s1.heap.objs.size, upd H1 s1.heap.objs.size (.tup xs), I1.laid (t' := s1.toks) (fun b u e => Heap.get?_push_of_some _ e) (Nat.le_refl _) ⟨z2, us, r1, ⟨_, Heap.get?_push_size _ rfl, rfl, _, rfl⟩⟩, rfl, Post.tup af1 sm rp _ hf⟩)⟩
/-- a new list: what is known of it before it is let go -/
theorem new_lst (ha : PA X es (tL X.K P F G W ms)) {Z : VK} {pins : List (Addr × Obj)} {s : Shared} {σ : L2.St} {H B : Hp} {ρ : List Addr} {v : Env} {S : Sto} {f : D → Sto → R} {Q : VK} (I : Inv X pins σ H s) (sim : Sim X.K G B ρ S H) (er : EnvR X.K G B ρ σ v)
    (h : Aft X.K G (fun c d => W c d σ) B ρ (bind1 (ev P F (.lst ms) v S) f) Q)
    (k : ∀ xs H1 B1 ρ1 S1 ds p, Le B ρ B1 ρ1 → Sim X.K G B1 ρ1 S1 H1 → Reps X.K G B1 ρ1 xs ds → Aft X.K G (fun c d => W c d σ) B1 ρ1 (f (.lst ds) S1) Q → H1 p = none → Z (.ref p) (upd H1 p (.lst xs))) :
    wpAny (model X.prog X.w) X.A (eval (.List es pos) X.env) (EP X pins σ Z) X.xe s := by
  have h : Aft X.K G (fun c d => W c d σ) B ρ (bindL (evs P F ms v S) fun ds S1 => if ds.length ≤ LIM then f (.lst ds) S1 else .bad) Q := by
    have e2 : bind1 (ev P F (.lst ms) v S) f = bindL (evs P F ms v S) fun ds S1 => if ds.length ≤ LIM then f (.lst ds) S1 else .bad := by
      show bind1 (bindL (evs P F ms v S) fun ds S1 => if ds.length ≤ LIM then .ok (.lst ds) S1 else .bad) f = _
      cases evs P F ms v S with
      | ok ds S1 =>
        simp only [bindL]
        split <;> rfl
      | ex c fs S1 => rfl
      | bad => rfl
    rw [← e2]; exact h
  refine wpAny_List_spliced (ha.mid I sim er h fun us s1 xs H1 B1 ρ1 S1 ds I1 r1 le sm er1 rp af1 => ?_)
  have z : ds.length ≤ LIM := by
    by_cases z : ds.length ≤ LIM
    · exact z
    · rw [if_neg z] at af1; exact af1.elim
  rw [if_pos z] at af1
  have z2 : xs.length ≤ sizeLine := by rw [rp.length]; exact LIM_le z
  refine ⟨by rw [← r1.length]; exact z2, ?_⟩
  have hf : H1 s1.heap.objs.size = none := I1.hok.fresh (Nat.le_refl _)
  exact ⟨.ref s1.heap.objs.size, upd H1 s1.heap.objs.size (.lst xs), I1.laid (t' := s1.toks) (fun b u e => Heap.get?_push_of_some _ e) (Nat.le_refl _) ⟨z2, us, 0, r1, Heap.get?_push_size _ rfl⟩, rfl, k xs H1 B1 ρ1 S1 ds _ le sm rp af1 hf⟩
theorem bind1_ok {r : R} : bind1 r (fun d S => .ok d S) = r := by cases r <;> rfl
theorem s_lst (ha : PA X es (tL X.K P F G W ms)) : PE X (.List es pos) (tE X.K P F G W (.lst ms)) :=
  ⟨fun pins s σ H Q I ⟨B, ρ, v, S, sim, er, af⟩ => new_lst ha I sim er (f := fun d S => .ok d S) (by rw [bind1_ok]; exact af) fun xs H1 B1 ρ1 S1 ds p le sm rp af1 hp => Post.lst af1 sm rp p hp⟩
theorem idx_bind {r : R} {f g : D → Sto → R} (h : ∀ d S, f d S = g d S) : bind1 r f = bind1 r g := by cases r <;> simp [bind1, h]
theorem s_idx {b : Expr} (hw : G.w = X.w) (hu : X.A.units + 100 < cLine) (ha : PE X a (tE X.K P F G W ma)) (hb : PE X b (tE X.K P F G W mb)) (hs : ∀ o i, subscripted b false o i = operate [o, i] (getItem o i)) : PE X (.Subscript a b pos) (tE X.K P F G W (.idx ma mb)) :=
  ⟨fun pins s σ H Q I ⟨B, ρ, v, S, sim, er, af⟩ => Subscript_ (ha.mid I sim er af fun u s1 x H1 B1 ρ1 S1 d I1 r1 le1 sim1 er1 rp1 af1 => hb.mid I1 sim1 er1 af1 fun w s2 y H2 B2 ρ2 S2 e I2 r2 le2 sim2 er2 rp2 af2 => by
    cases hq : idxD S2 d e with
    | none => rw [hq] at af2; exact af2.elim
    | some z => rw [hq] at af2; exact o_idx hw hu I2 sim2 r1 r2 (rp1.up le2) rp2 hq af2 hs)⟩
end
end Mi
end
section
set_option autoImplicit false
set_option linter.all false
set_option maxRecDepth 100000
/-! Mi9: slices, attributes, calls -/
namespace Mi
open PySem PySem.Spec PyProof.Rows L2

/-- what isinstance asks of an object's class -/
structure IsaC (K : PySem.W.Frag) (C : Addr) : Prop where
  ha : PySem.W.findIn K (.ref C) "__class__" = some (some (.builtin "object.__class__"))
  hn : PySem.W.specialIn K (.builtin "object.__class__") "__get__" = some (some (.builtin "getset_descriptor.__get__"))
  ht : PySem.W.takesIn K (.builtin "object.__class__") = some true
  hm : PySem.W.mroIn K C (.type "object") = some true
def tyNames : List String := ["int", "bool", "str", "NoneType", "tuple", "list", "dict"]
theorem tyNames_of {S : Sto} {a : D} {t : String} (e : tyOf S a = some t) : t ∈ tyNames := by
  unfold tyOf at e
  split at e <;> first | (cases e; decide) | skip
  · split at e <;> first | (cases e; decide) | cases e
  · cases e
/-- what the program's top has left -/
structure Wd (P : Pg) (K : PySem.W.Frag) (mg : Str → Option Value) (G : Ga) : Prop where
  inj : ∀ i j, G.nm i = G.nm j → i = j
  exc : ∀ (c : Nat) (k : ClI), P.cls[c]? = some k → k.exf = none ∨ (k.flds = [] ∧ k.mths = [] ∧ k.ini = none)
  fnk : ∀ f, f < P.fns.length → PySem.W.keepIn K (.ref (G.fn f)) = true
  cls : ∀ c k, P.cls[c]? = some k → k.exf = none → Cls K (G.cl c)
  mak : ∀ c k f, P.cls[c]? = some k → k.exf = none → k.ini = some f → Mk K (G.cl c) (G.fn f)
  fld : ∀ c k f, P.cls[c]? = some k → k.exf = none → f ∈ k.flds → NoAttr K (G.cl c) (G.nm f)
  mth : ∀ (c : Nat) (k : ClI) (m f : Nat), P.cls[c]? = some k → k.exf = none → lookN m k.mths = some f → Meth K (G.cl c) (G.nm m) (G.fn f)
  exm : ∀ (c h : Nat) (k k' : ClI), P.cls[c]? = some k → k.rs = true → P.cls[h]? = some k' → k'.leaf = true → PySem.W.exmOne K (.ref (G.cl c)) (.ref (G.cl h)) = some (decide (h = c))
  isa : ∀ (c : Nat) (k : ClI), P.cls[c]? = some k → k.exf = none → IsaC K (G.cl c)
  isk : ∀ (c c' : Nat) (k k' : ClI), P.cls[c]? = some k → k.exf = none → P.cls[c']? = some k' → k'.exf = none → PySem.W.kitOne K (.ref (G.cl c')) (.ref (G.cl c)) = some (decide (c' = c))
  isb : ∀ (c : Nat) (k : ClI) (t : String), P.cls[c]? = some k → k.exf = none → t ∈ tyNames → PySem.W.kitOne K (.type t) (.ref (G.cl c)) = some false
  exi : ∀ (c : Nat) (k : ClI) (ns : List Nat), P.cls[c]? = some k → k.exf = some ns → k.rs = true → ns.Nodup ∧ ExI K mg (G.cl c) (ns.map G.nm)

def spF (P : Pg) (K : PySem.W.Frag) (G : Ga) (n f : Nat) : Sp := fun vs H Q E => ∃ φ B ρ S ds, Sim K (G.put φ) B ρ S H ∧ Reps K G B ρ vs ds ∧ Aft K (G.put φ) E B ρ (run P n f ds S) Q
/-- the def f keeps what n turns of the evaluator say of it -/
def FnM (P : Pg) (prog : Program) (w : World) (K : PySem.W.Frag) (mg : Str → Option Value) (base : Heap) (G : Ga) (n f : Nat) : Prop :=
  ∀ (A : Around) (outer : List PySem.Env) (s : Shared) (H : Hp) (us : List Value) (vs : List V) (Q : VK) (E : XK), A.guards = some [] → Room (4 * n + 1) A → Env0 prog w K mg base A outer s H → Vals vs us → spF P K G n f vs H Q E →
    codeAny (model prog w) A (.call (.ref (G.fn f)) ⟨us, []⟩) (CR (L2.CX prog w) outer prog w H s Q E) s
structure Cn (P : Pg) (G : Ga) (n : Nat) (X : Cx) (W : WX) : Prop where
  wd : Wd P X.K X.mg G
  gw : G.w = X.w
  fns : ∀ f, FnM P X.prog X.w X.K X.mg X.base G n f
  gd : X.A.guards = some []
  rm : Room (4 * n + 2) X.A
  calm : X.calm = true
  nd : X.N.Nodup
  tk : Takes X W

theorem _root_.L2.PE.imp {X : Cx} {e : Expr} {t t' : TE} (h : PE X e t) (k : ∀ σ H Q, t' σ H Q → t σ H Q) : PE X e t' := ⟨fun pins s σ H Q I q => h.run pins s σ H Q I (k σ H Q q)⟩

section
variable {P : Pg} {G : Ga} {n : Nat} {X : Cx} {W : WX}
theorem Cn.hu (C : Cn P G n X W) : X.A.units + 100 < cLine := by have := C.rm.un; omega
/-- the callee runs -/
theorem run_m (C : Cn P G n X W) {f : Nat} {pins : List (Addr × Obj)} {s : Shared} {σ : L2.St} {H : Hp} {Q : VK} {us : List Value} {vs : List V} {B : Hp} {ρ : List Addr} {S : Sto} {ds : List D}
    (I : Inv X pins σ H s) (r : Vals vs us) (sim : Sim X.K G B ρ S H) (rp : Reps X.K G B ρ vs ds) (h : Aft X.K G (fun c d => W c d σ) B ρ (run P n f ds S) Q) :
    wpAny (model X.prog X.w) X.A (call (.ref (G.fn f)) us) (EP X pins σ Q) X.xe s := by
  refine wpAny_call (codeAny_mono (C.fns f X.A X.stack s H us vs Q (fun c d H' => W c d σ H') C.gd (C.rm.mono (by omega)) I.env0 r ⟨G.fr, B, ρ, S, ds, sim, rp, h⟩) fun q s' hq => ?_)
  cases q with
  | error e => exact C.tk _ _ (XE.of_call I (fun cls d H' h => h) hq)
  | ok fl =>
    cases fl with
    | ret u => exact I.after hq
    | next => exact False.elim hq
    | brk => exact False.elim hq
    | cont => exact False.elim hq
theorem guards_make {A : Around} {C : Addr} {us : List Value} (h : A.guards = some []) : (A.under (.builtin "type.__call__" ⟨.ref C :: us, []⟩)).guards = some [] := by
  show pushGuards (Code.guards (.builtin "type.__call__" ⟨.ref C :: us, []⟩)) A.guards = some []
  rw [h]
  have e : Code.guards (.builtin "type.__call__" ⟨.ref C :: us, []⟩) = [] := by simp [Code.guards, Code.isGuard, guardIds]
  rw [e]; rfl
/-- C(..): a new instance, then its __init__ -/
theorem run_mk (C : Cn P G n X W) {c f : Nat} {k : ClI} (hk : P.cls[c]? = some k) (hx : k.exf = none) (hi : k.ini = some f) {pins : List (Addr × Obj)} {s : Shared} {σ : L2.St} {H : Hp} {Q : VK} {us : List Value} {vs : List V} {B : Hp} {ρ : List Addr} {S : Sto} {ds : List D}
    (I : Inv X pins σ H s) (r : Vals vs us) (sim : Sim X.K G B ρ S H) (rp : Reps X.K G B ρ vs ds)
    (h : ∀ x, Aft X.K G (fun c d => W c d σ) B (ρ ++ [x]) (run P n f (.loc S.length :: ds) (S ++ [.ins c []])) (fun v H2 => v = .non ∧ Q (.ref x) H2)) :
    wpAny (model X.prog X.w) X.A (call (.ref (G.cl c)) us) (EP X pins σ Q) X.xe s := by
  have M := C.wd.mak c k f hk hx hi
  have n1 : H (s.heap.objs.size + 1) = none := I.hok.fresh (Nat.le_succ _)
  have n2 : H s.heap.objs.size = none := I.hok.fresh (Nat.le_refl _)
  have I2 := Inv.made (C := G.cl c) I
  have ne : s.heap.objs.size + 1 ≠ s.heap.objs.size := Nat.ne_of_gt (Nat.lt_succ_self _)
  have sim1 : Sim X.K G B ρ S (upd H s.heap.objs.size (.own (s.heap.objs.size + 1))) := sim.more fun a o e => by rw [upd_ne (ne_of_none e n2)]; exact e
  obtain ⟨sim2, le2⟩ := sim1.alloc (p := s.heap.objs.size + 1) (o := .ins (G.cl c) s.heap.objs.size []) (m := .ins c []) (by rw [upd_ne ne]; exact n1) fun B' ρ' _ => ⟨_, _, upd_same, .nil⟩
  have rx : Rep X.K G B (ρ ++ [s.heap.objs.size + 1]) (.ref (s.heap.objs.size + 1)) (.loc S.length) := .loc (by rw [← sim.len]; simp)
  refine wpAny_call (make_map (f := G.fn f) I.kIn M.makes M.init (beq_iff_eq.mp M.fn) (codeAny_mono (C.fns f _ X.stack _ _ (Value.ref (s.heap.objs.size + 1) :: us) (V.ref (s.heap.objs.size + 1) :: vs) _ (fun c d H' => W c d σ H') (guards_make C.gd) (C.rm.make (G.cl c) us [])
    (I2.env0.make (G.cl c) us []) (.cons rfl r) ⟨G.fr, B, _, _, _, sim2, .cons rx (rp.up le2), h _⟩) fun q s' hq => ?_))
  cases q with
  | error e => exact C.tk _ _ (XE.of_call I2 (fun cls d H' h => h) hq)
  | ok fl =>
    cases fl with
    | ret u =>
      obtain ⟨v, H', I3, rv, ev, q3⟩ := I2.after hq
      subst ev
      exact ⟨rv, ⟨V.ref (s.heap.objs.size + 1), H', I3, rfl, q3⟩⟩
    | next => exact False.elim hq
    | brk => exact False.elim hq
    | cont => exact False.elim hq

variable {F : Fo} {a b c : Expr} {es rest : List Expr} {ma mb mc : ME} {ms : List ME} {pos : Pos}
/-! ### slices -/
def tP (K : PySem.W.Frag) (P : Pg) (F : Fo) (G : Ga) (W : WX) (m : Option ME) : TO := fun σ H Q => ∃ B ρ v S, Sim K G B ρ S H ∧ EnvR K G B ρ σ v ∧ ∃ o S1, evP P F m v S = some (o, S1) ∧ ∀ H' B' ρ', Le B ρ B' ρ' → Sim K G B' ρ' S1 H' → Q o H'
theorem p_none : PO X none (tP X.K P F G W none) := by
  refine ⟨fun pins s σ H Q I ⟨B, ρ, v, S, sim, er, o, S1, e, k⟩ => ?_⟩
  cases e
  exact po_none.run pins s σ H Q I (k H B ρ Le.refl sim)
theorem p_some (ha : PE X a (tE X.K P F G W ma)) : PO X (some a) (tP X.K P F G W (some ma)) := by
  refine ⟨fun pins s σ H Q I ⟨B, ρ, v, S, sim, er, o, S1, e, k⟩ => (po_some ha).run pins s σ H Q I ⟨B, ρ, v, S, sim, er, ?_⟩⟩
  have e : (match ev P F ma v S with
    | .ok (.int i) S1 => some (some i, S1)
    | _ => none) = some (o, S1) := e
  split at e
  · rename_i i S2 e2
    cases e
    rw [e2]
    exact fun u H' B' ρ' le s' rp => ⟨_, rp.int_inv, k H' B' ρ' le s'⟩
  · cases e
theorem s_slc {lo hi : Option Expr} {mlo mhi : Option ME} {p2 : Pos} (ha : PE X a (tE X.K P F G W ma)) (hl : PO X lo (tP X.K P F G W mlo)) (hh : PO X hi (tP X.K P F G W mhi)) : PE X (.Subscript a (.Slice lo hi none p2) pos) (tE X.K P F G W (.slc ma mlo mhi)) :=
  (pe_slice sl_all ha hl hh).imp fun σ H Q ⟨B, ρ, v, S, sim, er, af⟩ => by
    have af : Aft X.K G (fun c d => W c d σ) B ρ (bind1 (ev P F ma v S) fun x S1 => (match evP P F mlo v S1 with
      | some (l, S2) => (match evP P F mhi v S2 with
        | some (h, S3) => ofO (slcD S3 x l h) S3
        | none => .bad)
      | none => .bad)) Q := af
    refine ⟨B, ρ, v, S, sim, er, ?_⟩
    cases e1 : ev P F ma v S with
    | ok d S1 =>
      rw [e1] at af
      simp only [bind1] at af
      refine fun u H1 B1 ρ1 le1 s1 rp => ?_
      cases e2 : evP P F mlo v S1 with
      | none => rw [e2] at af; exact af.elim
      | some p =>
        obtain ⟨l, S2⟩ := p
        rw [e2] at af
        simp only at af
        refine ⟨B1, ρ1, v, S1, s1, er.up le1, l, S2, e2, fun H2 B2 ρ2 le2 s2 => ?_⟩
        cases e3 : evP P F mhi v S2 with
        | none => rw [e3] at af; exact af.elim
        | some p =>
          obtain ⟨h, S3⟩ := p
          rw [e3] at af
          simp only at af
          refine ⟨B2, ρ2, v, S2, s2, (er.up le1).up le2, h, S3, e3, fun H3 B3 ρ3 le3 s3 => ?_⟩
          cases e4 : slcD S3 d l h with
          | none => rw [e4] at af; exact af.elim
          | some z =>
            rw [e4] at af
            exact o_slc s3 ((rp.up le2).up le3) e4 (Post.up af ((le1.trans le2).trans le3))
    | ex c fs S1 => rw [e1] at af; exact af
    | bad => rw [e1] at af; exact af

/-! ### attributes -/
theorem s_att {f : Nat} (wd : Wd P X.K X.mg G) (ha : PE X a (tE X.K P F G W ma)) (hb : attributeBase a (G.nm f) X.env (eval a X.env) = eval a X.env) : PE X (.Attribute a (G.nm f) pos) (tE X.K P F G W (.att ma f)) :=
  (pe_fld ha hb).imp fun σ H Q ⟨B, ρ, v, S, sim, er, af⟩ => by
    have af : Aft X.K G (fun c d => W c d σ) B ρ (bind1 (ev P F ma v S) fun x S1 => if fldOk P S1 x f then ofO (attD S1 x f) S1 else .bad) Q := af
    refine ⟨B, ρ, v, S, sim, er, ?_⟩
    cases e1 : ev P F ma v S with
    | ok d S1 =>
      rw [e1] at af
      simp only [bind1] at af
      refine fun u H1 B1 ρ1 le1 s1 rp => ?_
      by_cases hf : fldOk P S1 d f = true
      · rw [if_pos hf] at af
        cases e4 : attD S1 d f with
        | none => rw [e4] at af; exact af.elim
        | some z =>
          rw [e4] at af
          obtain ⟨p, c, dx, fv, w, rfl, hp, hc, hl, rz⟩ := att_of wd.inj s1 rp e4
          unfold fldOk at hf
          rw [hc] at hf
          simp only [Option.bind_some] at hf
          cases hk : P.cls[c]? with
          | none => rw [hk] at hf; cases hf
          | some k =>
            rw [hk] at hf
            have hm : f ∈ k.flds := by simpa using hf
            have h0 : k.exf = none := by
              rcases wd.exc c k hk with h | ⟨h, _⟩
              · exact h
              · rw [h] at hm; cases hm
            exact ⟨p, _, dx, fv, w, rfl, hp, wd.cls c k hk h0, wd.fld c k f hk h0 hm, hl, Post.here (Post.up af le1) s1 rz⟩
      · rw [if_neg hf] at af; exact af.elim
    | ex c fs S1 => rw [e1] at af; exact af
    | bad => rw [e1] at af; exact af

/-! ### calls -/
theorem s_call0 (C : Cn P G n X W) {f : Nat} {x : Str} {p : Pos} (hg : Gl X x) (hm : X.mg x = some (.ref (G.fn f))) (hk : PySem.W.keepIn X.K (.ref (G.fn f)) = true) (hdb : (x == ("__debug__" : Str)) = false) : PE X (.Call (.Name x p) [] [] pos) (tE X.K P (run P n) G W (.call f [])) := by
  refine ⟨fun pins s σ H Q I ⟨B, ρ, v, S, sim, er, af⟩ => ?_⟩
  refine wpAny_Call_Name_kw (ld_glob I hg hm ?_ hdb)
  exact PySem.W.callWith_K0 I.kIn hk (run_m C I .nil sim .nil (show Aft X.K G (fun c d => W c d σ) B ρ (run P n f [] S) Q from af))
theorem s_call (C : Cn P G n X W) {f : Nat} {x : Str} {p : Pos} (hg : Gl X x) (hm : X.mg x = some (.ref (G.fn f))) (hk : PySem.W.keepIn X.K (.ref (G.fn f)) = true) (hdb : (x == ("__debug__" : Str)) = false) (ha : PA X (a :: es) (tL X.K P (run P n) G W ms))
    (he : starEach (a :: es) X.env = (false, eval a X.env) :: starEach es X.env) (hpl : (backTo pos (starEach es X.env)).any (·.1) = false) : PE X (.Call (.Name x p) (a :: es) [] pos) (tE X.K P (run P n) G W (.call f ms)) := by
  refine ⟨fun pins s σ H Q I ⟨B, ρ, v, S, sim, er, af⟩ => ?_⟩
  refine wpAny_Call_Name_kw (ld_glob I hg hm ?_ hdb)
  exact PySem.W.callWith_K (h₀ := X.base) I.ok.mod.kin hk (ha.mid (f := fun ds S1 => run P n f ds S1) I sim er af fun us s1 xs H1 B1 ρ1 S1 ds I1 r1 le sm er1 rp af1 => ⟨I1.kIn, run_m C I1 r1 sm rp af1⟩) he hpl
/-- what follows a new instance's __init__ -/
theorem mk_after {c : Nat} {fz : Bool} {r : R} {S1 : Sto} {B : Hp} {ρ : List Addr} {x : Addr} {E : XK} {Q : VK} (hl : ρ.length = S1.length)
    (h : Aft X.K G E B ρ (match r with
      | .ok .non S2 => if fz then (match S2[S1.length]? with
          | some (.ins c' fs) => if decide (c' = c) && decide (S2.length = S1.length + 1) && lfF S1.length fs && (S2.take S1.length).all (lfM S1.length) then .ok (.ins c fs) (S2.take S1.length) else .bad
          | _ => .bad) else .ok (.loc S1.length) S2
      | .ok _ _ => .bad
      | .ex e fs S2 => .ex e fs S2
      | .bad => .bad) Q) : Aft X.K G E B (ρ ++ [x]) r (fun v H2 => v = .non ∧ Q (.ref x) H2) := by
  have le0 : Le B ρ B (ρ ++ [x]) := ⟨fun _ _ e => e, List.prefix_append _ _⟩
  cases r with
  | ok d S2 =>
    cases d with
    | non =>
      refine fun u H' B' ρ' le s' rp => ⟨rp.non_inv, ?_⟩
      have hx : ρ'[S1.length]? = some x := le.at (by rw [← hl]; simp)
      cases fz with
      | false => exact h (.ref x) H' B' ρ' (le0.trans le) s' (.loc hx)
      | true =>
        simp only [if_true] at h
        split at h
        · rename_i c' fs e2
          split at h
          · rename_i hc
            simp only [Bool.and_eq_true, decide_eq_true_eq] at hc
            obtain ⟨⟨⟨rfl, h2⟩, h3⟩, h4⟩ := hc
            obtain ⟨a, ea, dx, fv, hi, rf⟩ := s'.obj _ _ e2
            rw [hx] at ea; cases ea
            have hlen := s'.len
            have mem : x ∈ ρ' := List.mem_of_getElem? hx
            -- the new ground: the instance is let go
            have hbx := s'.off x mem
            have take_le : ρ'.take S1.length = ρ := by
              obtain ⟨t, ht⟩ := (le0.trans le).pre
              rw [← ht, ← hl]; simp
            have rest : ρ' = ρ ++ [x] := by
              obtain ⟨t, ht⟩ := le.pre
              have : t = [] := by
                have h5 := congrArg List.length ht
                simp at h5
                have : t.length = 0 := by omega
                exact List.eq_nil_of_length_eq_zero this
              rw [← ht, this]; simp
            have nx : x ∉ ρ := fun z => by
              have := s'.nd
              rw [rest, List.nodup_append] at this
              exact this.2.2 x z x (by simp) rfl
            have s2 : Sim X.K G (upd B' x (.ins (G.cl c') dx fv)) ρ (S2.take S1.length) H' := by
              refine ⟨fun a o e => ?_, by rw [List.length_take]; omega, ?_, fun a ha => ?_, fun l m e => ?_, fun b u z => ?_, s'.tab, ⟨s'.ntb.1.upd (fun _ z => by cases z), s'.ntb.2⟩⟩
              · by_cases hax : a = x
                · subst hax; rw [upd_same] at e; cases e; exact hi
                · rw [upd_ne hax] at e; exact s'.sub a o e
              · have := s'.nd
                rw [rest, List.nodup_append] at this
                exact this.1
              · rw [upd_ne (show a ≠ x from fun z => nx (by rw [← z]; exact ha))]
                exact s'.off a (by rw [rest]; exact List.mem_append_left _ ha)
              · have hlt : l < S1.length := by
                  have := (List.getElem?_eq_some_iff.mp e).1
                  rw [List.length_take] at this; omega
                rw [List.getElem?_take, if_pos hlt] at e
                obtain ⟨a, ea, hm⟩ := s'.obj l m e
                have hcl : lfM S1.length m = true := by
                  have := List.all_eq_true.mp h4 m (by
                    refine List.mem_of_getElem? (i := l) ?_
                    rw [List.getElem?_take, if_pos hlt]; exact e)
                  exact this
                have hm2 := hm.cut hcl
                rw [take_le] at hm2
                refine ⟨a, ?_, hm2.up ⟨fun b o z => ?_, List.prefix_refl _⟩ rfl⟩
                · rw [← take_le, List.getElem?_take, if_pos hlt]; exact ea
                · rw [upd_ne (ne_of_none z hbx)]; exact z
              · obtain ⟨f1, f2, f3⟩ := s'.frm b u z
                have nb : b ≠ x := fun q => by
                  obtain ⟨o', u', e'⟩ := f3.mp (by rw [q]; exact mem)
                  subst q; rw [hi, e'] at f1; cases f1
                exact ⟨f1, by rw [upd_ne nb]; exact f2, fun q => f3.mp (by rw [rest]; exact List.mem_append_left _ q), fun q => by
                  have := f3.mpr q
                  rw [rest] at this
                  rcases List.mem_append.mp this with z | z
                  · exact z
                  · simp at z; exact (nb z).elim⟩
            have rf2 := rf.cut h3
            rw [take_le] at rf2
            have le2 : Le B' ρ (upd B' x (.ins (G.cl c') dx fv)) ρ := ⟨fun b o z => by rw [upd_ne (ne_of_none z hbx)]; exact z, List.prefix_refl _⟩
            refine h (.ref x) H' _ ρ ⟨fun a o e => ?_, List.prefix_refl _⟩ s2 (.ins upd_same (rf2.up le2))
            have := le.sub a o e
            rw [upd_ne (ne_of_none this hbx)]; exact this
          · exact h.elim
        · exact h.elim
    | _ => exact h.elim
  | ex e fs S2 => exact ExC.up h le0
  | bad => exact h
theorem s_mk (C : Cn P G n X W) {fz : Bool} {c f : Nat} {k : ClI} {x : Str} {p : Pos} (hg : Gl X x) (hm : X.mg x = some (.ref (G.cl c))) (hc : P.cls[c]? = some k) (hx : k.exf = none) (hi : k.ini = some f) (hdb : (x == ("__debug__" : Str)) = false) (ha : PA X (a :: es) (tL X.K P (run P n) G W ms))
    (he : starEach (a :: es) X.env = (false, eval a X.env) :: starEach es X.env) (hpl : (backTo pos (starEach es X.env)).any (·.1) = false) : PE X (.Call (.Name x p) (a :: es) [] pos) (tE X.K P (run P n) G W (.mk fz c ms)) := by
  refine ⟨fun pins s σ H Q I ⟨B, ρ, v, S, sim, er, af⟩ => ?_⟩
  refine wpAny_Call_Name_kw (ld_glob I hg hm ?_ hdb)
  refine PySem.W.callWith_K (h₀ := X.base) I.ok.mod.kin (C.wd.mak c k f hc hx hi).kp (ha.mid I sim er af fun us s1 xs H1 B1 ρ1 S1 ds I1 r1 le sm er1 rp af1 => ⟨I1.kIn, ?_⟩) he hpl
  rw [hc] at af1
  simp only [Option.bind_some, hi] at af1
  exact run_mk C hc hx hi I1 r1 sm rp fun x => mk_after sm.len af1
/-- o.m(..) of an own class -/
theorem meth_ok (C : Cn P G n X W) {m : Nat} {pl : Sem Bool} {pins : List (Addr × Obj)} {s : Shared} {σ : L2.St} {H : Hp} {B : Hp} {ρ : List Addr} {S : Sto} {x : V} {u : Value} {d : D} {f : Nat} {Z : Value × List Value → Shared → Prop}
    (I : Inv X pins σ H s) (rx : RelV x u) (sim : Sim X.K G B ρ S H) (rp : Rep X.K G B ρ x d) (e : mthOf P S d m = some f) (h : PySem.W.keepIn X.K (.ref (G.fn f)) = true → Z (.ref (G.fn f), [u]) s) : wpAny (model X.prog X.w) X.A (getMethod u (G.nm m) pl) Z X.xe s := by
  unfold mthOf at e
  split at e
  · cases e
  rename_i ha
  obtain ⟨c, h1, h2⟩ := Option.bind_eq_some_iff.mp e
  obtain ⟨k, h3, h4⟩ := Option.bind_eq_some_iff.mp h2
  obtain ⟨p, dx, fv, fs, rfl, hp, rf, alt⟩ := cls_of sim rp h1
  have h0 : k.exf = none := by
    rcases C.wd.exc c k h3 with z | ⟨_, z, _⟩
    · exact z
    · rw [z] at h4; cases h4
  have M := C.wd.mth c k m f h3 h0 h4
  have wf : lookF m fs = none := by
    rcases alt with ⟨l, rfl, hl⟩ | rfl
    · simp only [attD, hl] at ha; exact ha
    · exact ha
  cases rx
  exact getmeth_ok I hp (C.wd.cls c k h3 h0) M ((lookF_rep C.wd.inj rf).1 wf) (h M.kp)
end
end Mi
end
section
set_option autoImplicit false
set_option linter.all false
set_option maxRecDepth 100000
/-! MiN2: dicts whose keys are tuples: list(d), for k in d -/
namespace Mi
open PySem PySem.Spec PyProof.Rows L2

theorem entR_adr : ∀ {ks : List Ent} {xs : List (NestedKey × Addr × Value)}, Paired EntR ks xs → ks.map (fun x => x.2.1) = xs.map (fun x => x.2.1)
  | _, _, .nil => rfl
  | _, _, .cons h t => by rw [List.map_cons, List.map_cons, h.2.1, entR_adr t]
theorem entN_of {P : Program} {w : World} {es : Array DictEntry} {xs : List (NestedKey × Addr × Value)} (he : es.toList = xs.map (entN w)) : es.toList = xs.map (entryOfKey (nestedKind P w)) := he
section
variable {X : Cx}
def rListN (w : World) : List V → Hp → VK → Prop := fun xs H Q => ∃ d ks, xs = [V.ref d] ∧ DnH w H d ks ∧ ∀ p, H p = none → Q (.ref p) (upd H p (.lst (ks.map fun x => V.ref x.2.1)))
theorem call_listN (hc : X.calm = true) : CallR X (.type "list") (rListN X.w) := by
  intro pins s σ H xs us Q I r h
  obtain ⟨d, kvs, rfl, hd, q⟩ := h
  obtain ⟨u, rfl, rx⟩ := r.one
  cases rx
  obtain ⟨hs, z, ks, pr, o, es, ep, ho, hx, hdt, he, hn⟩ := hd.is I.hok
  have he := entN_of (P := X.prog) he
  have l1 : es.size = ks.length := size_of_entries he
  have l2 : kvs.length = ks.length := Paired.length pr
  refine PySem.W.kdl_call (kdl_raw hs hx hdt) (I.ok.hd hc) ho (by omega) fun h' tk acc' c' kp e it => ?_
  have ea : acc'.toList = ks.map fun x => Value.ref x.2.1 := by
    have hl : acc'.toList.length = ks.length := by rw [Array.length_toList, it.1]; exact l1
    apply List.ext_getElem?
    intro j
    rw [List.getElem?_map]
    cases hj : acc'.toList[j]? with
    | none =>
      have h1 := List.getElem?_eq_none_iff.mp hj
      rw [List.getElem?_eq_none (by omega)]
      all_goals rfl
    | some v =>
      obtain ⟨en, hen, hv⟩ := it.2 j v (by rw [← Array.getElem?_toList]; exact hj)
      have qe := entry_at he j
      rw [hen] at qe
      cases hb : ks[j]? with
      | none =>
        rw [hb] at qe
        exact nomatch (show some en = none from qe)
      | some b =>
        rw [hb] at qe
        have e2 : en = entryOfKey (nestedKind X.prog X.w) b := Option.some.inj qe
        rw [hv, e2]
        all_goals rfl
  have eb : acc'.toList = (kvs.map fun x => x.2.1).map Value.ref := by rw [ea, entR_adr pr, List.map_map]; all_goals rfl
  have rv : Vals ((kvs.map fun x => x.2.1).map V.ref) acc'.toList := by rw [eb]; exact vals_refs _
  rw [List.map_map] at rv
  have hz : (kvs.map fun x => V.ref x.2.1).length ≤ sizeLine := by rw [List.length_map]; omega
  refine ⟨.ref s.heap.objs.size, _, I.laid (t' := tk) (o := .lst (kvs.map fun x => V.ref x.2.1)) kp (Nat.le_refl _) ?_, rfl, q _ (I.hok.fresh (Nat.le_refl _))⟩
  exact ⟨hz, acc'.toList, c', rv, by rw [Array.toArray_toList]; exact e⟩
end
/-! ### for k in d -/
section
variable {X : Cx} {pins : List (Addr × Obj)} {σ : L2.St} {H : Hp} {s : Shared} {d : Addr} {o : Obj} {ks : List Ent}
theorem frzN (I : Inv X pins σ H s) (h : H d = some (.frz o (DnO X.w d ks))) :
    (d == sysModules) = false ∧ s.heap.get? d = some o ∧ o.ExactDict ∧ ∃ (es : Array DictEntry) (ep : Nat), o.data = .dict es ep ∧ es.size = ks.length ∧
      ∀ (i : Nat) (e : Ent), ks[i]? = some e → ∃ en : DictEntry, es[i]? = some en ∧ en.key = .ref e.2.1 := by
  obtain ⟨hd, dn⟩ := I.hok d _ h
  obtain ⟨hs, z, xs, pr, o', es, ep, ho, hx, hdt, he, _⟩ := dn.1
  rw [hd] at ho
  cases ho
  have he := entN_of (P := X.prog) he
  refine ⟨hs, hd, hx, es, ep, hdt, ?_, fun i e he' => ?_⟩
  · have l1 : es.size = xs.length := size_of_entries he
    have l2 : ks.length = xs.length := Paired.length pr
    omega
  · obtain ⟨b, hb, e1, e2, _⟩ := paired_get pr he'
    have q := entry_at he i
    rw [hb] at q
    exact ⟨_, q, by rw [e2]; rfl⟩
end
def Itn (w : World) (d : Addr) (o : Obj) (ks : List Ent) : It :=
  ⟨fun i H => H d = some (.frz o (DnO w d ks)) ∧ i < ks.length, fun i H x H' => H' = H ∧ ∃ e : Ent, ks[i]? = some e ∧ x = .ref e.2.1, fun i H => H d = some (.frz o (DnO w d ks)) ∧ ks.length ≤ i⟩
theorem turn_keysN {P : Program} {w : World} {K : PySem.W.Frag} {tg : Expr} {d : Addr} {o : Obj} {es : Array DictEntry} {ep : Nat} {ks : List Ent} (it : Addr) (hod : o.data = .dict es ep) : Turn P w K tg (Itn w d o ks) [it] it (fun i h => h.IsKeyIter it d i ks.length ep) where
  mem := by simp
  obj := fun i h st b hb => by
    have e : b = it := by simpa using hb
    subst e
    obtain ⟨oi, e, c, dd⟩ := st
    exact ⟨oi, e, fun v z => by rw [dd] at z; cases z⟩
  keep := fun i h h' st k => st.at fun oi e => k it (by simp) oi e
  item := by
    intro X hP hw hK hc i pins s σ H E I hf st hg
    subst hP hw hK
    obtain ⟨hd, hi⟩ := hg
    obtain ⟨f0, f1, f2, f3, f4, f5⟩ := hf it (by simp)
    obtain ⟨hs, hgd, hx, es', ep', hdt, hsz, ent⟩ := frzN I hd
    obtain ⟨rfl, rfl⟩ := dict_ep hod hdt
    obtain ⟨e, hkv⟩ : ∃ p, ks[i]? = some p := ⟨ks[i], List.getElem?_eq_getElem hi⟩
    obtain ⟨en, hen, hkey⟩ := ent i e hkv
    refine next_key_item st hgd hdt hsz hen fun h' st' sb => ?_
    have I1 : Inv X pins σ H { s with heap := h' } := I.turned (t' := s.toks) (fun b ob hb e => (sb.2 b hb).trans e) f0 f1 f3 f4 f5
    obtain ⟨oi, e', c, dd⟩ := id st'
    exact ⟨en.key, rfl, go_of (s := { s with heap := h' }) e' c dd (by decide) ⟨.ref e.2.1, H, I1, hkey, ⟨rfl, e, hkv, rfl⟩, st', fun b hb => (hf b hb).1⟩⟩
  done := by
    intro X hP hw hK hc i pins s σ H E I hf st hg
    subst hP hw hK
    obtain ⟨hd, hi⟩ := hg
    obtain ⟨f0, f1, f2, f3, f4, f5⟩ := hf it (by simp)
    obtain ⟨hs, hgd, hx, es', ep', hdt, hsz, ent⟩ := frzN I hd
    obtain ⟨rfl, rfl⟩ := dict_ep hod hdt
    exact next_key_end (I.ok.hd hc) st hgd hdt hsz hi fun h' eb => ⟨rfl, I.turned (t' := s.toks) (fun b ob hb e => eb b ob hb e) f0 f1 f3 f4 f5⟩
  self := fun A i s Q E st h => by
    refine wpAny_pyIter_slot st.typeIs F.slot_dict_keyiterator_iter (wpAny_call_entry F.slot_dict_keyiterator_iter st.typeIs F.entry_dict_keyiterator_iter ?_ (F.args_dict_keyiterator_iter_1 _))
    show wpAny _ _ (ret (.ref it)) _ _ s
    exact wpAny_pure ⟨_, rfl, "dict_keyiterator", _, st.typeIs, F.slot_dict_keyiterator_next.lookup, h⟩
def iKeysN (w : World) (td : TE) : TI := fun σ H R => td σ H fun x H1 => ∃ d o ks, x = .ref d ∧ H1 d = some (.frz o (DnO w d ks)) ∧ R (Itn w d o ks) H1
theorem pi_keysN {X : Cx} {tg e : Expr} {td : TE} (he : PE X e td) : PI X tg e (iKeysN X.w td) := by
  refine ⟨fun pins s σ H R I h => ?_⟩
  refine thn (he.run pins s σ H _ I h) fun u s1 ⟨x, H1, I1, rx, d, o, ks, ex, hd, q⟩ => ?_
  subst ex
  obtain rfl : u = Value.ref d := rx
  obtain ⟨hs, hgd, hx, es, ep, hdt, hsz, ent⟩ := frzN I1 hd
  refine iter_keys hs hgd hx hdt (pi_one (tk := s1.toks) I1 _ (turn_keysN _ hdt) ⟨_, Heap.get?_push_size _ rfl, rfl, ?_⟩ q)
  rw [hsz] <;> rfl
end Mi
end
section
set_option autoImplicit false
set_option linter.all false
set_option maxRecDepth 100000
/-! MiN3: sorted of data -/
namespace Mi
open PySem PySem.Spec PyProof.Rows L2
section
variable {X : Cx} {pins : List (Addr × Obj)} {σ : L2.St} {H : Hp} {s : Shared} {G : Ga} {B : Hp} {ρ : List Addr} {S : Sto}
theorem zipN_fst {α β : Type} : ∀ (l : List α) (m : List β), l.length = m.length → (l.zip m).map (·.1) = l
  | [], [], _ => rfl
  | a :: l, b :: m, h => by simp only [List.zip_cons_cons, List.map_cons, zipN_fst l m (by simpa using h)]
theorem zipN_snd {α β : Type} : ∀ (l : List α) (m : List β), l.length = m.length → (l.zip m).map (·.2) = m
  | [], [], _ => rfl
  | a :: l, b :: m, h => by simp only [List.zip_cons_cons, List.map_cons, zipN_snd l m (by simpa using h)]
theorem each_zip : ∀ {vs : List V} {its : List Value} {ds : List D}, Vals vs its → vs.length = ds.length → PySem.W.EachIs (fun (u : Value) (b : V × D) => RelV b.1 u) its (vs.zip ds)
  | _, _, [], .nil, _ => .nil
  | _, _, d :: ds, .cons r t, h => .cons r (each_zip t (by simpa using h))
theorem each_reads (I : Inv X pins σ H s) (sub : ∀ a o, B a = some o → H a = some o) (sm : H sysModules = none) : ∀ {vs : List V} {its : List Value} {ds : List D}, Vals vs its → Reps X.K G B ρ vs ds → (∀ d ∈ ds, (toD d).isSome = true) →
    PySem.W.EachIs (fun (u : Value) (b : V × D) => ∃ as, Reads s.heap u (pD b.2) as) its (vs.zip ds)
  | _, _, _, .nil, .nil, _ => .nil
  | _, _, _, .cons r t, .cons h rr, hs => by
    refine .cons ?_ (each_reads I sub sm t rr fun d hd => hs d (.tail _ hd))
    rename_i v vs u us d ds
    have h1 := hs d (.head _)
    cases e : toD d with
    | none => rw [e] at h1; cases h1
    | some p =>
      obtain ⟨as, q, _⟩ := rep_reads I sub sm h e r
      refine ⟨as, ?_⟩
      show Reads s.heap _ (pD d) as
      unfold pD
      rw [e]; exact q
theorem reps_zip {K : PySem.W.Frag} : ∀ {vs : List V} {ds : List D}, Reps K G B ρ vs ds → ∀ b ∈ vs.zip ds, Rep K G B ρ b.1 b.2
  | _, _, .nil => fun b hb => nomatch hb
  | _, _, .cons h r => fun b hb => by
    rcases List.mem_cons.mp hb with e | hb
    · subst e; exact h
    · exact reps_zip r b hb
theorem reps_of {K : PySem.W.Frag} : ∀ {bs : List (V × D)}, (∀ b ∈ bs, Rep K G B ρ b.1 b.2) → Reps K G B ρ (bs.map (·.1)) (bs.map (·.2))
  | [], _ => .nil
  | b :: bs, h => .cons (h b (.head _)) (reps_of fun x hx => h x (.tail _ hx))
theorem each_vals : ∀ {out : List Value} {bs : List (V × D)}, PySem.W.EachIs (fun (u : Value) (b : V × D) => RelV b.1 u) out bs → Vals (bs.map (·.1)) out
  | _, _, .nil => .nil
  | _, _, .cons h t => .cons h (each_vals t)
def rSortedD (K : PySem.W.Frag) (G : Ga) (B : Hp) (ρ : List Addr) : List V → Hp → VK → Prop := fun xs H Q => ∃ (a : Addr) (vs : List V) (ds : List D), xs = [V.ref a] ∧ H a = some (.lst vs) ∧ Reps K G B ρ vs ds ∧ sortOk ds = true ∧
  (∀ b o, B b = some o → H b = some o) ∧ H sysModules = none ∧ ∀ vs' p, Reps K G B ρ vs' (ds.mergeSort leD) → H p = none → Q (.ref p) (upd H p (.lst vs'))
theorem call_sortedD (hu : X.A.units + 100 < cLine) : CallR X (.builtin "sorted") (rSortedD X.K G B ρ) := by
  intro pins s σ H xs us Q I r h
  obtain ⟨a, vs, ds, rfl, hl, rr, ok, sub, sm, q⟩ := h
  obtain ⟨its, rv, pl, hz⟩ := I.list (SqL.of hl)
  rw [Vals.ref1 r]
  unfold sortOk at ok
  simp only [Bool.and_eq_true, List.all_eq_true, decide_eq_true_eq, Bool.or_eq_true] at ok
  obtain ⟨h1, h2, h3, h4⟩ := ok
  have hlen := rr.length
  have hb : ∀ b ∈ vs.zip ds, b.2 ∈ ds := fun b hb => by
    have := List.mem_map_of_mem (f := (·.2)) hb
    rw [zipN_snd _ _ hlen] at this; exact this
  have hzl : (vs.zip ds).length = ds.length := by rw [List.length_zip]; omega
  refine PySem.W.sorted_data (enc := fun b : V × D => pD b.2) (bs := vs.zip ds) pl.isList (each_zip rv hlen) (each_reads I sub sm rv rr fun d hd => (h1 d hd).1) ?_ ?_ (by rw [hzl]; exact LIM_le h4) ?_ fun out ho e => ?_
  · intro p hp p' hp'
    obtain ⟨b, hb1, rfl⟩ := List.mem_map.mp hp
    obtain ⟨b', hb2, rfl⟩ := List.mem_map.mp hp'
    exact h2 _ (hb b hb1) _ (hb b' hb2)
  · rcases h3 with h3 | h3
    · refine .inl fun p hp => ?_
      obtain ⟨b, hb1, rfl⟩ := List.mem_map.mp hp
      have := h3 _ (hb b hb1)
      unfold tupB at this
      split at this
      · rename_i x r e
        exact ⟨x, r, e⟩
      · cases this
    · refine .inr fun p hp => ?_
      obtain ⟨b, hb1, rfl⟩ := List.mem_map.mp hp
      have := h3 _ (hb b hb1)
      unfold othB at this
      split at this
      · cases this
      · cases this
      · rename_i n1 n2
        exact ⟨n1, n2⟩
  · intro b hb1
    have := (h1 _ (hb b hb1)).2
    unfold deep at this
    show X.A.units + 2 + (pD b.2).depth < cLine
    omega
  · have e1 := each_vals e
    have e2 : ((vs.zip ds).mergeSort (PySem.W.dataLe false fun b : V × D => pD b.2)).map (·.2) = ds.mergeSort leD := by
      refine (List.map_mergeSort (f := fun b : V × D => b.2) (s := leD) (fun a _ b _ => ?_)).trans (by rw [zipN_snd _ _ hlen])
      rfl
    have r2 : Reps X.K G B ρ (((vs.zip ds).mergeSort (PySem.W.dataLe false fun b : V × D => pD b.2)).map (·.1)) (ds.mergeSort leD) := by
      rw [← e2]
      exact reps_of fun b hb => reps_zip rr b (List.mem_mergeSort.mp hb)
    obtain ⟨ep, he'⟩ := PyProof.Rows.sortedAll_at s.heap its (List.toArray out)
    have hlen2 : (((vs.zip ds).mergeSort (PySem.W.dataLe false fun b : V × D => pD b.2)).map (·.1)).length ≤ sizeLine := by
      rw [List.length_map, List.length_mergeSort, hzl]; exact LIM_le h4
    exact ⟨.ref _, _, I.laid (t' := s.toks) (fun _ _ => PyProof.Rows.sortedAll_old) (Nat.le_succ _) (o := .lst _) ⟨hlen2, out, ep, e1, he'⟩, rfl, q _ _ r2 (I.hok.fresh (Nat.le_succ _))⟩
end
end Mi
end
section
set_option autoImplicit false
set_option linter.all false
set_option maxRecDepth 100000
/-! Mi10: methods, built-in functions -/
namespace Mi
open PySem PySem.Spec PyProof.Rows L2

section
variable {P : Pg} {G : Ga} {n : Nat} {X : Cx} {W : WX} {F : Fo} {a b c o : Expr} {es rest : List Expr} {ma mb mc mo : ME} {ms : List ME} {pos apos p : Pos}

theorem s_mth (C : Cn P G n X W) {m : Nat} {pl : Sem Bool} (ho : PE X o (tE X.K P (run P n) G W mo)) (ha : PA X (a :: es) (tL X.K P (run P n) G W ms))
    (he : starEach (a :: es) X.env = (false, eval a X.env) :: starEach es X.env) (hpl : (backTo pos (starEach es X.env)).any (·.1) = false)
    (ht : eval (.Call (.Attribute o (G.nm m) apos) (a :: es) [] pos) X.env = (do
      let ov ← eval o X.env
      standAt apos.atName
      let (f, first) ← holding [ov] (getMethod ov (G.nm m) pl)
      callWith pos f first (backTo pos (starEach (a :: es) X.env)) (backToKw pos (keywordEach [] X.env)))) :
    PE X (.Call (.Attribute o (G.nm m) apos) (a :: es) [] pos) (tE X.K P (run P n) G W (.mth m mo ms)) := by
  refine ⟨fun pins s σ H Q I ⟨B, ρ, v, S, sim, er, af⟩ => ?_⟩
  refine PySem.W.methodCall_KW (pl := pl) (ho.mid I sim er af fun u s1 x H1 B1 ρ1 S1 d I1 r1 le1 sim1 er1 rp1 af1 => ?_) ht
  cases hq : mthOf P S1 d m with
  | none => rw [hq] at af1; exact af1.elim
  | some f =>
    rw [hq] at af1
    refine meth_ok C I1 r1 sim1 rp1 hq fun kp => ?_
    exact PySem.W.callWith_K (first := [u]) (h₀ := X.base) I1.ok.mod.kin kp (ha.mid (f := fun ds S2 => run P n f (d :: ds) S2) I1 sim1 er1 af1 fun us s2 xs H2 B2 ρ2 S2 ds I2 r2 le2 sm2 er2 rps af2 => ⟨I2.kIn, run_m C I2 (.cons r1 r2) sm2 (.cons (rp1.up le2) rps) af2⟩) he hpl
theorem s_mth0 (C : Cn P G n X W) {m : Nat} {pl : Sem Bool} (ho : PE X o (tE X.K P (run P n) G W mo))
    (ht : eval (.Call (.Attribute o (G.nm m) apos) [] [] pos) X.env = (do
      let ov ← eval o X.env
      standAt apos.atName
      let (f, first) ← holding [ov] (getMethod ov (G.nm m) pl)
      callWith pos f first (backTo pos (starEach [] X.env)) (backToKw pos (keywordEach [] X.env)))) :
    PE X (.Call (.Attribute o (G.nm m) apos) [] [] pos) (tE X.K P (run P n) G W (.mth m mo [])) := by
  refine ⟨fun pins s σ H Q I ⟨B, ρ, v, S, sim, er, af⟩ => ?_⟩
  refine PySem.W.methodCall_KW (pl := pl) (ho.mid I sim er af fun u s1 x H1 B1 ρ1 S1 d I1 r1 le1 sim1 er1 rp1 af1 => ?_) ht
  cases hq : mthOf P S1 d m with
  | none => rw [hq] at af1; exact af1.elim
  | some f =>
    rw [hq] at af1
    refine meth_ok C I1 r1 sim1 rp1 hq fun kp => ?_
    exact PySem.W.callWith_K0 (first := [u]) I1.kIn kp (run_m C I1 (.cons r1 .nil) sim1 (.cons rp1 .nil) (show Aft X.K G (fun c d => W c d σ) B1 ρ1 (run P n f [d] S1) Q from af1))
end

/-! ### built-in functions by values -/
def bltV : Blt → Value
  | .len => .builtin "len" | .abs => .builtin "abs" | .int => .type "int" | .str => .type "str" | .sum => .builtin "sum" | .any => .builtin "any" | .all => .builtin "all"
  | .min => .builtin "min" | .max => .builtin "max" | .sorted => .builtin "sorted" | .list => .type "list" | .tuple => .type "tuple" | .repr => .builtin "repr" | .isinst => .builtin "isinstance"
theorem foldMax_mem : ∀ (r : List Int) (x : Int), foldMax x r = x ∨ foldMax x r ∈ r
  | [], x => .inl rfl
  | y :: r, x => by
    unfold foldMax
    rcases foldMax_mem r (if y > x then y else x) with h | h
    · rw [h]
      by_cases c : y > x
      · rw [if_pos c]; exact .inr (List.mem_cons_self ..)
      · rw [if_neg c]; exact .inl rfl
    · exact .inr (List.mem_cons_of_mem _ h)
theorem foldMax_ge : ∀ (r : List Int) (x : Int), x ≤ foldMax x r ∧ ∀ y ∈ r, y ≤ foldMax x r
  | [], x => ⟨Int.le_refl _, fun _ h => nomatch h⟩
  | z :: r, x => by
    unfold foldMax
    obtain ⟨h1, h2⟩ := foldMax_ge r (if z > x then z else x)
    have h3 : x ≤ (if z > x then z else x) := by split <;> omega
    have h4 : z ≤ (if z > x then z else x) := by split <;> omega
    refine ⟨Int.le_trans h3 h1, fun y hy => ?_⟩
    rcases List.mem_cons.mp hy with e | hy
    · rw [e]; exact Int.le_trans h4 h1
    · exact h2 y hy
theorem foldMin_mem : ∀ (r : List Int) (x : Int), foldMin x r = x ∨ foldMin x r ∈ r
  | [], x => .inl rfl
  | y :: r, x => by
    unfold foldMin
    rcases foldMin_mem r (if y < x then y else x) with h | h
    · rw [h]
      by_cases c : y < x
      · rw [if_pos c]; exact .inr (List.mem_cons_self ..)
      · rw [if_neg c]; exact .inl rfl
    · exact .inr (List.mem_cons_of_mem _ h)
theorem foldMin_le : ∀ (r : List Int) (x : Int), foldMin x r ≤ x ∧ ∀ y ∈ r, foldMin x r ≤ y
  | [], x => ⟨Int.le_refl _, fun _ h => nomatch h⟩
  | z :: r, x => by
    unfold foldMin
    obtain ⟨h1, h2⟩ := foldMin_le r (if z < x then z else x)
    have h3 : (if z < x then z else x) ≤ x := by split <;> omega
    have h4 : (if z < x then z else x) ≤ z := by split <;> omega
    refine ⟨Int.le_trans h1 h3, fun y hy => ?_⟩
    rcases List.mem_cons.mp hy with e | hy
    · rw [e]; exact Int.le_trans h1 h4
    · exact h2 y hy

section
variable {X : Cx} {pins : List (Addr × Obj)} {σ : L2.St} {H : Hp} {s : Shared} {G : Ga} {B : Hp} {ρ : List Addr} {S : Sto} {x y : V} {u w : Value} {a b d : D} {Q : VK}
theorem ls_of {K : PySem.W.Frag} (sim : Sim K G B ρ S H) (r : Rep K G B ρ x a) {xs : List D} (e : lsOf S a = some xs) : ∃ p vs, x = .ref p ∧ H p = some (.lst vs) ∧ Reps K G B ρ vs xs := by
  unfold lsOf at e
  split at e
  · rename_i h; cases e; exact der_lst sim r h
  · cases e
theorem lsInts {K : PySem.W.Frag} (sim : Sim K G B ρ S H) (r : Rep K G B ρ x a) {ns : List Int} (e : (lsOf S a).bind intsD = some ns) : ∃ p, x = .ref p ∧ H p = some (.lst (ns.map V.int)) := by
  obtain ⟨ds, h1, h2⟩ := Option.bind_eq_some_iff.mp e
  obtain ⟨p, vs, e1, hp, rr⟩ := ls_of sim r h1
  exact ⟨p, e1, by rw [← rr.intsD h2]; exact hp⟩
theorem ltInts {K : PySem.W.Frag} (sim : Sim K G B ρ S H) (r : Rep K G B ρ x a) {ns : List Int} (e : (ltOf S a).bind intsD = some ns) : ∃ p, x = .ref p ∧ (H p = some (.lst (ns.map V.int)) ∨ SqT K H p (ns.map V.int)) := by
  obtain ⟨ds, h1, h2⟩ := Option.bind_eq_some_iff.mp e
  unfold ltOf at h1
  split at h1
  · rename_i ys h
    cases h1
    obtain ⟨p, vs, e1, hp, rr⟩ := der_lst sim r h
    exact ⟨p, e1, .inl (by rw [← rr.intsD h2]; exact hp)⟩
  · rename_i ys h
    cases h1
    obtain ⟨p, vs, e1, hp, rr⟩ := der_tup sim r h
    exact ⟨p, e1, .inr (by rw [← rr.intsD h2]; exact hp)⟩
  · cases h1
theorem lsBls {K : PySem.W.Frag} (sim : Sim K G B ρ S H) (r : Rep K G B ρ x a) {ns : List Bool} (e : (lsOf S a).bind blsD = some ns) : ∃ p, x = .ref p ∧ H p = some (.lst (ns.map V.bl)) := by
  obtain ⟨ds, h1, h2⟩ := Option.bind_eq_some_iff.mp e
  obtain ⟨p, vs, e1, hp, rr⟩ := ls_of sim r h1
  exact ⟨p, e1, by rw [← rr.blsD h2]; exact hp⟩
theorem reps1 {K : PySem.W.Frag} {xs : List V} (r : Reps K G B ρ xs [a]) : ∃ x, xs = [x] ∧ Rep K G B ρ x a := by
  cases r with
  | cons h r => cases r; exact ⟨_, rfl, h⟩
theorem reps2 {K : PySem.W.Frag} {xs : List V} (r : Reps K G B ρ xs [a, b]) : ∃ x y, xs = [x, y] ∧ Rep K G B ρ x a ∧ Rep K G B ρ y b := by
  cases r with
  | cons h r =>
    cases r with
    | cons h2 r => cases r; exact ⟨_, _, rfl, h, h2⟩
theorem kitB_ty {t n : String} (ht : tyOk t = true ∨ t = "NoneType") (hn : tyOk n = true) : PySem.W.kitOne X.K (.type t) (.type n) = some (t == n || (t == "bool" && n == "int")) := by
  simp only [tyOk, Bool.or_eq_true, beq_iff_eq] at hn ht
  rcases hn with ((((rfl | rfl) | rfl) | rfl) | rfl) | rfl <;> rcases ht with (((((rfl | rfl) | rfl) | rfl) | rfl) | rfl) | rfl <;> exact kit_ty (by decide +kernel)
theorem tyOf_ok {t : String} (e : tyOf S a = some t) : tyOk t = true ∨ t = "NoneType" := by
  unfold tyOf at e
  split at e
  · cases e; exact .inl rfl
  · cases e; exact .inl rfl
  · cases e; exact .inl rfl
  · cases e; exact .inr rfl
  · cases e; exact .inl rfl
  · cases e; exact .inl rfl
  · cases e; exact .inl rfl
  · split at e
    · cases e; exact .inl rfl
    · cases e; exact .inl rfl
    · cases e
  · cases e
theorem tyX_of (sim : Sim X.K G B ρ S H) (r : Rep X.K G B ρ x a) {t : String} (e : tyOf S a = some t) : TyX X.K H x (.type t) := by
  unfold tyOf at e
  split at e
  · cases e; rw [r.int_inv]; exact .base (.int _)
  · cases e; rw [r.bl_inv]; exact .base (.bl _)
  · cases e; rw [r.str_inv]; exact .base (.str _)
  · cases e; rw [r.non_inv]; exact .base .non
  · cases e
    cases r with
    | tup ht _ =>
      rcases ht with ht | ht
      · exact .base (.tup (sim.sub _ _ ht))
      · rcases ht with ht | ⟨o, its, n, h1, h2, _⟩
        · rcases ht with ht | ⟨_, ht⟩ <;> cases ht
        · exact .kTuple h1 h2
  · cases e
    cases r with
    | lst h _ => exact .base (.lst (sim.sub _ _ h))
  · cases e
    obtain ⟨p, kv, rfl, hk, rk⟩ := r.dct_inv
    exact .base (.dK (sim.sub _ _ hk))
  · split at e
    · rename_i l xs hs; cases e
      obtain ⟨p, vs, rfl, _, hp, _⟩ := loc_lst sim r hs
      exact .base (.lst hp)
    · rename_i l xs hs; cases e
      obtain ⟨p, kv, rfl, _, hp, _⟩ := loc_dk sim r hs
      exact .base (.dK hp)
    · cases e
  · cases e
theorem isTy_kit {n : String} {k : Bool} (hn : tyOk n = true) (e : isTy S n a = some k) : ∃ t, tyOf S a = some t ∧ PySem.W.kitOne X.K (.type t) (.type n) = some k := by
  unfold isTy at e
  obtain ⟨t, h1, rfl⟩ := Option.map_eq_some_iff.mp e
  exact ⟨t, h1, kitB_ty (tyOf_ok h1) hn⟩
theorem isAny_ok {t : String} (ht : tyOf S a = some t) : ∀ {ts : List D} {k : Bool}, isAny S a ts = some k → ∃ us : List String, ts = us.map D.ty ∧ PySem.W.kitAny X.K (.type t) (us.map Value.type) = some k
  | [], k, e => by cases e; exact ⟨[], rfl, rfl⟩
  | .ty n :: r, k, e => by
    unfold isAny at e
    split at e
    · rename_i hn
      split at e
      · rename_i p q h1 h2
        cases e
        obtain ⟨us, rfl, h3⟩ := isAny_ok ht h2
        obtain ⟨t', h4, h5⟩ := isTy_kit (X := X) hn h1
        rw [ht] at h4; cases h4
        refine ⟨n :: us, rfl, kitAny_cons h5 (fun hb => ?_) fun hb => by rw [hb]; rfl⟩
        rw [hb]; exact h3
      · cases e
    · cases e
  | .non :: r, k, e => by cases e
  | .bl _ :: r, k, e => by cases e
  | .int _ :: r, k, e => by cases e
  | .str _ :: r, k, e => by cases e
  | .tup _ :: r, k, e => by cases e
  | .lst _ :: r, k, e => by cases e
  | .scr _ :: r, k, e => by cases e
  | .dct _ :: r, k, e => by cases e
  | .ins _ _ :: r, k, e => by cases e
  | .fn _ :: r, k, e => by cases e
  | .cls _ :: r, k, e => by cases e
  | .loc _ :: r, k, e => by cases e
theorem isAny_ty {t : D} {ts : List D} {k : Bool} (e : isAny S a (t :: ts) = some k) : ∃ u, tyOf S a = some u := by
  cases t with
  | ty n =>
    unfold isAny at e
    split at e
    · split at e
      · rename_i p q h1 h2
        unfold isTy at h1
        obtain ⟨u, h3, _⟩ := Option.map_eq_some_iff.mp h1
        exact ⟨u, h3⟩
      · cases e
    · cases e
  | _ => cases e
theorem reps_ty {K : PySem.W.Frag} : ∀ {vs : List V} {ts : List String}, Reps K G B ρ vs (ts.map D.ty) → vs = ts.map V.ty
  | _, [], .nil => rfl
  | _, t :: ts, .cons h r => by
    cases h
    rw [reps_ty r]; rfl
theorem clsVs : ∀ (ts : List String), Paired ClsV (ts.map V.ty) (ts.map Value.type)
  | [] => .nil
  | t :: ts => .cons (.ty t) (clsVs ts)

theorem clsVs_val : ∀ {ts : List String} {its : List Value}, Vals (ts.map V.ty) its → its = ts.map Value.type
  | [], _, .nil => rfl
  | t :: ts, _, .cons r q => by
    rw [clsVs_val q]
    show _ :: _ = _ :: _
    rw [show _ = Value.type t from r]
/-- repr(x) -/
theorem o_repr0 (hg : X.A.guards = some []) (hu : X.A.units + 100 < cLine) (sm : H sysModules = none) (I : Inv X pins σ H s) (sim : Sim X.K G B ρ S H) (rx : RelV x u) (ra : Rep X.K G B ρ x a) {p : PyData} (e : toD (der S a) = some p) (h1 : p.showable = true) (h2 : p.depth ≤ deep) (h3 : p.shown.length ≤ LIM) (q : Q (.str p.shown) H) :
    wpAny (model X.prog X.w) X.A (call (.builtin "repr") [u]) (EP X pins σ Q) X.xe s := by
  obtain ⟨as, r, hn⟩ := der_reads I sim sm ra e rx
  have fin : ∀ (t : Tok) (s' : Shared), Inv X pins σ H s' → EP X pins σ Q (.str p.shown t) s' := fun t s' I' => ⟨.str p.shown, H, I', ⟨t, rfl⟩, q⟩
  cases r with
  | none => rw [PyData.shown_none] at *; exact PySem.P.repr_of_none (fin _ _ (I.tok _))
  | bool b => rw [PyData.shown_bool] at *; exact PySem.P.repr_of_bool (by
      have := fin s.toks _ (I.tok (s.toks + 1))
      cases b <;> exact this)
  | int i t =>
    have hz : i.natAbs.log2 < 1920 := by
      have := h1
      unfold PyData.showable at this
      simpa using this
    rw [PyData.shown_int] at *
    exact PySem.P.repr_of_int hz (fin _ _ (I.tok _))
  | str y t =>
    rw [PyData.shown_str] at *
    exact PySem.P.repr_of_str (fin _ _ (I.tok _)) (LIM_le h3)
  | list a1 a2 a3 a4 =>
    refine PySem.repr_of_reads' (h₀ := s.heap) (Reads.list a1 a2 a3 a4) h1 (fun _ => hn) hg (by unfold deep at h2; omega) (fun _ _ z => z) (fun h' t tk hk => fin t _ (I.kept hk)) (LIM_le h3)
  | tuple a1 a2 a3 a4 =>
    refine PySem.repr_of_reads' (h₀ := s.heap) (Reads.tuple a1 a2 a3 a4) h1 (fun _ => hn) hg (by unfold deep at h2; omega) (fun _ _ z => z) (fun h' t tk hk => fin t _ (I.kept hk)) (LIM_le h3)
  | dict a1 a2 a3 a4 a5 =>
    refine PySem.repr_of_reads' (h₀ := s.heap) (Reads.dict a1 a2 a3 a4 a5) h1 (fun _ => hn) hg (by unfold deep at h2; omega) (fun _ _ z => z) (fun h' t tk hk => fin t _ (I.kept hk)) (LIM_le h3)
theorem o_repr (hg : X.A.guards = some []) (hu : X.A.units + 100 < cLine) (sm : H sysModules = none) (I : Inv X pins σ H s) (sim : Sim X.K G B ρ S H) (rx : RelV x u) (ra : Rep X.K G B ρ x a) {p : PyData} (e : toD (der S a) = some p) (h1 : p.showable = true) (h2 : p.depth ≤ deep) (h3 : p.shown.length ≤ LIM) (q : Post X.K G B ρ S (.str p.shown) Q) :
    wpAny (model X.prog X.w) X.A (call (.builtin "repr") [u]) (EP X pins σ Q) X.xe s := o_repr0 hg hu sm I sim rx ra e h1 h2 h3 (q.here sim (.str _))
theorem o_blt (hw : G.w = X.w) (hc : X.calm = true) (hg : X.A.guards = some []) (hu : X.A.units + 100 < cLine) (sm : H sysModules = none) {bf : Blt} {us : List Value} {xs : List V} {ds : List D} (I : Inv X pins σ H s) (sim : Sim X.K G B ρ S H) (r : Vals xs us) (rp : Reps X.K G B ρ xs ds) (e : bltD S bf ds = some d) (q : Post X.K G B ρ S d Q) :
    wpAny (model X.prog X.w) X.A (call (bltV bf) us) (EP X pins σ Q) X.xe s := by
  unfold bltD at e
  split at e
  · obtain ⟨x, rfl, rx⟩ := reps1 rp
    split at e
    · rename_i ys h; cases e
      obtain ⟨p, vs, rfl, ht, rr⟩ := der_tup sim rx h
      exact call_len pins s σ H _ us Q I r ⟨_, vs.length, rfl, .inr ⟨vs, ht, rfl⟩, q.here sim (by rw [rr.length]; exact .int _)⟩
    · rename_i ys h; cases e
      obtain ⟨p, vs, rfl, ht, rr⟩ := der_lst sim rx h
      exact call_len pins s σ H _ us Q I r ⟨_, vs.length, rfl, .inl ⟨vs, SqL.of ht, rfl⟩, q.here sim (by rw [rr.length]; exact .int _)⟩
    · rename_i z h
      split at e
      · rename_i hz; cases e
        have ex := der_str rx h
        subst ex
        exact call_len pins s σ H _ us Q I r ⟨_, z.length, rfl, ⟨LIM_le hz, rfl⟩, q.here sim (.int _)⟩
      · cases e
    · rename_i kd h; cases e
      obtain ⟨p, kv, rfl, hp, rk⟩ := (dct_self rx h).dct_inv
      obtain ⟨u, rfl, ru⟩ := vals1 r
      cases ru
      exact d_len I (.inl (sim.sub _ _ hp)) fun t s' I' => ⟨.int kv.length, H, I', ⟨t, rfl⟩, q.here sim (by rw [rk.length]; exact .int _)⟩
    · rename_i l h
      split at e
      · rename_i kd hk; cases e
        have h2 : Rep X.K G B ρ x (.loc l) := by
          cases rx with
          | @loc p l' hl =>
            have : der S (.loc l') = .loc l := h
            unfold der at this
            simp only at this
            split at this
            · cases this
            · cases this; exact .loc hl
          | _ => cases h
        obtain ⟨p, kv, rfl, _, hp, rk⟩ := loc_dk sim h2 hk
        obtain ⟨u, rfl, ru⟩ := vals1 r
        cases ru
        exact d_len I (.inl hp) fun t s' I' => ⟨.int kv.length, H, I', ⟨t, rfl⟩, q.here sim (by rw [rk.length]; exact .int _)⟩
      · cases e
    · cases e
  · obtain ⟨x, rfl, rx⟩ := reps1 rp
    cases e
    rw [rx.int_inv] at r
    exact call_abs pins s σ H _ us Q I r ⟨_, rfl, q.here sim (.int _)⟩
  · obtain ⟨x, rfl, rx⟩ := reps1 rp
    cases e
    rw [rx.int_inv] at r
    exact call_int1 pins s σ H _ us Q I r (.inl ⟨_, rfl, q.here sim (.int _)⟩)
  · obtain ⟨x, rfl, rx⟩ := reps1 rp
    split at e
    · rename_i hz; cases e
      rw [rx.int_inv] at r
      exact call_str_int pins s σ H _ us Q I r ⟨_, rfl, of_decide_eq_true hz, q.here sim (.str _)⟩
    · cases e
  · obtain ⟨x, rfl, rx⟩ := reps1 rp
    obtain ⟨l, h1, rfl⟩ := Option.map_eq_some_iff.mp e
    obtain ⟨p, rfl, hp⟩ := lsInts sim rx h1
    exact cr_sum hc pins s σ H _ us Q I r ⟨p, l, rfl, SqL.of hp, q.here sim (.int _)⟩
  · obtain ⟨x, rfl, rx⟩ := reps1 rp
    obtain ⟨l, h1, rfl⟩ := Option.map_eq_some_iff.mp e
    obtain ⟨p, rfl, hp⟩ := lsBls sim rx h1
    exact cr_any hc pins s σ H _ us Q I r ⟨p, l, rfl, SqL.of hp, q.here sim (.bl _)⟩
  · obtain ⟨x, rfl, rx⟩ := reps1 rp
    obtain ⟨l, h1, rfl⟩ := Option.map_eq_some_iff.mp e
    obtain ⟨p, rfl, hp⟩ := lsBls sim rx h1
    exact cr_all hc pins s σ H _ us Q I r ⟨p, l, rfl, SqL.of hp, q.here sim (.bl _)⟩
  · obtain ⟨x, y, rfl, rx, ry⟩ := reps2 rp
    cases e
    rw [rx.int_inv, ry.int_inv] at r
    exact call_max2 hc pins s σ H _ us Q I r ⟨_, _, rfl, q.here sim (.int _)⟩
  · obtain ⟨x, y, rfl, rx, ry⟩ := reps2 rp
    cases e
    rw [rx.int_inv, ry.int_inv] at r
    exact call_min2 hc pins s σ H _ us Q I r ⟨_, _, rfl, q.here sim (.int _)⟩
  · obtain ⟨x, rfl, rx⟩ := reps1 rp
    split at e
    · rename_i m l h1
      cases e
      obtain ⟨p, rfl, hp⟩ := ltInts sim rx h1
      suffices fin : ∀ m', m' ∈ m :: l → (∀ y, y ∈ m :: l → y ≤ m') → Q (.int m') H by
        rcases hp with hp | hp
        · exact cr_max hc pins s σ H _ us Q I r ⟨p, _, rfl, SqL.of hp, by simp, fin⟩
        · exact cr_maxT hc pins s σ H _ us Q I r ⟨p, _, rfl, hp, by simp, fin⟩
      intro m' h2 h3
      obtain ⟨g1, g2⟩ := foldMax_ge l m
      have e1 : m' ≤ foldMax m l := by
        rcases List.mem_cons.mp h2 with z | z
        · rw [z]; exact g1
        · exact g2 _ z
      have e2 : foldMax m l ≤ m' := by
        rcases foldMax_mem l m with z | z
        · rw [z]; exact h3 _ (List.mem_cons_self ..)
        · exact h3 _ (List.mem_cons_of_mem _ z)
      have e3 : m' = foldMax m l := Int.le_antisymm e1 e2
      rw [e3]
      exact q.here sim (.int _)
    · cases e
  · obtain ⟨x, rfl, rx⟩ := reps1 rp
    split at e
    · rename_i m l h1
      cases e
      obtain ⟨p, rfl, hp⟩ := ltInts sim rx h1
      suffices fin : ∀ m', m' ∈ m :: l → (∀ y, y ∈ m :: l → m' ≤ y) → Q (.int m') H by
        rcases hp with hp | hp
        · exact cr_min hc pins s σ H _ us Q I r ⟨p, _, rfl, SqL.of hp, by simp, fin⟩
        · exact cr_minT hc pins s σ H _ us Q I r ⟨p, _, rfl, hp, by simp, fin⟩
      intro m' h2 h3
      obtain ⟨g1, g2⟩ := foldMin_le l m
      have e1 : foldMin m l ≤ m' := by
        rcases List.mem_cons.mp h2 with z | z
        · rw [z]; exact g1
        · exact g2 _ z
      have e2 : m' ≤ foldMin m l := by
        rcases foldMin_mem l m with z | z
        · rw [z]; exact h3 _ (List.mem_cons_self ..)
        · exact h3 _ (List.mem_cons_of_mem _ z)
      have e3 : m' = foldMin m l := Int.le_antisymm e2 e1
      rw [e3]
      exact q.here sim (.int _)
    · cases e
  · obtain ⟨x, rfl, rx⟩ := reps1 rp
    split at e
    · rename_i kd hd
      cases e
      obtain ⟨l, z, rfl, hl⟩ := dnAt_inv hd
      obtain ⟨p, ks, rfl, _, hp, rk⟩ := loc_dn sim rx hl
      exact call_listN hc pins s σ H _ us Q I r ⟨p, ks, rfl, by rw [← hw]; exact hp, q.lst sim rk.refs⟩
    · obtain ⟨l, h1, rfl⟩ := Option.map_eq_some_iff.mp e
      obtain ⟨p, vs, rfl, hp, rr⟩ := seq_of sim rx h1
      exact call_list_of pins s σ H _ us Q I r ⟨p, vs, rfl, hp, q.lst sim rr⟩
  · obtain ⟨x, rfl, rx⟩ := reps1 rp
    obtain ⟨l, h1, rfl⟩ := Option.map_eq_some_iff.mp e
    unfold seqOf at h1
    split at h1
    · rename_i h; cases h1
      obtain ⟨p, vs, rfl, ht, rr⟩ := der_tup sim rx h
      exact call_tuple_of pins s σ H _ us Q I r ⟨p, vs, rfl, .inr ⟨ht, q.here sim (tup_self rx h)⟩⟩
    · rename_i h; cases h1
      obtain ⟨p, vs, rfl, ht, rr⟩ := der_lst sim rx h
      exact call_tuple_of pins s σ H _ us Q I r ⟨p, vs, rfl, .inl ⟨SqL.of ht, q.tup sim rr⟩⟩
    · rename_i h; cases h1
      obtain ⟨p, vs, rfl, ht, rr⟩ := der_scr sim rx h
      exact call_tuple_of pins s σ H _ us Q I r ⟨p, vs, rfl, .inl ⟨ht, q.tup sim rr⟩⟩
    · cases h1
  · obtain ⟨x, rfl, rx⟩ := reps1 rp
    split at e
    · rename_i ds h
      split at e
      · rename_i ok
        cases e
        obtain ⟨p, vs, rfl, hl, rr⟩ := ls_of sim rx h
        exact call_sortedD (G := G) (B := B) (ρ := ρ) hu pins s σ H _ us Q I r ⟨p, vs, ds, rfl, hl, rr, ok, sim.sub, sm, fun vs' p' rr' hp => q.lst sim rr' p' hp⟩
      · cases e
    · cases e
  · obtain ⟨x, y, rfl, rx, ry⟩ := reps2 rp
    split at e
    · rename_i hn
      obtain ⟨k, h1, rfl⟩ := Option.map_eq_some_iff.mp e
      obtain ⟨t, ht, hk⟩ := isTy_kit (X := X) hn h1
      cases ry
      exact call_isi pins s σ H _ us Q I r ⟨x, _, _, _, k, rfl, .ty _, tyX_of sim rx ht, hk, q.here sim (.bl _)⟩
    · cases e
  · obtain ⟨x, y, rfl, rx, ry⟩ := reps2 rp
    obtain ⟨k, h1, rfl⟩ := Option.map_eq_some_iff.mp e
    obtain ⟨t, ht⟩ := isAny_ty h1
    obtain ⟨ts, ets, hk⟩ := isAny_ok (X := X) ht h1
    rw [ets] at ry
    cases ry with
    | @tup tp vs ds hT rs =>
      have ev := reps_ty rs
      subst ev
      rcases hT with hT | hT
      · exact call_isiT pins s σ H _ us Q I r ⟨x, tp, _, _, _, k, rfl, sim.sub _ _ hT, clsVs ts, tyX_of sim rx ht, hk, q.here sim (.bl _)⟩
      · rcases hT with hT | ⟨o, its, n, z1, z2, z3, _, z5⟩
        · rcases hT with hT | ⟨_, hT⟩ <;> cases hT
        · have ei : its = (ts.map Value.type).toArray := by
            have := clsVs_val z5
            rw [← this]
          obtain ⟨oc, od, dt, sl⟩ := o
          simp only at z2 z3
          subst z2 z3 ei
          exact call_isiK pins s σ H _ us Q I r ⟨x, tp, od, _, n, sl, _, k, rfl, z1, tyX_of sim rx ht, hk, q.here sim (.bl _)⟩
  · obtain ⟨x, rfl, rx⟩ := reps1 rp
    split at e
    · rename_i p hp
      split at e
      · rename_i hz
        simp only [Bool.and_eq_true, decide_eq_true_eq] at hz
        cases e
        obtain ⟨u, rfl, ru⟩ := vals1 r
        exact o_repr hg hu sm I sim ru rx hp hz.1.1 hz.1.2 hz.2 q
      · cases e
    · cases e
  · cases e
end
end Mi
end
section
set_option autoImplicit false
set_option linter.all false
set_option maxRecDepth 100000
/-! MiN4: == by an own __eq__ -/
namespace Mi
open PySem PySem.Spec PyProof.Rows L2
section
variable {P : Pg} {G : Ga} {n : Nat} {X : Cx} {W : WX} {a b : Expr} {ma mb : ME} {pos : Pos}
theorem own_eq (C : Cn P G n X W) {m : Nat} (hnm : G.nm m = "__eq__") {pins : List (Addr × Obj)} {s : Shared} {σ : L2.St} {H : Hp} {B : Hp} {ρ : List Addr} {S : Sto} {x y : V} {u w : Value} {d e : D} {Q : VK}
    (I : Inv X pins σ H s) (rx : RelV x u) (ry : RelV y w) (sim : Sim X.K G B ρ S H) (rd : Rep X.K G B ρ x d) (re : Rep X.K G B ρ y e) (af : Aft X.K G (fun c d => W c d σ) B ρ (eqoF P (run P n) S m d e) Q) :
    wpAny (model X.prog X.w) X.A (compareOp .Eq u w) (EP X pins σ (fun v H => ∃ k, v = .bl k ∧ Q v H)) X.xe s := by
  unfold eqoF at af
  split at af
  · rename_i f hf
    split at af
    · rename_i hc
      have hc := of_decide_eq_true hc
      unfold mthOf at hf
      split at hf
      · cases hf
      obtain ⟨c, h1, h2⟩ := Option.bind_eq_some_iff.mp hf
      obtain ⟨k, h3, h4⟩ := Option.bind_eq_some_iff.mp h2
      obtain ⟨p, dx, fv, fs, rfl, hp, rf, alt⟩ := cls_of sim rd h1
      rw [h1] at hc
      obtain ⟨p', dx', fv', fs', rfl, hp', rf', alt'⟩ := cls_of sim re hc.symm
      have h0 : k.exf = none := by
        rcases C.wd.exc c k h3 with z | ⟨_, z, _⟩
        · exact z
        · rw [z] at h4; cases h4
      have M := C.wd.mth c k m f h3 h0 h4
      rw [hnm] at M
      cases rx
      cases ry
      obtain ⟨mA, J, _⟩ := ins_get I.hok hp
      obtain ⟨mB, J', _⟩ := ins_get I.hok hp'
      obtain ⟨od, J, _⟩ := J.look
      obtain ⟨od', J', _⟩ := J'.look
      obtain ⟨m0, hF⟩ := I.fr
      have hu := C.hu
      show wpAny (model X.prog X.w) X.A (richCompare .Eq (.ref p) (.ref p')) _ X.xe s
      refine PySem.W.cmp_K (op := .Eq) (tb := .ref (G.cl c)) (by omega) hF I.ok.mod.kin J J'.type (by simp [PySem.W.notFirst]) M.at_ M.fn ?_
      refine wpAny_mono (run_m C I (us := [.ref p, .ref p']) (vs := [.ref p, .ref p']) (.cons (show RelV (.ref p) (.ref p) from rfl) (.cons (show RelV (.ref p') (.ref p') from rfl) .nil)) sim (.cons rd (.cons re .nil)) (Q := fun v H => ∃ k, v = .bl k ∧ Q v H) ?_) (fun r s' hq => ?_) fun _ _ z => z
      · cases e2 : run P n f [d, e] S with
        | ok z S3 =>
          rw [e2] at af
          cases z <;> try exact af.elim
          rename_i kb
          exact fun u H' B' ρ' le s' rp => ⟨kb, rp.bl_inv, af u H' B' ρ' le s' rp⟩
        | ex c fs S3 => rw [e2] at af; exact af
        | bad => rw [e2] at af; exact af.elim
      · obtain ⟨v, H', I', rv, kb, rfl, q⟩ := hq
        cases rv
        exact ⟨.bl kb, H', I', rfl, kb, rfl, q⟩
    · exact af.elim
  · exact af.elim
theorem s_eqo (C : Cn P G n X W) {m : Nat} (hnm : G.nm m = "__eq__") (ha : PE X a (tE X.K P (run P n) G W ma)) (hb : PE X b (tE X.K P (run P n) G W mb)) (hm : behindInMarks .Eq b = false) : PE X (.Compare a [.Eq] [b] pos) (tE X.K P (run P n) G W (.eqo m ma mb)) :=
  ⟨fun pins s σ H Q I ⟨B, ρ, v, S, sim, er, af⟩ => wpAny_Compare1 (ha.mid I sim er af fun u s1 x H1 B1 ρ1 S1 d I1 r1 le1 sim1 er1 rp1 af1 => hb.mid I1 sim1 er1 af1 fun w s2 y H2 B2 ρ2 S2 e I2 r2 le2 sim2 er2 rp2 af2 => by
    refine wpAny_mono (own_eq C hnm I2 r1 r2 sim2 (rp1.up le2) rp2 af2) (fun r s' hq => ?_) fun _ _ z => z
    obtain ⟨v, H', I', rv, kb, rfl, q⟩ := hq
    exact ⟨_, H', I', rv, q⟩) hm⟩
theorem eqoF_bl {F : Fo} {S : Sto} {m : Nat} {x y d : D} {S1 : Sto} (e : eqoF P F S m x y = .ok d S1) : ∃ k, d = .bl k := by
  unfold eqoF at e
  split at e
  · split at e
    · split at e
      · cases e; exact ⟨_, rfl⟩
      · cases e
      · rename_i h1 h2
        rw [e] at h2
        exact (h2 d S1 rfl).elim
    · cases e
  · cases e
theorem q_eqo (C : Cn P G n X W) {m : Nat} (hnm : G.nm m = "__eq__") (ha : PE X a (tE X.K P (run P n) G W ma)) (hb : PE X b (tE X.K P (run P n) G W mb)) (hm : behindInMarks .Eq b = false) : PT X (.Compare a [.Eq] [b] pos) (tQ X.K P (run P n) G W (.v (.eqo m ma mb))) :=
  ⟨fun pins s σ H Q I ⟨B, ρ, v, S, sim, er, af⟩ => wpAny_isTrue_Compare1 (ha.mid (f := fun x S1 => bind1 (ev P (run P n) mb v S1) fun y S2 => eqoF P (run P n) S2 m x y) (Q := fun x H => ∃ k, x = .bl k ∧ Q k H) I sim er (by
      have af : AftT X.K G (fun c d => W c d σ) B ρ (match bind1 (ev P (run P n) ma v S) (fun x S1 => bind1 (ev P (run P n) mb v S1) fun y S2 => eqoF P (run P n) S2 m x y) with
        | .ok d S1 => (match tru S1 d with
          | some b => .ok b S1
          | none => .bad)
        | .ex c fs S1 => .ex c fs S1
        | .bad => .bad) Q := af
      revert af
      have key : ∀ r : R, (∀ d S1, r = .ok d S1 → ∃ k, d = .bl k) → AftT X.K G (fun c d => W c d σ) B ρ (match r with
        | .ok d S1 => (match tru S1 d with
          | some b => .ok b S1
          | none => .bad)
        | .ex c fs S1 => .ex c fs S1
        | .bad => .bad) Q → Aft X.K G (fun c d => W c d σ) B ρ r (fun x H => ∃ k, x = .bl k ∧ Q k H) := by
        intro r hr af
        cases r with
        | ok d S1 =>
          obtain ⟨k, rfl⟩ := hr d S1 rfl
          exact fun u H' B' ρ' le sim' rp => ⟨k, rp.bl_inv, af H' B' ρ' le sim'⟩
        | ex c fs S1 => exact af
        | bad => exact af
      refine key _ fun d S1 e => ?_
      cases h1 : ev P (run P n) ma v S with
      | ok d1 S2 =>
        rw [h1] at e
        simp only [bind1] at e
        cases h2 : ev P (run P n) mb v S2 with
        | ok d2 S3 =>
          rw [h2] at e
          exact eqoF_bl e
        | ex c fs S3 => rw [h2] at e; cases e
        | bad => rw [h2] at e; cases e
      | ex c fs S2 => rw [h1] at e; cases e
      | bad => rw [h1] at e; cases e) fun u s1 x H1 B1 ρ1 S1 d I1 r1 le1 sim1 er1 rp1 af1 => hb.mid I1 sim1 er1 af1 fun w s2 y H2 B2 ρ2 S2 e I2 r2 le2 sim2 er2 rp2 af2 => by
    refine thn (own_eq C hnm I2 r1 r2 sim2 (rp1.up le2) rp2 af2) fun c s3 ⟨x3, H3, I3, r3, k, ek, k', ek', q3⟩ => ?_
    subst ek
    cases ek'
    cases r3
    exact wpAny_truthy_bool ⟨H3, I3, q3⟩) hm⟩
end
end Mi
end
section
set_option autoImplicit false
set_option linter.all false
set_option maxRecDepth 100000
/-! Mi11: what is walked -/
namespace Mi
open PySem PySem.Spec PyProof.Rows L2

/-- what is locked stays locked -/
def FrL (G : Ga) (φ : Hp) : Prop := ∀ a o u, G.fr a = some (.frz o u) → φ a = some (.frz o u)
theorem FrL.upd {G : Ga} {p : Addr} {o : HO} (h : G.fr p = none) : FrL G (upd G.fr p o) := fun a b u e => by rw [upd_ne (ne_of_none e h)]; exact e
/-- an iterator that gives the trees xs while the store's lists g stand -/
structure Wk (K : PySem.W.Frag) (G : Ga) (B0 : Hp) (ρ0 : List Addr) (J : It) (xs : List D) (g : List (Nat × List D)) : Prop where
  go : ∀ {φ : Hp} {B : Hp} {ρ : List Addr} {S : Sto} {H : Hp} {i : Nat}, FrL G φ → Le B0 ρ0 B ρ → Sim K (G.put φ) B ρ S H → guards g S = true → i < xs.length → J.go i H
  stop : ∀ {φ : Hp} {B : Hp} {ρ : List Addr} {S : Sto} {H : Hp}, FrL G φ → Le B0 ρ0 B ρ → Sim K (G.put φ) B ρ S H → guards g S = true → J.stop xs.length H
  yld : ∀ {φ : Hp} {B : Hp} {ρ : List Addr} {S : Sto} {H : Hp} {i : Nat} {d : D} {x : V} {H' : Hp}, FrL G φ → Le B0 ρ0 B ρ → Sim K (G.put φ) B ρ S H → guards g S = true → xs[i]? = some d → J.yld i H x H' →
    ∃ B' ρ', Le B ρ B' ρ' ∧ Sim K (G.put φ) B' ρ' S H' ∧ Rep K G B' ρ' x d
theorem guards_app {g h : List (Nat × List D)} {S : Sto} (e : guards (g ++ h) S = true) : guards g S = true ∧ guards h S = true := by
  unfold guards at e ⊢
  rw [List.all_append, Bool.and_eq_true] at e
  exact e
theorem guards_one {l : Nat} {xs : List D} {S : Sto} (e : guards [(l, xs)] S = true) : S[l]? = some (.lst xs) := by
  unfold guards at e
  simp only [List.all_cons, List.all_nil, Bool.and_true] at e
  split at e
  · rename_i ys h
    rw [h, (eqDs_iff ys xs).mp e]
  · cases e
theorem gOf_self (S : Sto) (a : D) : guards (gOf S a) S = true := by
  unfold gOf
  split
  · split
    · rename_i l xs h
      unfold guards
      simp only [List.all_cons, List.all_nil, Bool.and_true, h]
      exact (eqDs_iff xs xs).mpr rfl
    · rfl
  · rfl
section
variable {K : PySem.W.Frag} {G : Ga} {B B' : Hp} {ρ ρ' : List Addr} {S : Sto} {H : Hp} {x y : V} {a b d : D}
/-- a list or a tuple at p, read by its address: the same items while the guards hold -/
theorem seq_wk (s : Sim K G B ρ S H) (r : Rep K G B ρ x a) {xs : List D} (e : seqOf S a = some xs) :
    ∃ p, x = .ref p ∧ ((isT S a = false ∧ ∀ {φ B1 ρ1 S1 H1}, Le B ρ B1 ρ1 → Sim K (G.put φ) B1 ρ1 S1 H1 → guards (gOf S a) S1 = true → ∃ vs, SqL K H1 p vs ∧ Reps K G B1 ρ1 vs xs) ∨
      (isT S a = true ∧ ∀ {φ B1 ρ1 S1 H1}, Le B ρ B1 ρ1 → Sim K (G.put φ) B1 ρ1 S1 H1 → guards (gOf S a) S1 = true → ∃ vs, SqT K H1 p vs ∧ Reps K G B1 ρ1 vs xs)) := by
  unfold seqOf at e
  cases r with
  | tup h r =>
    cases e
    exact ⟨_, rfl, .inr ⟨rfl, fun le s1 _ => ⟨_, sqT_up s1.sub (sqT_up le.sub h.sq), r.up le⟩⟩⟩
  | lst h r =>
    cases e
    exact ⟨_, rfl, .inl ⟨rfl, fun le s1 _ => ⟨_, SqL.of (s1.sub _ _ (le.sub _ _ h)), r.up le⟩⟩⟩
  | scr h r =>
    cases e
    exact ⟨_, rfl, .inl ⟨rfl, fun le s1 _ => ⟨_, sqL_up s1.sub (sqL_up le.sub h), r.up le⟩⟩⟩
  | @loc p l h =>
    unfold der at e
    simp only at e
    cases hs : S[l]? with
    | none => rw [hs] at e; cases e
    | some m =>
      rw [hs] at e
      cases m with
      | lst ys =>
        cases e
        refine ⟨p, rfl, .inl ⟨by unfold isT der; simp only; rw [hs], fun {φ B1 ρ1 S1 H1} le s1 hg => ?_⟩⟩
        have hg2 : gOf S (.loc l) = [(l, xs)] := by unfold gOf; simp only; rw [hs]
        rw [hg2] at hg
        have h1 := guards_one hg
        obtain ⟨a, ea, vs, hv, rr⟩ := s1.obj _ _ h1
        rw [le.at h] at ea; cases ea
        exact ⟨vs, SqL.of hv, rr⟩
      | _ => cases e
  | _ => cases e
theorem wk_list {p : Addr} {xs : List D} {g : List (Nat × List D)} (h : ∀ {φ B1 ρ1 S1 H1}, Le B ρ B1 ρ1 → Sim K (G.put φ) B1 ρ1 S1 H1 → guards g S1 = true → ∃ vs, SqL K H1 p vs ∧ Reps K G B1 ρ1 vs xs) : Wk K G B ρ (Itl K p) xs g :=
  ⟨fun {φ B1 ρ1 S1 H1 i} fl le s hg hi => by
    obtain ⟨vs, h1, h2⟩ := h le s hg
    have : i < vs.length := by rw [h2.length]; exact hi
    exact ⟨vs, vs[i], h1, by simp [this]⟩,
  fun fl le s hg => by
    obtain ⟨vs, h1, h2⟩ := h le s hg
    exact ⟨vs, h1, by rw [h2.length]; exact Nat.le_refl _⟩,
  fun {φ B1 ρ1 S1 H1 i d x H'} fl le s hg hi y => by
    obtain ⟨vs, h1, h2⟩ := h le s hg
    obtain ⟨v, hv, rv⟩ := h2.get hi
    obtain ⟨e, y⟩ := y
    have := y vs h1
    rw [hv] at this; cases this
    subst e
    exact ⟨_, _, Le.refl, s, rv⟩⟩
theorem wk_tup {p : Addr} {xs : List D} {g : List (Nat × List D)} (h : ∀ {φ B1 ρ1 S1 H1}, Le B ρ B1 ρ1 → Sim K (G.put φ) B1 ρ1 S1 H1 → guards g S1 = true → ∃ vs, SqT K H1 p vs ∧ Reps K G B1 ρ1 vs xs) : Wk K G B ρ (Itt K p) xs g :=
  ⟨fun {φ B1 ρ1 S1 H1 i} fl le s hg hi => by
    obtain ⟨vs, h1, h2⟩ := h le s hg
    have : i < vs.length := by rw [h2.length]; exact hi
    exact ⟨vs, vs[i], h1, by simp [this]⟩,
  fun fl le s hg => by
    obtain ⟨vs, h1, h2⟩ := h le s hg
    exact ⟨vs, h1, by rw [h2.length]; exact Nat.le_refl _⟩,
  fun {φ B1 ρ1 S1 H1 i d x H'} fl le s hg hi y => by
    obtain ⟨vs, h1, h2⟩ := h le s hg
    obtain ⟨v, hv, rv⟩ := h2.get hi
    obtain ⟨e, y⟩ := y
    have := y vs h1
    rw [hv] at this; cases this
    subst e
    exact ⟨_, _, Le.refl, s, rv⟩⟩
theorem rngD_len (lo : Int) (n : Nat) : (rngD lo n).length = n := by simp [rngD]
theorem rngD_get {lo : Int} {n i : Nat} {d : D} (h : (rngD lo n)[i]? = some d) : d = .int (lo + i) ∧ i < n := by
  have hi := (List.getElem?_eq_some_iff.mp h).1
  rw [rngD_len] at hi
  unfold rngD at h
  rw [List.getElem?_map, List.getElem?_range hi] at h
  cases h
  exact ⟨rfl, hi⟩
/-- a locked dict's keys -/
theorem wk_keys {p : Addr} {o : Obj} {ks : List Ent} {kd : List (D × D)} (hf : G.fr p = some (.frz o (DnO G.w p ks))) (r : RepN K G B ρ ks kd) : Wk K G B ρ (Itn G.w p o ks) (kd.map (·.1)) [] :=
  ⟨fun {φ B1 ρ1 S1 H1 i} fl le s hg hi => ⟨(s.frm p _ (fl _ _ _ hf)).1, by rw [List.length_map] at hi; rw [r.length]; exact hi⟩,
  fun fl le s hg => ⟨(s.frm p _ (fl _ _ _ hf)).1, by rw [List.length_map, r.length]; exact Nat.le_refl _⟩,
  fun {φ B1 ρ1 S1 H1 i d x H'} fl le s hg hi y => by
    obtain ⟨rfl, e, he, rfl⟩ := y
    refine ⟨_, _, Le.refl, s, ?_⟩
    obtain ⟨v, hv, hr⟩ := Reps.get (r.refs.up le) hi
    rw [List.getElem?_map, he] at hv
    cases hv
    exact hr⟩
theorem wk_range {lo : Int} {n : Nat} : Wk K G B ρ (Itr lo n) (rngD lo n) [] :=
  ⟨fun _ _ _ _ hi => by rw [rngD_len] at hi; exact hi, fun _ _ _ _ => by rw [rngD_len]; exact Nat.le_refl _,
  fun {φ B1 ρ1 S1 H1 i d x H'} fl le s hg hi y => by
    obtain ⟨rfl, _⟩ := rngD_get hi
    obtain ⟨e, y⟩ := y
    subst e y
    exact ⟨_, _, Le.refl, s, .int _⟩⟩
theorem zipD_len : ∀ (xs ys : List D), (zipD xs ys).length = min xs.length ys.length
  | [], ys => by simp [zipD]
  | x :: xs, [] => by simp [zipD]
  | x :: xs, y :: ys => by simp [zipD, zipD_len xs ys]
theorem zipD_get : ∀ {xs ys : List D} {i : Nat} {d : D}, (zipD xs ys)[i]? = some d → ∃ x y, xs[i]? = some x ∧ ys[i]? = some y ∧ d = .tup [x, y]
  | [], ys, i, d, h => by simp [zipD] at h
  | x :: xs, [], i, d, h => by simp [zipD] at h
  | x :: xs, y :: ys, 0, d, h => by simp [zipD] at h; exact ⟨x, y, rfl, rfl, h.symm⟩
  | x :: xs, y :: ys, i + 1, d, h => by
    simp only [zipD, List.getElem?_cons_succ] at h
    obtain ⟨u, v, h1, h2, h3⟩ := zipD_get h
    exact ⟨u, v, by simpa using h1, by simpa using h2, h3⟩
theorem enmD_len : ∀ (n : Nat) (xs : List D), (enmD n xs).length = xs.length
  | n, [] => rfl
  | n, x :: xs => by simp [enmD, enmD_len (n + 1) xs]
theorem enmD_get : ∀ {n : Nat} {xs : List D} {i : Nat} {d : D}, (enmD n xs)[i]? = some d → ∃ x, xs[i]? = some x ∧ d = .tup [.int (n + i : Nat), x]
  | n, [], i, d, h => by simp [enmD] at h
  | n, x :: xs, 0, d, h => by simp [enmD] at h; exact ⟨x, rfl, h.symm⟩
  | n, x :: xs, i + 1, d, h => by
    simp only [enmD, List.getElem?_cons_succ] at h
    obtain ⟨u, h1, h2⟩ := enmD_get h
    exact ⟨u, by simpa using h1, by rw [h2, Nat.add_right_comm n 1 i, Nat.add_assoc]⟩
theorem wk_pair {φ : Hp} {B1 : Hp} {ρ1 : List Addr} {S1 : Sto} {H1 H' : Hp} {T : Addr} {u v : V} {c d : D} (s : Sim K (G.put φ) B1 ρ1 S1 H1) (hT : H1 T = none) (e : H' = upd H1 T (.tup [u, v])) (ru : Rep K G B1 ρ1 u c) (rv : Rep K G B1 ρ1 v d) :
    ∃ B' ρ', Le B1 ρ1 B' ρ' ∧ Sim K (G.put φ) B' ρ' S1 H' ∧ Rep K G B' ρ' (.ref T) (.tup [c, d]) := by
  obtain ⟨s', le⟩ := s.lay (o := .tup [u, v]) hT
  subst e
  exact ⟨_, _, le, s', .tup (.inl upd_same) (.cons (ru.up le) (.cons (rv.up le) .nil))⟩
theorem wk_zip {p q : Addr} {xs ys : List D} {g h : List (Nat × List D)} (hx : ∀ {φ B1 ρ1 S1 H1}, Le B ρ B1 ρ1 → Sim K (G.put φ) B1 ρ1 S1 H1 → guards g S1 = true → ∃ vs, SqL K H1 p vs ∧ Reps K G B1 ρ1 vs xs) (hy : ∀ {φ B1 ρ1 S1 H1}, Le B ρ B1 ρ1 → Sim K (G.put φ) B1 ρ1 S1 H1 → guards h S1 = true → ∃ vs, SqL K H1 q vs ∧ Reps K G B1 ρ1 vs ys) : Wk K G B ρ (Itz K p q) (zipD xs ys) (g ++ h) :=
  ⟨fun {φ B1 ρ1 S1 H1 i} fl le s hg hi => by
    obtain ⟨g1, g2⟩ := guards_app hg
    obtain ⟨vs, h1, h2⟩ := hx le s g1
    obtain ⟨ws, h3, h4⟩ := hy le s g2
    rw [zipD_len] at hi
    have l1 := h2.length
    have l2 := h4.length
    exact ⟨vs, ws, vs[i]'(by omega), ws[i]'(by omega), h1, h3, by simp, by simp⟩,
  fun fl le s hg => by
    obtain ⟨g1, g2⟩ := guards_app hg
    obtain ⟨vs, h1, h2⟩ := hx le s g1
    obtain ⟨ws, h3, h4⟩ := hy le s g2
    refine ⟨vs, ws, h1, h3, ?_⟩
    rw [zipD_len, h2.length, h4.length]
    omega,
  fun {φ B1 ρ1 S1 H1 i d x H'} fl le s hg hi y => by
    obtain ⟨g1, g2⟩ := guards_app hg
    obtain ⟨vs, h1, h2⟩ := hx le s g1
    obtain ⟨ws, h3, h4⟩ := hy le s g2
    obtain ⟨c, e, hc, he, rfl⟩ := zipD_get hi
    obtain ⟨v, hv, rv⟩ := h2.get hc
    obtain ⟨w, hw, rw'⟩ := h4.get he
    obtain ⟨T, u, z, rfl, nT, eH, y1, y2⟩ := y
    have e1 := y1 vs h1
    have e2 := y2 ws h3
    rw [hv] at e1; cases e1
    rw [hw] at e2; cases e2
    exact wk_pair s nT eH rv rw'⟩
theorem wk_zipT {p q : Addr} {xs ys : List D} {g h : List (Nat × List D)} (hx : ∀ {φ B1 ρ1 S1 H1}, Le B ρ B1 ρ1 → Sim K (G.put φ) B1 ρ1 S1 H1 → guards g S1 = true → ∃ vs, SqT K H1 p vs ∧ Reps K G B1 ρ1 vs xs) (hy : ∀ {φ B1 ρ1 S1 H1}, Le B ρ B1 ρ1 → Sim K (G.put φ) B1 ρ1 S1 H1 → guards h S1 = true → ∃ vs, SqT K H1 q vs ∧ Reps K G B1 ρ1 vs ys) : Wk K G B ρ (RZ.ItzT K p q) (zipD xs ys) (g ++ h) :=
  ⟨fun {φ B1 ρ1 S1 H1 i} fl le s hg hi => by
    obtain ⟨g1, g2⟩ := guards_app hg
    obtain ⟨vs, h1, h2⟩ := hx le s g1
    obtain ⟨ws, h3, h4⟩ := hy le s g2
    rw [zipD_len] at hi
    have l1 := h2.length
    have l2 := h4.length
    exact ⟨vs, ws, vs[i]'(by omega), ws[i]'(by omega), h1, h3, by simp, by simp⟩,
  fun fl le s hg => by
    obtain ⟨g1, g2⟩ := guards_app hg
    obtain ⟨vs, h1, h2⟩ := hx le s g1
    obtain ⟨ws, h3, h4⟩ := hy le s g2
    refine ⟨vs, ws, h1, h3, ?_⟩
    rw [zipD_len, h2.length, h4.length]
    omega,
  fun {φ B1 ρ1 S1 H1 i d x H'} fl le s hg hi y => by
    obtain ⟨g1, g2⟩ := guards_app hg
    obtain ⟨vs, h1, h2⟩ := hx le s g1
    obtain ⟨ws, h3, h4⟩ := hy le s g2
    obtain ⟨c, e, hc, he, rfl⟩ := zipD_get hi
    obtain ⟨v, hv, rv⟩ := h2.get hc
    obtain ⟨w, hw, rw'⟩ := h4.get he
    obtain ⟨T, u, z, rfl, nT, eH, y1, y2⟩ := y
    have e1 := y1 vs h1
    have e2 := y2 ws h3
    rw [hv] at e1; cases e1
    rw [hw] at e2; cases e2
    exact wk_pair s nT eH rv rw'⟩
theorem wk_enum {p : Addr} {xs : List D} {g : List (Nat × List D)} (hx : ∀ {φ B1 ρ1 S1 H1}, Le B ρ B1 ρ1 → Sim K (G.put φ) B1 ρ1 S1 H1 → guards g S1 = true → ∃ vs, SqL K H1 p vs ∧ Reps K G B1 ρ1 vs xs) : Wk K G B ρ (Ite K p) (enmD 0 xs) g :=
  ⟨fun {φ B1 ρ1 S1 H1 i} fl le s hg hi => by
    obtain ⟨vs, h1, h2⟩ := hx le s hg
    rw [enmD_len] at hi
    have l1 := h2.length
    exact ⟨vs, vs[i]'(by omega), h1, by simp⟩,
  fun fl le s hg => by
    obtain ⟨vs, h1, h2⟩ := hx le s hg
    exact ⟨vs, h1, by rw [enmD_len, h2.length]; exact Nat.le_refl _⟩,
  fun {φ B1 ρ1 S1 H1 i d x H'} fl le s hg hi y => by
    obtain ⟨vs, h1, h2⟩ := hx le s hg
    obtain ⟨c, hc, rfl⟩ := enmD_get hi
    obtain ⟨v, hv, rv⟩ := h2.get hc
    obtain ⟨T, u, rfl, nT, eH, y1⟩ := y
    have e1 := y1 vs h1
    rw [hv] at e1; cases e1
    rw [Nat.zero_add]
    exact wk_pair s nT eH (.int _) rv⟩
end

section
variable {X : Cx} {tg : Expr}
/-- a list or a tuple, walked -/
def iSeq (K : PySem.W.Frag) (tl : TE) : TI := fun σ H R => tl σ H fun x H1 => ∃ a, x = .ref a ∧ (((∃ xs, SqL K H1 a xs) ∧ R (Itl K a) H1) ∨ ((∃ xs, SqT K H1 a xs) ∧ R (Itt K a) H1))
theorem pi_seq {l : Expr} {tl : TE} (hl : PE X l tl) : PI X tg l (iSeq X.K tl) := by
  refine ⟨fun pins s σ H R I h => ?_⟩
  refine thn (hl.run pins s σ H _ I h) fun v s1 ⟨x, H1, I1, r1, a, e, q⟩ => ?_
  subst e
  cases r1
  have fresh : ∀ b ∈ [s1.heap.objs.size], FpOk X pins H1 b := fun b hb => by
    have e : b = s1.heap.objs.size := by simpa using hb
    subst e
    exact I1.fpOk (Nat.le_refl _) (I1.hok.fresh (Nat.le_refl _))
  rcases q with ⟨⟨xs, hq⟩, q⟩ | ⟨⟨xs, hq⟩, q⟩
  · obtain ⟨its, rv, p, hz⟩ := I1.list hq
    exact wpAny_pyIter_list p.isList ⟨s1.heap.objs.size, [s1.heap.objs.size], _, _, H1, rfl, I1.kept (t' := s1.toks) fun b o e => Heap.get?_push_of_some _ e, turn_list a _, ⟨_, Heap.get?_push_size _ rfl, rfl, rfl⟩, fresh, q⟩
  · obtain ⟨its, rv, p, hz⟩ := I1.tuple hq
    exact wpAny_pyIter_tuple (show s1.heap.IsTuple a its.toArray from p) ⟨s1.heap.objs.size, [s1.heap.objs.size], _, _, H1, rfl, I1.kept (t' := s1.toks) fun b o e => Heap.get?_push_of_some _ e, turn_tuple a _, ⟨_, Heap.get?_push_size _ rfl, rfl, rfl⟩, fresh, q⟩
end
/-- readings of what is walked -/
def AftI (K : PySem.W.Frag) (G : Ga) (W : XK) (B : Hp) (ρ : List Addr) (r : RI) (R : It → Hp → Prop) : Prop := match r with
  | .ok xs g S' => ∀ (J : It) (H' B' : Hp) (ρ' : List Addr), Le B ρ B' ρ' → Sim K G B' ρ' S' H' → Wk K G B' ρ' J xs g → R J H'
  | .ex c fs S' => ExC K G W B ρ c fs S'
  | .bad => False
def tI (K : PySem.W.Frag) (P : Pg) (F : Fo) (G : Ga) (W : WX) (m : MI) : TI := fun σ H R => ∃ B ρ v S, Sim K G B ρ S H ∧ EnvR K G B ρ σ v ∧ AftI K G (fun c d => W c d σ) B ρ (evI P F m v S) R
theorem AftI.up {K : PySem.W.Frag} {G : Ga} {W : XK} {B B' : Hp} {ρ ρ' : List Addr} {r : RI} {R : It → Hp → Prop} (h : AftI K G W B ρ r R) (le : Le B ρ B' ρ') : AftI K G W B' ρ' r R := by
  cases r with
  | ok xs g S => exact fun J H B2 ρ2 l => h J H B2 ρ2 (le.trans l)
  | ex c fs S => exact ExC.up h le
  | bad => exact h
section
variable {P : Pg} {F : Fo} {G : Ga} {X : Cx} {W : WX} {a b tg : Expr} {ma mb : ME} {p pos tpos : Pos} {elts : List Expr} {kk : Nat}
theorem _root_.L2.PI.imp {X : Cx} {tg e : Expr} {t t' : TI} (h : PI X tg e t) (k : ∀ σ H R, t' σ H R → t σ H R) : PI X tg e t' := ⟨fun pins s σ H R I q => h.run pins s σ H R I (k σ H R q)⟩
theorem i_seq (ha : PE X a (tE X.K P F G W ma)) : PI X tg a (tI X.K P F G W (.seq ma)) :=
  (pi_seq ha).imp fun σ H R ⟨B, ρ, v, S, sim, er, af⟩ => by
    have af : AftI X.K G (fun c d => W c d σ) B ρ (match ev P F ma v S with
      | .ok d S1 => (match seqOf S1 d with
        | some xs => .ok xs (gOf S1 d) S1
        | none => .bad)
      | .ex c fs S1 => .ex c fs S1
      | .bad => .bad) R := af
    refine ⟨B, ρ, v, S, sim, er, ?_⟩
    cases e : ev P F ma v S with
    | ok d S1 =>
      rw [e] at af
      simp only at af
      refine fun u H1 B1 ρ1 le s1 rp => ?_
      cases e2 : seqOf S1 d with
      | none => rw [e2] at af; exact af.elim
      | some xs =>
        rw [e2] at af
        obtain ⟨p, rfl, q⟩ := seq_wk s1 rp e2
        refine ⟨p, rfl, ?_⟩
        rcases q with ⟨_, q⟩ | ⟨_, q⟩
        · obtain ⟨vs, h, _⟩ := q Le.refl s1 (gOf_self S1 d)
          exact .inl ⟨⟨vs, h⟩, af _ H1 B1 ρ1 le s1 (wk_list q)⟩
        · obtain ⟨vs, h, _⟩ := q Le.refl s1 (gOf_self S1 d)
          exact .inr ⟨⟨vs, h⟩, af _ H1 B1 ρ1 le s1 (wk_tup q)⟩
    | ex c fs S1 => rw [e] at af; exact af
    | bad => rw [e] at af; exact af
theorem i_dky {i : Nat} (hw : G.w = X.w) (he : PE X a (tE X.K P F G W (.var i))) : PI X tg a (tI X.K P F G W (.dky i)) :=
  (pi_keysN he).imp fun σ H R ⟨B, ρ, v, S, sim, er, af⟩ => by
    have af : AftI X.K G (fun c d => W c d σ) B ρ (match v[i]? with
      | some (some (.loc l)) => (match S[l]? with
        | some (.dn true kvs) => .ok (kvs.map (·.1)) [] S
        | _ => .bad)
      | _ => .bad) R := af
    refine ⟨B, ρ, v, S, sim, er, ?_⟩
    show Aft X.K G _ B ρ (match v[i]? with
      | some (some d) => Mi.R.ok d S
      | _ => .bad) _
    split at af
    · rename_i l hv
      rw [hv]
      split at af
      · rename_i kd hs
        intro u H1 B1 ρ1 le s1 rp
        cases rp with
        | loc h =>
          obtain ⟨p, ep, o, ks, h1, h2, r⟩ := s1.obj _ _ hs
          rw [h] at ep; cases ep
          exact ⟨_, o, ks, rfl, by rw [← hw]; exact h1, by rw [← hw]; exact af _ H1 B1 ρ1 le s1 (wk_keys h2 r)⟩
      · exact af.elim
    · exact af.elim
end
end Mi
end
section
set_option autoImplicit false
set_option linter.all false
set_option maxRecDepth 100000
/-! Mi12: targets, ranges, zip, enumerate -/
namespace Mi
open PySem PySem.Spec PyProof.Rows L2

mutual
def slots : MT → List Nat
  | .nm i => [i]
  | .tp ts => slotsL ts
def slotsL : List MT → List Nat
  | [] => []
  | t :: ts => slots t ++ slotsL ts
end
/-- the same but at these places -/
def Off (ws : List Nat) (σ σ' : L2.St) : Prop := σ'.length = σ.length ∧ ∀ i, i ∉ ws → σ'[i]? = σ[i]?
theorem Off.refl {ws : List Nat} {σ : L2.St} : Off ws σ σ := ⟨rfl, fun _ _ => rfl⟩
theorem Off.trans {ws vs : List Nat} {σ σ1 σ2 : L2.St} (a : Off ws σ σ1) (b : Off vs σ1 σ2) : Off (ws ++ vs) σ σ2 :=
  ⟨b.1.trans a.1, fun i hi => (b.2 i fun z => hi (List.mem_append_right _ z)).trans (a.2 i fun z => hi (List.mem_append_left _ z))⟩
theorem Off.mono {ws vs : List Nat} {σ σ1 : L2.St} (a : Off ws σ σ1) (h : ∀ i ∈ ws, i ∈ vs) : Off vs σ σ1 := ⟨a.1, fun i hi => a.2 i fun z => hi (h i z)⟩
theorem wipe_out2 {σ : L2.St} {i : Nat} : ∀ {vs : List Nat}, i ∉ vs → (wipe σ vs)[i]? = σ[i]?
  | [], _ => rfl
  | v :: vs, h => by
    have h1 : v ≠ i := fun z => h (by rw [z]; exact List.mem_cons_self ..)
    unfold wipe
    rw [List.getElem?_set_ne h1]
    exact wipe_out2 fun z => h (List.mem_cons_of_mem _ z)
theorem wipe_in {σ : L2.St} {i : Nat} : ∀ {vs : List Nat}, i ∈ vs → i < σ.length → (wipe σ vs)[i]? = some none
  | v :: vs, h, hl => by
    unfold wipe
    by_cases e : v = i
    · subst e
      rw [List.getElem?_set_self (by rw [wipe_length]; exact hl)]
    · rw [List.getElem?_set_ne e]
      exact wipe_in ((List.mem_cons.mp h).resolve_left fun z => e z.symm) hl
theorem wipe_off {σ σ' : L2.St} {ws : List Nat} (h : Off ws σ σ') : wipe σ' ws = wipe σ ws := by
  apply List.ext_getElem?
  intro i
  by_cases hi : i ∈ ws
  · by_cases hl : i < σ.length
    · rw [wipe_in hi hl, wipe_in hi (by rw [h.1]; exact hl)]
    · rw [List.getElem?_eq_none (by rw [wipe_length, h.1]; omega), List.getElem?_eq_none (by rw [wipe_length]; omega)]
  · rw [wipe_out2 hi, wipe_out2 hi, h.2 i hi]
theorem wipe_wipe {σ : L2.St} {ws : List Nat} : wipe (wipe σ ws) ws = wipe σ ws := wipe_off ⟨wipe_length _ _, fun i hi => wipe_out2 hi⟩
section
variable {K : PySem.W.Frag} {G : Ga0} {B : Hp} {ρ : List Addr}
theorem EnvR.set {σ : L2.St} {e : Env} {v : V} {d : D} {i : Nat} (h : EnvR K G B ρ σ e) (r : Rep K G B ρ v d) : EnvR K G B ρ (σ.set i (some v)) (e.set i (some d)) := by
  refine ⟨by rw [List.length_set, List.length_set]; exact h.1, fun j c hj => ?_⟩
  by_cases e1 : i = j
  · subst e1
    by_cases hl : i < e.length
    · rw [List.getElem?_set_self hl] at hj
      cases hj
      exact ⟨v, by rw [List.getElem?_set_self (by rw [h.1]; exact hl)], r⟩
    · rw [List.getElem?_eq_none (by rw [List.length_set]; omega)] at hj; cases hj
  · rw [List.getElem?_set_ne e1] at hj ⊢
    exact h.2 j c hj
theorem EnvR.clear {σ : L2.St} {e : Env} {i : Nat} (h : EnvR K G B ρ σ e) : EnvR K G B ρ (σ.set i none) (e.set i none) := by
  refine ⟨by rw [List.length_set, List.length_set]; exact h.1, fun j c hj => ?_⟩
  by_cases e1 : i = j
  · subst e1
    by_cases hl : i < e.length
    · rw [List.getElem?_set_self hl] at hj; cases hj
    · rw [List.getElem?_eq_none (by rw [List.length_set]; omega)] at hj; cases hj
  · rw [List.getElem?_set_ne e1] at hj ⊢
    exact h.2 j c hj
theorem EnvR.wipe {σ : L2.St} {e : Env} (h : EnvR K G B ρ σ e) : ∀ ws : List Nat, EnvR K G B ρ (L2.wipe σ ws) (wipeE e ws)
  | [] => h
  | w :: ws => EnvR.clear (EnvR.wipe h ws)
end
/-- readings of targets -/
def tG (K : PySem.W.Frag) (G : Ga) (m : MT) : TG := fun v σ H Q => ∃ φ B ρ e S d e', Sim K (G.put φ) B ρ S H ∧ EnvR K G B ρ σ e ∧ Rep K G B ρ v d ∧ bindM S m d e = some e' ∧ ∀ σ', EnvR K G B ρ σ' e' → Off (slots m) σ σ' → Q σ' H
def tGs (K : PySem.W.Frag) (G : Ga) (ms : List MT) : TGs := fun vs σ H Q => ∃ φ B ρ e S ds e', Sim K (G.put φ) B ρ S H ∧ EnvR K G B ρ σ e ∧ Reps K G B ρ vs ds ∧ bindMs S ms ds e = some e' ∧ ∀ σ', EnvR K G B ρ σ' e' → Off (slotsL ms) σ σ' → Q σ' H
section
variable {G : Ga} {X : Cx} {pos : Pos} {es : List Expr} {a : Expr} {m : MT} {ms : List MT} {k : Nat}
theorem _root_.L2.PG.imp {X : Cx} {e : Expr} {t t' : TG} (h : PG X e t) (k : ∀ v σ H Q, t' v σ H Q → t v σ H Q) : PG X e t' := ⟨fun pins s σ H v u Q I r q => h.run pins s σ H v u Q I r (k v σ H Q q)⟩
theorem _root_.L2.PGs.imp {X : Cx} {e : List Expr} {t t' : TGs} (h : PGs X e t) (k : ∀ v σ H Q, t' v σ H Q → t v σ H Q) : PGs X e t' := ⟨fun pins s σ H v u Q I r q => h.run pins s σ H v u Q I r (k v σ H Q q)⟩
theorem g_name {i : Nat} {x : Str} (hN : X.N.Nodup) (hi : X.N[i]? = some x) (hx : Loc X.env.scope x) (hf : X.fn x = true ∨ X.env.scope.names.lookup x = some .local) : PG X (.Name x pos) (tG X.K G (.nm i)) :=
  (pg_name hN hi hx hf).imp fun v σ H Q ⟨φ, B, ρ, e, S, d, e', sim, er, r, hb, q⟩ => by
    have hb : some (e.set i (some d)) = some e' := hb
    cases hb
    exact q _ (er.set r) ⟨List.length_set .., fun j hj => List.getElem?_set_ne fun z => hj (by rw [z]; exact List.mem_cons_self ..)⟩
theorem gs_nil : PGs X [] (tGs X.K G []) := pgs_nil.imp fun vs σ H Q ⟨φ, B, ρ, e, S, ds, e', sim, er, r, hb, q⟩ => by
  cases ds with
  | nil =>
    cases r
    have hb : some e = some e' := hb
    cases hb
    exact ⟨rfl, q _ er Off.refl⟩
  | cons d ds => cases hb
theorem gs_cons (h1 : PG X a (tG X.K G m)) (h2 : PGs X es (tGs X.K G ms)) (hs : (assignEach (a :: es) X.env).map (·.2) = assign a X.env :: (assignEach es X.env).map (·.2)) : PGs X (a :: es) (tGs X.K G (m :: ms)) :=
  (pgs_cons h1 h2 hs).imp fun vs σ H Q ⟨φ, B, ρ, e, S, ds, e', sim, er, r, hb, q⟩ => by
    cases ds with
    | nil => cases hb
    | cons d ds =>
      cases r with
      | cons r1 r2 =>
        have hb : (match bindM S m d e with
          | some v' => bindMs S ms ds v'
          | none => none) = some e' := hb
        cases e1 : bindM S m d e with
        | none => rw [e1] at hb; cases hb
        | some e2 =>
          rw [e1] at hb
          exact ⟨_, _, rfl, φ, B, ρ, e, S, d, e2, sim, er, r1, e1, fun σ1 er1 o1 => ⟨φ, B, ρ, e2, S, ds, e', sim, er1, r2, hb, fun σ2 er2 o2 => q σ2 er2 (o1.trans o2)⟩⟩
theorem bindMs_len {S : Sto} : ∀ {ms : List MT} {ds : List D} {e e' : Env}, bindMs S ms ds e = some e' → ds.length = ms.length
  | [], [], _, _, _ => rfl
  | [], _ :: _, _, _, h => by cases h
  | _ :: _, [], _, _, h => by cases h
  | m :: ms, d :: ds, e, e', h => by
    have h : (match bindM S m d e with
          | some v' => bindMs S ms ds v'
          | none => none) = some e' := h
    split at h
    · exact congrArg (· + 1) (bindMs_len h)
    · cases h
theorem g_tup (hc : X.calm = true) (h : PGs X es (tGs X.K G ms)) (hn : (assignEach es X.env).length = ms.length) (hst : (assignEach es X.env).findIdx? (·.1) = none) : PG X (.Tuple es k pos) (tG X.K G (.tp ms)) :=
  (pg_seq hc h hn hst).imp fun v σ H Q ⟨φ, B, ρ, e, S, d, e', sim, er, r, hb, q⟩ => by
    cases r with
    | @tup a vs ds ht rs =>
      have hb : bindMs S ms ds e = some e' := hb
      exact ⟨a, vs, rfl, .inl (sqT_up sim.sub ht.sq), by rw [rs.length]; exact bindMs_len hb, φ, B, ρ, e, S, ds, e', sim, er, rs, hb, q⟩
    | @lst a vs ds ht rs =>
      have hb : bindMs S ms ds e = some e' := hb
      exact ⟨a, vs, rfl, .inr (SqL.of (sim.sub _ _ ht)), by rw [rs.length]; exact bindMs_len hb, φ, B, ρ, e, S, ds, e', sim, er, rs, hb, q⟩
    | _ => cases hb
end

/-! ### ranges, zip, enumerate -/
section
variable {P : Pg} {F : Fo} {G : Ga} {X : Cx} {W : WX} {a b tg : Expr} {ma mb : ME} {p pos tpos : Pos} {elts : List Expr} {kk : Nat}
theorem evs1 (v : Env) (S : Sto) (m : ME) : evs P F [m] v S = (match ev P F m v S with
    | .ok d S1 => RL.ok [d] S1
    | .ex c fs S1 => RL.ex c fs S1
    | .bad => RL.bad) := by
  show (match ev P F m v S with
    | .ok d S1 => (match evs P F [] v S1 with
      | .ok ds S2 => RL.ok (d :: ds) S2
      | .ex c fs S2 => .ex c fs S2
      | .bad => .bad)
    | .ex c fs S1 => .ex c fs S1
    | .bad => .bad) = _
  cases ev P F m v S <;> rfl
theorem evs2 (v : Env) (S : Sto) (m n : ME) : evs P F [m, n] v S = (match ev P F m v S with
    | .ok d S1 => (match ev P F n v S1 with
      | .ok e S2 => RL.ok [d, e] S2
      | .ex c fs S2 => RL.ex c fs S2
      | .bad => RL.bad)
    | .ex c fs S1 => RL.ex c fs S1
    | .bad => RL.bad) := by
  show (match ev P F m v S with
    | .ok d S1 => (match evs P F [n] v S1 with
      | .ok ds S2 => RL.ok (d :: ds) S2
      | .ex c fs S2 => .ex c fs S2
      | .bad => .bad)
    | .ex c fs S1 => .ex c fs S1
    | .bad => .bad) = _
  cases ev P F m v S with
  | ok d S1 =>
    simp only [evs1]
    cases ev P F n v S1 <;> rfl
  | _ => rfl
theorem i_rg1 (hg : Gl X "range") (hm : X.mg "range" = none) (ha : PA X [a] (tL X.K P F G W [ma])) (hs : starEach [a] X.env = [(false, eval a X.env)]) : PI X tg (.Call (.Name "range" p) [a] [] pos) (tI X.K P F G W (.rg1 ma)) :=
  (pi_range1 hg hm ha hs).imp fun σ H R ⟨B, ρ, v, S, sim, er, af⟩ => by
    have af : AftI X.K G (fun c d => W c d σ) B ρ (match ev P F ma v S with
      | .ok (.int n) S1 => if rgG n then .ok (rngD 0 n.toNat) [] S1 else .bad
      | .ok _ _ => .bad
      | .ex c fs S1 => .ex c fs S1
      | .bad => .bad) R := af
    refine ⟨B, ρ, v, S, sim, er, ?_⟩
    rw [evs1]
    split at af
    · rename_i n S1 e
      rw [e]
      intro us H1 B1 ρ1 le s1 rp
      by_cases hr : rgG n = true
      · rw [if_pos hr] at af
        unfold rgG at hr
        simp only [Bool.and_eq_true, decide_eq_true_eq] at hr
        obtain ⟨u, rfl, ru⟩ := reps1 rp
        exact ⟨n, by rw [ru.int_inv], by omega, by omega, af _ H1 B1 ρ1 le s1 wk_range⟩
      · rw [if_neg hr] at af; exact af.elim
    · exact af.elim
    · rename_i e; rw [e]; exact af
    · exact af.elim
theorem i_rg2 (hg : Gl X "range") (hm : X.mg "range" = none) (ha : PA X [a, b] (tL X.K P F G W [ma, mb])) (hs : starEach [a, b] X.env = [(false, eval a X.env), (false, eval b X.env)]) (hs2 : starEach [b] X.env = [(false, eval b X.env)]) : PI X tg (.Call (.Name "range" p) [a, b] [] pos) (tI X.K P F G W (.rg2 ma mb)) :=
  (pi_range2 hg hm ha hs hs2).imp fun σ H R ⟨B, ρ, v, S, sim, er, af⟩ => by
    have af : AftI X.K G (fun c d => W c d σ) B ρ (match ev P F ma v S with
      | .ok (.int i) S1 => (match ev P F mb v S1 with
        | .ok (.int j) S2 => if rgG i && rgG j then .ok (rngD i (j - i).toNat) [] S2 else .bad
        | .ok _ _ => .bad
        | .ex c fs S1 => .ex c fs S1
        | .bad => .bad)
      | .ok _ _ => .bad
      | .ex c fs S1 => .ex c fs S1
      | .bad => .bad) R := af
    refine ⟨B, ρ, v, S, sim, er, ?_⟩
    rw [evs2]
    split at af
    · rename_i n S1 e
      rw [e]
      split at af
      · rename_i j S2 e2
        simp only [e2]
        intro us H1 B1 ρ1 le s1 rp
        by_cases hr : (rgG n && rgG j) = true
        · rw [if_pos hr] at af
          unfold rgG at hr
          simp only [Bool.and_eq_true, decide_eq_true_eq] at hr
          obtain ⟨u, w, rfl, ru, rw'⟩ := reps2 rp
          exact ⟨n, j, by rw [ru.int_inv, rw'.int_inv], ⟨by omega, by omega, by omega, by omega⟩, af _ H1 B1 ρ1 le s1 wk_range⟩
        · rw [if_neg hr] at af; exact af.elim
      · exact af.elim
      · rename_i e2; simp only [e2]; exact af
      · exact af.elim
    · exact af.elim
    · rename_i e; rw [e]; exact af
    · exact af.elim
theorem i_zip (hg : Gl X "zip") (hm : X.mg "zip" = none) (ha : PA X [a, b] (tL X.K P F G W [ma, mb])) (hs : starEach [a, b] X.env = (false, eval a X.env) :: starEach [b] X.env) (hpl : (backTo pos (starEach [b] X.env)).any (·.1) = false) : PI X (.Tuple elts kk tpos) (.Call (.Name "zip" p) [a, b] [] pos) (tI X.K P F G W (.zip ma mb)) :=
  (RZ.pi_zipA hg hm ha hs hpl).imp fun σ H R ⟨B, ρ, v, S, sim, er, af⟩ => by
    have af : AftI X.K G (fun c d => W c d σ) B ρ (match ev P F ma v S with
      | .ok x S1 => (match ev P F mb v S1 with
        | .ok y S2 => (match seqOf S2 x, seqOf S2 y with
          | some xs, some ys => if isT S2 x == isT S2 y then .ok (zipD xs ys) (gOf S2 x ++ gOf S2 y) S2 else .bad
          | _, _ => .bad)
        | .ex c fs S1 => .ex c fs S1
        | .bad => .bad)
      | .ex c fs S1 => .ex c fs S1
      | .bad => .bad) R := af
    refine ⟨B, ρ, v, S, sim, er, ?_⟩
    rw [evs2]
    cases e : ev P F ma v S with
    | ok x S1 =>
      rw [e] at af
      simp only at af ⊢
      cases e2 : ev P F mb v S1 with
      | ok y S2 =>
        rw [e2] at af
        simp only at af ⊢
        intro us H1 B1 ρ1 le s1 rp
        split at af
        · rename_i xs ys e3 e4
          split at af
          · rename_i hk
            obtain ⟨u, w, rfl, ru, rw'⟩ := reps2 rp
            obtain ⟨p, rfl, q1⟩ := seq_wk s1 ru e3
            obtain ⟨p2, rfl, q2⟩ := seq_wk s1 rw' e4
            rcases q1 with ⟨k1, q1⟩ | ⟨k1, q1⟩
            · rcases q2 with ⟨k2, q2⟩ | ⟨k2, q2⟩
              · obtain ⟨vs, h1, _⟩ := q1 Le.refl s1 (gOf_self S2 x)
                obtain ⟨ws, h2, _⟩ := q2 Le.refl s1 (gOf_self S2 y)
                exact ⟨p, p2, vs, ws, rfl, .inl ⟨h1, h2, af _ H1 B1 ρ1 le s1 (wk_zip q1 q2)⟩⟩
              · rw [k1, k2] at hk; cases hk
            · rcases q2 with ⟨k2, q2⟩ | ⟨k2, q2⟩
              · rw [k1, k2] at hk; cases hk
              · obtain ⟨vs, h1, _⟩ := q1 Le.refl s1 (gOf_self S2 x)
                obtain ⟨ws, h2, _⟩ := q2 Le.refl s1 (gOf_self S2 y)
                exact ⟨p, p2, vs, ws, rfl, .inr ⟨h1, h2, af _ H1 B1 ρ1 le s1 (wk_zipT q1 q2)⟩⟩
          · exact af.elim
        · exact af.elim
      | ex c fs S2 => rw [e2] at af; exact af
      | bad => rw [e2] at af; exact af
    | ex c fs S1 => rw [e] at af; exact af
    | bad => rw [e] at af; exact af
theorem i_enm (hg : Gl X "enumerate") (hm : X.mg "enumerate" = none) (ha : PA X [a] (tL X.K P F G W [ma])) (hs : starEach [a] X.env = [(false, eval a X.env)]) : PI X (.Tuple elts kk tpos) (.Call (.Name "enumerate" p) [a] [] pos) (tI X.K P F G W (.enm ma)) :=
  (pi_enum hg hm ha hs).imp fun σ H R ⟨B, ρ, v, S, sim, er, af⟩ => by
    have af : AftI X.K G (fun c d => W c d σ) B ρ (match ev P F ma v S with
      | .ok d S1 => (match seqOf S1 d with
        | some xs => if isT S1 d then .bad else .ok (enmD 0 xs) (gOf S1 d) S1
        | none => .bad)
      | .ex c fs S1 => .ex c fs S1
      | .bad => .bad) R := af
    refine ⟨B, ρ, v, S, sim, er, ?_⟩
    rw [evs1]
    cases e : ev P F ma v S with
    | ok d S1 =>
      rw [e] at af
      simp only at af ⊢
      intro us H1 B1 ρ1 le s1 rp
      cases e2 : seqOf S1 d with
      | none => rw [e2] at af; exact af.elim
      | some xs =>
        rw [e2] at af
        simp only at af
        obtain ⟨u, rfl, ru⟩ := reps1 rp
        obtain ⟨p, rfl, q⟩ := seq_wk s1 ru e2
        rcases q with ⟨k1, q⟩ | ⟨k1, q⟩
        · obtain ⟨vs, h1, _⟩ := q Le.refl s1 (gOf_self S1 d)
          rw [k1] at af
          exact ⟨p, vs, rfl, h1, af _ H1 B1 ρ1 le s1 (wk_enum q)⟩
        · rw [k1] at af; exact af.elim
    | ex c fs S1 => rw [e] at af; exact af
    | bad => rw [e] at af; exact af
end
end Mi
end
section
set_option autoImplicit false
set_option linter.all false
set_option maxRecDepth 100000
/-! Mi13: list comprehensions -/
namespace Mi
open PySem PySem.Spec PyProof.Rows L2

/-- nothing is raised here -/
def WF : WX := fun _ _ _ _ => False
def tEx (K : PySem.W.Frag) (P : Pg) (F : Fo) (G : Ga) (m : ME) : TE := fun σ H Q => ∃ φ, tE K P F (G.put φ) WF m σ H Q
def tC (K : PySem.W.Frag) (P : Pg) (F : Fo) (G : Ga) (c : Option MQ) : TT := fun σ H Q => ∃ φ B ρ v S b S1, Sim K (G.put φ) B ρ S H ∧ EnvR K G B ρ σ v ∧ evC P F c v S = some (b, S1) ∧ ∀ H' B' ρ', Le B ρ B' ρ' → Sim K (G.put φ) B' ρ' S1 H' → Q b H'
def tIx (K : PySem.W.Frag) (P : Pg) (F : Fo) (G : Ga) (m : MI) : TI := fun σ H R => ∃ φ, tI K P F (G.put φ) WF m σ H R
theorem _root_.L2.PT.imp {X : Cx} {e : Expr} {t t' : TT} (h : PT X e t) (k : ∀ σ H Q, t' σ H Q → t σ H Q) : PT X e t' := ⟨fun pins s σ H Q I q => h.run pins s σ H Q I (k σ H Q q)⟩
section
variable {P : Pg} {F : Fo} {G : Ga} {X : Cx} {W : WX} {a b c tg : Expr} {ma mb : ME} {q : MQ} {mi : MI} {p pos tpos : Pos} {elts : List Expr} {kk : Nat}
theorem ex_e (h : ∀ φ, PE X a (tE X.K P F (G.put φ) WF ma)) : PE X a (tEx X.K P F G ma) := ⟨fun pins s σ H Q I ⟨φ, q⟩ => (h φ).run pins s σ H Q I q⟩
theorem ex_i (h : ∀ φ, PI X tg a (tI X.K P F (G.put φ) WF mi)) : PI X tg a (tIx X.K P F G mi) := ⟨fun pins s σ H R I ⟨φ, q⟩ => (h φ).run pins s σ H R I q⟩
theorem c_none : PTs X [] (tC X.K P F G none) := ⟨fun pins s σ H Q I ⟨φ, B, ρ, v, S, b, S1, sim, er, e, k⟩ => by
  have e : some (true, S) = some (b, S1) := e
  cases e
  exact pts_nil.run pins s σ H Q I (k H B ρ Le.refl sim)⟩
theorem c_some (h : ∀ φ, PT X c (tQ X.K P F (G.put φ) WF q)) : PTs X [c] (tC X.K P F G (some q)) := pts_one ⟨fun pins s σ H Q I ⟨φ, B, ρ, v, S, b, S1, sim, er, e, k⟩ => (h φ).run pins s σ H Q I ⟨B, ρ, v, S, sim, er, by
  have e : (match evT P F q v S with
    | .ok b S1 => some (b, S1)
    | _ => none) = some (b, S1) := e
  cases e2 : evT P F q v S with
  | ok b' S' => rw [e2] at e; cases e; exact k
  | ex c fs S' => rw [e2] at e; cases e
  | bad => rw [e2] at e; cases e⟩⟩
/-- one turn of a comprehension -/
def stepLc (P : Pg) (F : Fo) (t : MT) (c : Option MQ) (e : ME) (v0 : Env) : D → Sto → Option (Option D × Sto) := fun x S2 => (match bindM S2 t x v0 with
      | some v' => (match evC P F c v' S2 with
        | some (true, S3) => (match ev P F e v' S3 with
          | .ok y S4 => some (some y, S4)
          | _ => none)
        | some (false, S3) => some (none, S3)
        | none => none)
      | none => none)
/-- a comprehension's turn: what holds of the new list at Da -/
structure LcAt (K : PySem.W.Frag) (G : Ga) (B0 : Hp) (ρ0 : List Addr) (Da : Addr) (B : Hp) (ρ : List Addr) (S : Sto) (H : Hp) (acc : List D) (vs : List V) : Prop where
  le : Le B0 ρ0 B ρ
  sim : Sim K (G.put (upd G.fr Da (.lst vs))) B ρ S H
  reps : Reps K G B ρ vs acc
  fr : G.fr Da = none
theorem LcAt.at {K : PySem.W.Frag} {G : Ga} {B0 B : Hp} {ρ0 ρ : List Addr} {Da : Addr} {S : Sto} {H : Hp} {acc : List D} {vs : List V} (h : LcAt K G B0 ρ0 Da B ρ S H acc vs) : H Da = some (.lst vs) := (h.sim.frm Da _ upd_same).1
/-- the reading of one turn behind the store of its target -/
theorem lc_turn {K : PySem.W.Frag} {mt : MT} {mc : Option MQ} {me : ME} {v0 : Env} {ws : List Nat} {g : List (Nat × List D)} {B0 : Hp} {ρ0 : List Addr} {Da : Addr} {x : V} {d : D} {σ0 : L2.St} {B : Hp} {ρ : List Addr} {S : Sto} {H : Hp} {acc : List D} {vs : List V} {rest : List D} {Q : R → Hp → List Addr → Prop} {N : Hp → Prop}
    (hsl : ∀ i ∈ slots mt, i ∈ ws) (hw : wipe σ0 ws = σ0)
    (h : LcAt K G B0 ρ0 Da B ρ S H acc vs) (er : EnvR K G B ρ σ0 v0) (rx : Rep K G B ρ x d)
    (hQ : Q (match stepLc P F mt mc me v0 d S with
      | some (some y, S') => if acc.length < LIM then lcL g (stepLc P F mt mc me v0) rest (acc ++ [y]) S' else .bad
      | some (none, S') => lcL g (stepLc P F mt mc me v0) rest acc S'
      | none => .bad) B ρ) (hbad : ∀ B ρ, ¬ Q .bad B ρ) (up : ∀ r B B' ρ ρ', Le B ρ B' ρ' → Q r B ρ → Q r B' ρ')
    (k : ∀ B' ρ' S' H' acc' vs', Le B ρ B' ρ' → LcAt K G B0 ρ0 Da B' ρ' S' H' acc' vs' → Q (lcL g (stepLc P F mt mc me v0) rest acc' S') B' ρ' → N H') :
    tG K G mt x σ0 H fun σ2 H2 => wipe σ2 ws = σ0 ∧ tC K P F G mc σ2 H2 fun b H3 => if b = true then tEx K P F G me σ2 H3 fun y H4 => ∃ acc, H4 Da = some (.lst acc) ∧ acc.length < sizeLine ∧ N (upd H4 Da (.lst (acc ++ [y]))) else N H3 := by
  unfold stepLc at hQ
  cases e1 : bindM S mt d v0 with
  | none => rw [e1] at hQ; exact (hbad _ _ hQ).elim
  | some v' =>
    rw [e1] at hQ
    refine ⟨_, B, ρ, v0, S, d, v', h.sim, er, rx, e1, fun σ' er' off => ⟨?_, ?_⟩⟩
    · rw [wipe_off (off.mono hsl), hw]
    · simp only at hQ
      cases e2 : evC P F mc v' S with
      | none => rw [e2] at hQ; exact (hbad _ _ hQ).elim
      | some p =>
        obtain ⟨b, S3⟩ := p
        rw [e2] at hQ
        refine ⟨_, B, ρ, v', S, b, S3, h.sim, er', e2, fun H3 B3 ρ3 le3 s3 => ?_⟩
        cases b with
        | false =>
          simp only at hQ
          rw [if_neg Bool.false_ne_true]
          exact k B3 ρ3 S3 H3 acc vs le3 ⟨h.le.trans le3, s3, h.reps.up le3, h.fr⟩ (up _ _ _ _ _ le3 hQ)
        | true =>
          simp only at hQ
          rw [if_pos rfl]
          refine ⟨_, B3, ρ3, v', S3, s3, er'.up le3, ?_⟩
          cases e3 : ev P F me v' S3 with
          | ok y S4 =>
            rw [e3] at hQ
            simp only at hQ
            by_cases hz : acc.length < LIM
            · rw [if_pos hz] at hQ
              intro u H4 B4 ρ4 le4 s4 ry
              have s4 : Sim K (G.put (upd G.fr Da (.lst vs))) B4 ρ4 S4 H4 := s4
              have ry : Rep K G B4 ρ4 u y := ry
              refine ⟨vs, (s4.frm Da _ upd_same).1, ?_, ?_⟩
              · rw [h.reps.length, ← LIM_eq]; exact hz
              · have le' := le3.trans le4
                exact k B4 ρ4 S4 _ (acc ++ [y]) (vs ++ [u]) le' ⟨h.le.trans le', s4.turn, (h.reps.up le').append (.cons ry .nil), h.fr⟩ (up _ _ _ _ _ le' hQ)
            · rw [if_neg hz] at hQ; exact (hbad _ _ hQ).elim
          | ex c fs S4 => rw [e3] at hQ; exact (hbad _ _ hQ).elim
          | bad => rw [e3] at hQ; exact (hbad _ _ hQ).elim
/-- all turns -/
theorem lc_loop {K : PySem.W.Frag} {mt : MT} {mc : Option MQ} {me : ME} {v0 : Env} {ws : List Nat} {g : List (Nat × List D)} {B1 : Hp} {ρ1 : List Addr} {Da : Addr} {σ0 : L2.St} {S1 : Sto} {H1 : Hp} {J : It} {xs : List D} {Qd : Hp → Prop} {Q : R → Hp → List Addr → Prop} {acc0 : List D} {vs0 : List V}
    (hsl : ∀ i ∈ slots mt, i ∈ ws) (hw : wipe σ0 ws = σ0) (wk : Wk K G B1 ρ1 J xs g) (er : EnvR K G B1 ρ1 σ0 v0)
    (h0 : LcAt K G B1 ρ1 Da B1 ρ1 S1 H1 acc0 vs0) (hQ : Q (lcL g (stepLc P F mt mc me v0) xs acc0 S1) B1 ρ1) (hbad : ∀ B ρ, ¬ Q .bad B ρ) (up : ∀ r B B' ρ ρ', Le B ρ B' ρ' → Q r B ρ → Q r B' ρ')
    (hd : ∀ B ρ S H acc vs, LcAt K G B1 ρ1 Da B ρ S H acc vs → guards g S = true → Q (.ok (.lst acc) S) B ρ → Qd H) :
    ∃ W : Nat → Nat → Hp → Prop, (∃ m, W 0 m H1) ∧ ∀ i m H, W i m H →
      (J.stop i H ∧ Qd H) ∨ (J.go i H ∧ ∃ Nx : Hp → Prop, (∀ H', Nx H' → ∃ m', m' < m ∧ W (i + 1) m' H') ∧ ∀ x H', J.yld i H x H' → tG K G mt x σ0 H' fun σ2 H2 => wipe σ2 ws = σ0 ∧ tC K P F G mc σ2 H2 fun b H3 =>
        if b = true then tEx K P F G me σ2 H3 fun y H4 => ∃ acc, H4 Da = some (.lst acc) ∧ acc.length < sizeLine ∧ Nx (upd H4 Da (.lst (acc ++ [y]))) else Nx H3) := by
  refine ⟨fun i m H => m = xs.length - i ∧ i ≤ xs.length ∧ ∃ B ρ S acc vs, LcAt K G B1 ρ1 Da B ρ S H acc vs ∧ Q (lcL g (stepLc P F mt mc me v0) (xs.drop i) acc S) B ρ, ⟨_, rfl, Nat.zero_le _, B1, ρ1, S1, acc0, vs0, h0, by simpa using hQ⟩, ?_⟩
  rintro i m H ⟨rfl, hi, B, ρ, S, acc, vs, h, q⟩
  by_cases hlt : i < xs.length
  · have e : xs.drop i = xs[i] :: xs.drop (i + 1) := List.drop_eq_getElem_cons hlt
    rw [e] at q
    have q : Q (if guards g S then (match stepLc P F mt mc me v0 xs[i] S with
      | some (some y, S') => if acc.length < LIM then lcL g (stepLc P F mt mc me v0) (xs.drop (i + 1)) (acc ++ [y]) S' else .bad
      | some (none, S') => lcL g (stepLc P F mt mc me v0) (xs.drop (i + 1)) acc S'
      | none => .bad) else .bad) B ρ := q
    by_cases hg : guards g S = true
    · rw [if_pos hg] at q
      refine .inr ⟨wk.go (FrL.upd h.fr) h.le h.sim hg hlt, fun H' => ∃ B ρ S acc vs, LcAt K G B1 ρ1 Da B ρ S H' acc vs ∧ Q (lcL g (stepLc P F mt mc me v0) (xs.drop (i + 1)) acc S) B ρ, fun H' q' => ⟨_, by omega, rfl, hlt, q'⟩, fun x H' y => ?_⟩
      obtain ⟨B2, ρ2, le2, s2, rx⟩ := wk.yld (FrL.upd h.fr) h.le h.sim hg (List.getElem?_eq_getElem hlt) y
      have h2 : LcAt K G B1 ρ1 Da B2 ρ2 S H' acc vs := ⟨h.le.trans le2, s2, h.reps.up le2, h.fr⟩
      exact lc_turn hsl hw h2 (er.up h2.le) rx (up _ _ _ _ _ le2 q) hbad up fun B' ρ' S' H' acc' vs' _ hl hq => ⟨B', ρ', S', acc', vs', hl, hq⟩
    · rw [if_neg hg] at q; exact (hbad _ _ q).elim
  · have e : i = xs.length := by omega
    subst e
    rw [List.drop_length] at q
    have q : Q (if guards g S then .ok (.lst acc) S else .bad) B ρ := q
    by_cases hg : guards g S = true
    · rw [if_pos hg] at q
      exact .inl ⟨wk.stop (FrL.upd h.fr) h.le h.sim hg, hd B ρ S H acc vs h hg q⟩
    · rw [if_neg hg] at q; exact (hbad _ _ q).elim
/-- [e for t in it if ..] -/
theorem lc_read {mt : MT} {mc : Option MQ} {me : ME} {ws : List Nat} {σ : L2.St} {H : Hp} {K : PySem.W.Frag} {Q : VK} {f : D → Sto → R} {Qn : VK} (hsl : ∀ i ∈ slots mt, i ∈ ws)
    (hm : ∃ B ρ v S, Sim K G B ρ S H ∧ EnvR K G B ρ σ v ∧ Aft K G (fun c d => W c d σ) B ρ (bind1 (ev P F (.lc me mt mi mc ws) v S) f) Q)
    (k : ∀ B ρ S H acc vs D, Sim K (G.put (upd G.fr D (.lst vs))) B ρ S H → (∃ v, EnvR K G B ρ σ v) → Reps K G B ρ vs acc → G.fr D = none → Aft K G (fun c d => W c d σ) B ρ (f (.lst acc) S) Q → Qn (.ref D) H) :
    tLc (tI K P F G W mi) (tG K G mt) (tC K P F G mc) (tEx K P F G me) ws σ H Qn := by
  obtain ⟨B, ρ, v, S, sim, er, af⟩ := hm
  have af : Aft K G (fun c d => W c d σ) B ρ (bind1 (match evI P F mi v S with
    | .ok xs g S1 => lcL g (stepLc P F mt mc me (wipeE v ws)) xs [] S1
    | .ex e fs S1 => .ex e fs S1
    | .bad => .bad) f) Q := af
  refine ⟨B, ρ, v, S, sim, er, ?_⟩
  cases e1 : evI P F mi v S with
  | ok xs g S1 =>
    rw [e1] at af
    intro J H1 B1 ρ1 le1 s1 wk D hD
    obtain ⟨hf, s2⟩ := s1.beside (o := .lst []) hD
    refine lc_loop (Q := fun r B' ρ' => Aft K G (fun c d => W c d σ) B' ρ' (bind1 r f) Q) (acc0 := []) (vs0 := []) hsl wipe_wipe wk ((er.up le1).wipe ws) ⟨Le.refl, s2, .nil, hf⟩ (Aft.up af le1) (fun B ρ h => h) (fun r B B' ρ ρ' le h => Aft.up h le) fun B' ρ' S' H' acc vs h hg q => ?_
    exact k B' ρ' S' H' acc vs D h.sim ⟨v, er.up (le1.trans h.le)⟩ h.reps hf q
  | ex c fs S1 => rw [e1] at af; exact af
  | bad => rw [e1] at af; exact af
end
section
variable {P : Pg} {F : Fo} {G : Ga} {X : Cx} {W : WX} {elt tg iter : Expr} {ifs : List Expr} {scope : Scope} {own : List (Str × Nat)} {me : ME} {mt : MT} {mi : MI} {mc : Option MQ} {pos : Pos}
theorem s_lc (hc : X.calm = true) (hN : X.N.Nodup) (hi : PI X tg iter (tI X.K P F G W mi)) (ok : BlkOk X.N X.env.scope scope own) (hsl : ∀ i ∈ slots mt, i ∈ own.map (·.2))
    (hg : ∀ (s : Shared) (H : Hp) (C : Addr) (cl : List (Str × Addr)) (fp : List Addr), PG (X.blk s H scope (compEnvC scope cl C X.env) fp) tg (tG X.K G mt))
    (ht : ∀ (s : Shared) (H : Hp) (C : Addr) (cl : List (Str × Addr)) (fp : List Addr), PTs (X.blk s H scope (compEnvC scope cl C X.env) fp) ifs (tC X.K P F G mc))
    (he : ∀ (s : Shared) (H : Hp) (C : Addr) (cl : List (Str × Addr)) (fp : List Addr), PE (X.blk s H scope (compEnvC scope cl C X.env) fp) elt (tEx X.K P F G me)) (hs : ∀ x, foldedSetIterable iter X.env x = pure x) :
    PE X (.ListComp elt [⟨tg, iter, ifs, 0⟩] scope pos) (tE X.K P F G W (.lc me mt mi mc (own.map (·.2)))) :=
  (pe_lc hc hN hi ok hg ht he hs).imp fun σ H Q ⟨B, ρ, v, S, sim, er, af⟩ => lc_read hsl (f := fun d S => .ok d S) ⟨B, ρ, v, S, sim, er, by rw [bind1_ok]; exact af⟩ fun B ρ S H acc vs D s _ r hf q => by
    obtain ⟨s', le⟩ := s.adopt hf
    exact q _ H _ ρ le s' (.lst upd_same (r.up le))
end
end Mi
end
section
set_option autoImplicit false
set_option linter.all false
set_option maxRecDepth 100000
/-! Mi14: comprehensions of two clauses, lists that will change, dict displays -/
namespace Mi
open PySem PySem.Spec PyProof.Rows L2

theorem Wk.re {K : PySem.W.Frag} {G : Ga} {φ : Hp} {B : Hp} {ρ : List Addr} {J : It} {xs : List D} {g : List (Nat × List D)} (w : Wk K (G.put φ) B ρ J xs g) (h : ∀ a o u, φ a = some (.frz o u) → G.fr a = some (.frz o u)) : Wk K G B ρ J xs g :=
  ⟨fun fl => w.go (φ := _) fun a o u e => fl a o u (h a o u e), fun fl => w.stop fun a o u e => fl a o u (h a o u e), fun fl => w.yld fun a o u e => fl a o u (h a o u e)⟩
theorem upd_lst_frz {φ : Hp} {p : Addr} {vs : List V} {a : Addr} {o : Obj} {u : HO} (e : upd φ p (.lst vs) a = some (.frz o u)) : φ a = some (.frz o u) := by
  by_cases h : a = p
  · subst h; rw [upd_same] at e; cases e
  · rw [upd_ne h] at e; exact e
section
variable {P : Pg} {F : Fo} {G : Ga} {X : Cx} {W : WX}
/-- one turn of the first clause -/
def stepLc2 (P : Pg) (F : Fo) (e : ME) (t : MT) (c : Option MQ) (t1 : MT) (it1 : MI) (c1 : Option MQ) (v0 : Env) (ws1 : List Nat) : D → List D → Sto → R := fun x acc S2 => (match bindM S2 t x v0 with
      | some v' => (match evC P F c v' S2 with
        | some (true, S3) => (match evI P F it1 v' S3 with
          | .ok ys g1 S4 => lcL g1 (stepLc P F t1 c1 e (wipeE v' ws1)) ys acc S4
          | _ => .bad)
        | some (false, S3) => .ok (.lst acc) S3
        | none => .bad)
      | none => .bad)
theorem lc2_loop {K : PySem.W.Frag} {mt mt1 : MT} {mi1 : MI} {mc mc1 : Option MQ} {me : ME} {v0 : Env} {ws ws1 : List Nat} {g : List (Nat × List D)} {B1 : Hp} {ρ1 : List Addr} {Da : Addr} {σ0 : L2.St} {S1 : Sto} {H1 : Hp} {J : It} {xs : List D} {Qd : Hp → Prop} {Q : R → Hp → List Addr → Prop} {acc0 : List D} {vs0 : List V}
    (hsl : ∀ i ∈ slots mt, i ∈ ws) (hsl1 : ∀ i ∈ slots mt1, i ∈ ws1) (hw : wipe σ0 ws = σ0) (wk : Wk K G B1 ρ1 J xs g) (er : EnvR K G B1 ρ1 σ0 v0)
    (h0 : LcAt K G B1 ρ1 Da B1 ρ1 S1 H1 acc0 vs0) (hQ : Q (lcL2 g (stepLc2 P F me mt mc mt1 mi1 mc1 v0 ws1) xs acc0 S1) B1 ρ1) (hbad : ∀ B ρ, ¬ Q .bad B ρ) (up : ∀ r B B' ρ ρ', Le B ρ B' ρ' → Q r B ρ → Q r B' ρ')
    (hd : ∀ B ρ S H acc vs, LcAt K G B1 ρ1 Da B ρ S H acc vs → Q (.ok (.lst acc) S) B ρ → Qd H) :
    ∃ W : Nat → Nat → Hp → Prop, (∃ m, W 0 m H1) ∧ ∀ i m H, W i m H →
      (J.stop i H ∧ Qd H) ∨ (J.go i H ∧ ∃ Nx : Hp → Prop, (∀ H', Nx H' → ∃ m', m' < m ∧ W (i + 1) m' H') ∧ ∀ x H', J.yld i H x H' → tG K G mt x σ0 H' fun σ2 H2 => wipe σ2 ws = σ0 ∧ tC K P F G mc σ2 H2 fun b H3 =>
        if b = true then tIx K P F G mi1 σ2 H3 fun J1 H4 => ∃ W1 : Nat → Nat → Hp → Prop, (∃ m, W1 0 m H4) ∧ ∀ j k H, W1 j k H →
          (J1.stop j H ∧ Nx H) ∨ (J1.go j H ∧ ∃ Nx1 : Hp → Prop, (∀ H', Nx1 H' → ∃ k', k' < k ∧ W1 (j + 1) k' H') ∧ ∀ x H', J1.yld j H x H' → tG K G mt1 x (wipe σ2 ws1) H' fun σ3 H5 => wipe σ3 ws1 = wipe σ2 ws1 ∧ tC K P F G mc1 σ3 H5 fun b H6 =>
            if b = true then tEx K P F G me σ3 H6 fun y H7 => ∃ acc, H7 Da = some (.lst acc) ∧ acc.length < sizeLine ∧ Nx1 (upd H7 Da (.lst (acc ++ [y]))) else Nx1 H6) else Nx H3) := by
  refine ⟨fun i m H => m = xs.length - i ∧ i ≤ xs.length ∧ ∃ B ρ S acc vs, LcAt K G B1 ρ1 Da B ρ S H acc vs ∧ Q (lcL2 g (stepLc2 P F me mt mc mt1 mi1 mc1 v0 ws1) (xs.drop i) acc S) B ρ, ⟨_, rfl, Nat.zero_le _, B1, ρ1, S1, acc0, vs0, h0, by simpa using hQ⟩, ?_⟩
  rintro i m H ⟨rfl, hi, B, ρ, S, acc, vs, h, q⟩
  by_cases hlt : i < xs.length
  · have e : xs.drop i = xs[i] :: xs.drop (i + 1) := List.drop_eq_getElem_cons hlt
    rw [e] at q
    have q : Q (if guards g S then (match stepLc2 P F me mt mc mt1 mi1 mc1 v0 ws1 xs[i] acc S with
      | .ok (.lst acc') S' => lcL2 g (stepLc2 P F me mt mc mt1 mi1 mc1 v0 ws1) (xs.drop (i + 1)) acc' S'
      | _ => .bad) else .bad) B ρ := q
    by_cases hg : guards g S = true
    · rw [if_pos hg] at q
      refine .inr ⟨wk.go (FrL.upd h.fr) h.le h.sim hg hlt, fun H' => ∃ B ρ S acc vs, LcAt K G B1 ρ1 Da B ρ S H' acc vs ∧ Q (lcL2 g (stepLc2 P F me mt mc mt1 mi1 mc1 v0 ws1) (xs.drop (i + 1)) acc S) B ρ, fun H' q' => ⟨_, by omega, rfl, hlt, q'⟩, fun x H' y => ?_⟩
      obtain ⟨B2, ρ2, le2, s2, rx⟩ := wk.yld (FrL.upd h.fr) h.le h.sim hg (List.getElem?_eq_getElem hlt) y
      have q := up _ _ _ _ _ le2 q
      have h2 : LcAt K G B1 ρ1 Da B2 ρ2 S H' acc vs := ⟨h.le.trans le2, s2, h.reps.up le2, h.fr⟩
      have er2 := er.up h2.le
      unfold stepLc2 at q
      cases e1 : bindM S mt xs[i] v0 with
      | none => rw [e1] at q; exact (hbad _ _ q).elim
      | some v' =>
        rw [e1] at q
        refine ⟨_, B2, ρ2, v0, S, xs[i], v', h2.sim, er2, rx, e1, fun σ' er' off => ⟨by rw [wipe_off (off.mono hsl), hw], ?_⟩⟩
        simp only at q
        cases e2 : evC P F mc v' S with
        | none => rw [e2] at q; exact (hbad _ _ q).elim
        | some p =>
          obtain ⟨b, S3⟩ := p
          rw [e2] at q
          refine ⟨_, B2, ρ2, v', S, b, S3, h2.sim, er', e2, fun H3 B3 ρ3 le3 s3 => ?_⟩
          cases b with
          | false =>
            simp only at q
            rw [if_neg Bool.false_ne_true]
            exact ⟨B3, ρ3, S3, acc, vs, ⟨h2.le.trans le3, s3, h2.reps.up le3, h.fr⟩, up _ _ _ _ _ le3 q⟩
          | true =>
            simp only at q
            rw [if_pos rfl]
            refine ⟨_, B3, ρ3, v', S3, s3, er'.up le3, ?_⟩
            cases e3 : evI P F mi1 v' S3 with
            | ok ys g1 S4 =>
              rw [e3] at q
              simp only at q
              intro J1 H4 B4 ρ4 le4 s4 wk1
              have le' := le3.trans le4
              refine lc_loop (Q := fun r B ρ => Q (match r with
                | .ok (.lst acc') S' => lcL2 g (stepLc2 P F me mt mc mt1 mi1 mc1 v0 ws1) (xs.drop (i + 1)) acc' S'
                | _ => .bad) B ρ) (acc0 := acc) (vs0 := vs) hsl1 wipe_wipe (wk1.re fun _ _ _ e => upd_lst_frz e) ((er'.up le').wipe ws1) ⟨Le.refl, s4, h2.reps.up le', h.fr⟩ (up _ _ _ _ _ le' q) (fun B ρ h => hbad B ρ h) (fun r B B' ρ ρ' le h => up _ _ _ _ _ le h) fun B5 ρ5 S5 H5 acc5 vs5 h5 _ q5 => ?_
              exact ⟨B5, ρ5, S5, acc5, vs5, ⟨(h2.le.trans le').trans h5.le, h5.sim, h5.reps, h.fr⟩, q5⟩
            | ex c fs S4 => rw [e3] at q; exact (hbad _ _ q).elim
            | bad => rw [e3] at q; exact (hbad _ _ q).elim
    · rw [if_neg hg] at q; exact (hbad _ _ q).elim
  · have e : i = xs.length := by omega
    subst e
    rw [List.drop_length] at q
    have q : Q (if guards g S then .ok (.lst acc) S else .bad) B ρ := q
    by_cases hg : guards g S = true
    · rw [if_pos hg] at q
      exact .inl ⟨wk.stop (FrL.upd h.fr) h.le h.sim hg, hd B ρ S H acc vs h q⟩
    · rw [if_neg hg] at q; exact (hbad _ _ q).elim
theorem lc2_read {mt mt1 : MT} {mi mi1 : MI} {mc mc1 : Option MQ} {me : ME} {ws ws1 : List Nat} {σ : L2.St} {H : Hp} {K : PySem.W.Frag} {Q : VK} {f : D → Sto → R} {Qn : VK} (hsl : ∀ i ∈ slots mt, i ∈ ws) (hsl1 : ∀ i ∈ slots mt1, i ∈ ws1)
    (hm : ∃ B ρ v S, Sim K G B ρ S H ∧ EnvR K G B ρ σ v ∧ Aft K G (fun c d => W c d σ) B ρ (bind1 (ev P F (.lc2 me mt mi mc mt1 mi1 mc1 ws ws1) v S) f) Q)
    (k : ∀ B ρ S H acc vs D, Sim K (G.put (upd G.fr D (.lst vs))) B ρ S H → (∃ v, EnvR K G B ρ σ v) → Reps K G B ρ vs acc → G.fr D = none → Aft K G (fun c d => W c d σ) B ρ (f (.lst acc) S) Q → Qn (.ref D) H) :
    tLc2 (tI K P F G W mi) (tG K G mt) (tC K P F G mc) (tIx K P F G mi1) (tG K G mt1) (tC K P F G mc1) (tEx K P F G me) ws ws1 σ H Qn := by
  obtain ⟨B, ρ, v, S, sim, er, af⟩ := hm
  have af : Aft K G (fun c d => W c d σ) B ρ (bind1 (match evI P F mi v S with
    | .ok xs g S1 => lcL2 g (stepLc2 P F me mt mc mt1 mi1 mc1 (wipeE v ws) ws1) xs [] S1
    | .ex e fs S1 => .ex e fs S1
    | .bad => .bad) f) Q := af
  refine ⟨B, ρ, v, S, sim, er, ?_⟩
  cases e1 : evI P F mi v S with
  | ok xs g S1 =>
    rw [e1] at af
    intro J H1 B1 ρ1 le1 s1 wk D hD
    obtain ⟨hf, s2⟩ := s1.beside (o := .lst []) hD
    refine lc2_loop (Q := fun r B' ρ' => Aft K G (fun c d => W c d σ) B' ρ' (bind1 r f) Q) (acc0 := []) (vs0 := []) hsl hsl1 wipe_wipe wk ((er.up le1).wipe ws) ⟨Le.refl, s2, .nil, hf⟩ (Aft.up af le1) (fun B ρ h => h) (fun r B B' ρ ρ' le h => Aft.up h le) fun B' ρ' S' H' acc vs h q => ?_
    exact k B' ρ' S' H' acc vs D h.sim ⟨v, er.up (le1.trans h.le)⟩ h.reps hf q
  | ex c fs S1 => rw [e1] at af; exact af
  | bad => rw [e1] at af; exact af
end
section
variable {P : Pg} {F : Fo} {G : Ga} {X : Cx} {W : WX} {elt tg iter tg1 iter1 : Expr} {ifs ifs1 : List Expr} {scope : Scope} {own : List (Str × Nat)} {me : ME} {mt mt1 : MT} {mi mi1 : MI} {mc mc1 : Option MQ} {pos : Pos} {ws1 : List Nat}
theorem s_lc2 (hc : X.calm = true) (hN : X.N.Nodup) (hi : PI X tg iter (tI X.K P F G W mi)) (ok : BlkOk X.N X.env.scope scope own) (hv : ∀ i ∈ ws1, i ∈ own.map (·.2)) (hsl : ∀ i ∈ slots mt, i ∈ own.map (·.2)) (hsl1 : ∀ i ∈ slots mt1, i ∈ ws1)
    (hg : ∀ (s : Shared) (H : Hp) (C : Addr) (cl : List (Str × Addr)) (fp : List Addr), PG (X.blk s H scope (compEnvC scope cl C X.env) fp) tg (tG X.K G mt))
    (ht : ∀ (s : Shared) (H : Hp) (C : Addr) (cl : List (Str × Addr)) (fp : List Addr), PTs (X.blk s H scope (compEnvC scope cl C X.env) fp) ifs (tC X.K P F G mc))
    (hi1 : ∀ (s : Shared) (H : Hp) (C : Addr) (cl : List (Str × Addr)) (fp : List Addr), PI (X.blk s H scope (compEnvC scope cl C X.env) fp) tg1 iter1 (tIx X.K P F G mi1))
    (hg1 : ∀ (s : Shared) (H : Hp) (C : Addr) (cl : List (Str × Addr)) (fp : List Addr), PG (X.blk s H scope (compEnvC scope cl C X.env) fp) tg1 (tG X.K G mt1))
    (ht1 : ∀ (s : Shared) (H : Hp) (C : Addr) (cl : List (Str × Addr)) (fp : List Addr), PTs (X.blk s H scope (compEnvC scope cl C X.env) fp) ifs1 (tC X.K P F G mc1))
    (he : ∀ (s : Shared) (H : Hp) (C : Addr) (cl : List (Str × Addr)) (fp : List Addr), PE (X.blk s H scope (compEnvC scope cl C X.env) fp) elt (tEx X.K P F G me)) (hs : ∀ x, foldedSetIterable iter X.env x = pure x) (hs1 : ∀ env x, foldedSetIterable iter1 env x = pure x) :
    PE X (.ListComp elt [⟨tg, iter, ifs, 0⟩, ⟨tg1, iter1, ifs1, 0⟩] scope pos) (tE X.K P F G W (.lc2 me mt mi mc mt1 mi1 mc1 (own.map (·.2)) ws1)) :=
  (pe_lc2 hc hN hi ok hv hg ht hi1 hg1 ht1 he hs hs1).imp fun σ H Q ⟨B, ρ, v, S, sim, er, af⟩ => lc2_read hsl hsl1 (f := fun d S => .ok d S) ⟨B, ρ, v, S, sim, er, by rw [bind1_ok]; exact af⟩ fun B ρ S H acc vs D s _ r hf q => by
    obtain ⟨s', le⟩ := s.adopt hf
    exact q _ H _ ρ le s' (.lst upd_same (r.up le))
end
end Mi
end
section
set_option autoImplicit false
set_option linter.all false
set_option maxRecDepth 100000
/-! Mi15: methods of built-in types, lists that will change, dict displays, built-ins by name -/
namespace Mi
open PySem PySem.Spec PyProof.Rows L2

def kiT : Ki → String
  | .lst => "list" | .dct => "dict" | .str => "str"
def bmN : Bmt → Str
  | .append => "append" | .extend => "extend" | .pop => "pop" | .index => "index" | .count => "count" | .get => "get" | .keys => "keys" | .values => "values" | .items => "items" | .join => "join" | .split => "split" | .insert => "insert"
def bmId : Ki → Bmt → String
  | .lst, .append => "list.append"
  | .lst, .extend => "list.extend"
  | .lst, .insert => "list.insert"
  | .lst, .pop => "list.pop"
  | .lst, .index => "list.index"
  | .dct, .get => "dict.get"
  | .str, .join => "str.join"
  | .str, .split => "str.split"
  | _, _ => ""
def bmOk (k : Ki) (m : Bmt) : Prop := PlainAttrs (kiT k) ∧ Slot (kiT k) (bmN m) (bmId k m) ∧ typeOf (.builtin (bmId k m)) = pure (.type "method_descriptor")
theorem bm_ok {k : Ki} {m : Bmt} (e : bmOkB k m = true) : bmOk k m := by
  unfold bmOkB at e
  split at e
  · exact ⟨PySem.F.plainAttrs_list, PySem.F.slot_list_append, PySem.F.type_list_append⟩
  · exact ⟨PySem.F.plainAttrs_list, PySem.F.slot_list_extend, PySem.F.type_list_extend⟩
  · exact ⟨PySem.F.plainAttrs_list, PySem.F.slot_list_insert, PySem.F.type_list_insert⟩
  · exact ⟨PySem.F.plainAttrs_list, PySem.F.slot_list_pop, PySem.F.type_list_pop⟩
  · exact ⟨PySem.F.plainAttrs_list, PySem.F.slot_list_index, PySem.F.type_list_index⟩
  · exact ⟨PySem.F.plainAttrs_dict, PySem.F.slot_dict_get, PySem.F.type_dict_get⟩
  · exact ⟨PySem.F.plainAttrs_str, PySem.F.slot_str_join, PySem.F.type_str_join⟩
  · exact ⟨PySem.F.plainAttrs_str, PySem.F.slot_str_split, PySem.F.type_str_split⟩
  · cases e
section
variable {K : PySem.W.Frag} {G : Ga} {B : Hp} {ρ : List Addr} {S : Sto} {H : Hp} {x : V} {a : D}
theorem ki_ty {X : Cx} (sim : Sim X.K G B ρ S H) (ra : Rep X.K G B ρ x a) {k : Ki} (e : kiD S a = some k) : tyV X.K (kiT k) x H ∨ (k = .dct ∧ ∃ p ks, x = .ref p ∧ DnH G.w H p ks) := by
  unfold kiD at e
  split at e
  · cases e
    cases ra with
    | lst h r => exact .inl (.inl ⟨rfl, _, SqL.of (sim.sub _ _ h)⟩)
  · cases e
    rw [ra.str_inv]; exact .inl rfl
  · cases e
    obtain ⟨p, kv, rfl, hk, _⟩ := ra.dct_inv
    exact .inl (.inr (.inr (.inl ⟨rfl, .inl ⟨_, sim.sub _ _ hk⟩⟩)))
  · split at e
    · rename_i hs; cases e
      obtain ⟨p, vs, rfl, _, hp, _⟩ := loc_lst sim ra hs
      exact .inl (.inl ⟨rfl, _, SqL.of hp⟩)
    · rename_i hs; cases e
      obtain ⟨p, kv, rfl, _, hp, _⟩ := loc_dk sim ra hs
      exact .inl (.inr (.inr (.inl ⟨rfl, .inl ⟨_, hp⟩⟩)))
    · rename_i hs; cases e
      obtain ⟨p, ks, rfl, _, hp, _⟩ := loc_dn sim ra hs
      exact .inr ⟨rfl, p, ks, rfl, hp⟩
    · cases e
  · cases e
theorem ki_is {X : Cx} {pins : List (Addr × Obj)} {σ : L2.St} {s : Shared} {u : Value} (hw : G.w = X.w) (I : Inv X pins σ H s) (rx : RelV x u) (sim : Sim X.K G B ρ S H) (ra : Rep X.K G B ρ x a) {k : Ki} (e : kiD S a = some k) :
    s.TypeIs u (kiT k) ∧ ∀ a, u = .ref a → ∃ ob, s.heap.get? a = some ob ∧ ob.dict = none := by
  rcases ki_ty sim ra e with h | ⟨rfl, p, ks, rfl, h⟩
  · exact tyV_is I rx h
  · cases rx
    rw [hw] at h
    exact ⟨n_typeIs I h, n_noDict I h⟩
theorem Reps.strsD : ∀ {vs : List V} {ds : List D} {ys : List Str}, Reps K G B ρ vs ds → strsD ds = some ys → vs = ys.map V.str
  | _, _, _, .nil, e => by cases e; rfl
  | _, _, _, .cons (d := d) h r, e => by
    cases d with
    | str i =>
      cases h
      simp only [Mi.strsD, Option.map_eq_some_iff] at e
      obtain ⟨l, q, rfl⟩ := e
      rw [Reps.strsD r q]; rfl
    | _ => simp [Mi.strsD] at e
theorem reps_strs : ∀ (ys : List Str), Reps K G B ρ (ys.map V.str) (ys.map D.str)
  | [] => .nil
  | y :: ys => .cons (.str y) (reps_strs ys)
theorem Reps.dropLast : ∀ {vs : List V} {ds : List D}, Reps K G B ρ vs ds → Reps K G B ρ vs.dropLast ds.dropLast
  | _, _, .nil => .nil
  | _, _, .cons h .nil => .nil
  | _, _, .cons h (.cons h2 r) => .cons h (Reps.dropLast (.cons h2 r))
theorem Reps.eraseIdx : ∀ {vs : List V} {ds : List D} (k : Nat), Reps K G B ρ vs ds → Reps K G B ρ (vs.eraseIdx k) (ds.eraseIdx k)
  | _, _, _, .nil => .nil
  | _, _, 0, .cons h r => r
  | _, _, k + 1, .cons h r => .cons h (Reps.eraseIdx k r)
theorem idxOf_spec {p : PyData} : ∀ {ps : List PyData} {j : Nat}, idxOfD p ps = some j → ∃ z, ps[j]? = some z ∧ PyData.eqv z p = true ∧ ∀ (m : Nat) (z' : PyData), m < j → ps[m]? = some z' → PyData.eqv z' p = false
  | [], _, e => by cases e
  | q :: r, j, e => by
    unfold idxOfD at e
    by_cases h : PyData.eqv q p = true
    · rw [if_pos h] at e
      cases e
      exact ⟨q, rfl, h, fun m z' hm => absurd hm (Nat.not_lt_zero _)⟩
    · rw [if_neg h] at e
      obtain ⟨i, e1, rfl⟩ := Option.map_eq_some_iff.mp e
      obtain ⟨z, h1, h2, h3⟩ := idxOf_spec e1
      refine ⟨z, h1, h2, fun m z' hm hz => ?_⟩
      cases m with
      | zero => cases hz; simpa using h
      | succ m => exact h3 m z' (by omega) hz
end
section
variable {X : Cx} {pins : List (Addr × Obj)} {σ : L2.St} {H : Hp} {s : Shared} {G : Ga} {B : Hp} {ρ : List Addr} {S S' : Sto} {x : V} {u : Value} {a d : D} {Q : VK}
theorem put_list {K : PySem.W.Frag} {l : Nat} {p : Addr} {ds : List D} {vs ws : List V} (sim : Sim K G B ρ S H) (hp : ρ[l]? = some p) (hl : H p = some (.lst ws)) (r : Reps K G B ρ vs ds) : Sim K G B ρ (S.set l (.lst ds)) (upd H p (.lst vs)) := sim.put hp (fun _ _ z => by rw [hl] at z; cases z) ⟨vs, upd_same, r⟩
theorem o_bmt (hw : G.w = X.w) (hu : X.A.units + 100 < cLine) {k : Ki} {m : Bmt} {us : List Value} {xs : List V} {ds : List D} (I : Inv X pins σ H s) (sim : Sim X.K G B ρ S H) (rx : RelV x u) (ra : Rep X.K G B ρ x a) (r : Vals xs us) (rp : Reps X.K G B ρ xs ds) (e : bmtD S k m a ds = some (d, S')) (q : Post X.K G B ρ S' d Q) :
    wpAny (model X.prog X.w) X.A (call (.builtin (bmId k m)) (u :: us)) (EP X pins σ Q) X.xe s := by
  unfold bmtD at e
  split at e
  · obtain ⟨y, rfl, ry⟩ := reps1 rp
    split at e
    · rename_i ys hs
      split at e
      · rename_i hz; cases e
        obtain ⟨p, vs, rfl, hp, hl, rr⟩ := loc_lst sim ra hs
        exact mt_append pins s σ H _ _ u us Q I rx r ⟨p, vs, y, rfl, rfl, hl, by rw [rr.length, ← LIM_eq]; exact hz, q.here (put_list sim hp hl (rr.append (.cons ry .nil))) .non⟩
      · cases e
    · cases e
  · obtain ⟨y, rfl, ry⟩ := reps1 rp
    split at e
    · rename_i ys zs hs hy
      split at e
      · rename_i hz; cases e
        obtain ⟨p, vs, rfl, hp, hl, rr⟩ := loc_lst sim ra hs
        obtain ⟨p2, ws, rfl, hl2, rr2⟩ := ls_of sim ry hy
        exact mt_extend pins s σ H _ _ u us Q I rx r ⟨p, p2, vs, ws, rfl, rfl, hl, hl2, by rw [rr.length, rr2.length, ← LIM_eq]; exact hz, q.here (put_list sim hp hl (rr.append rr2)) .non⟩
      · cases e
    · cases e
  · obtain ⟨i, y, rfl, ri, ry⟩ := reps2 rp
    rw [ri.int_inv] at r
    split at e
    · rename_i ys hs
      split at e
      · rename_i hz; cases e
        simp only [Bool.and_eq_true, decide_eq_true_eq] at hz
        obtain ⟨p, vs, rfl, hp, hl, rr⟩ := loc_lst sim ra hs
        exact mt_insert pins s σ H _ _ u us Q I rx r ⟨p, vs, _, y, rfl, rfl, hl, by rw [rr.length, ← LIM_eq]; exact hz.1, hz.2.1, hz.2.2, q.here (put_list sim hp hl (((rr.take _).append (.cons ry .nil)).append (rr.drop _))) .non⟩
      · cases e
    · cases e
  · cases rp
    split at e
    · rename_i ys hs
      split at e
      · rename_i y hy; cases e
        obtain ⟨p, vs, rfl, hp, hl, rr⟩ := loc_lst sim ra hs
        rw [← rr.length] at hy
        obtain ⟨v, h1, h2⟩ := rr.get hy
        exact mt_pop pins s σ H _ _ u us Q I rx r ⟨p, vs, v, rfl, rfl, hl, h1, q.here (put_list sim hp hl rr.dropLast) h2⟩
      · cases e
    · cases e
  · obtain ⟨i, rfl, ri⟩ := reps1 rp
    rw [ri.int_inv] at r
    split at e
    · rename_i ys hs
      split at e
      · rename_i j hj
        split at e
        · rename_i y hy
          split at e
          · rename_i hz; cases e
            simp only [Bool.and_eq_true, decide_eq_true_eq] at hz
            obtain ⟨p, vs, rfl, hp, hl, rr⟩ := loc_lst sim ra hs
            obtain ⟨v, h1, h2⟩ := rr.get hy
            rw [← rr.length] at hj
            exact mt_popAt pins s σ H _ _ u us Q I rx r ⟨p, vs, _, j, v, rfl, rfl, hl, by omega, by omega, (ixN_seq hj).1, h1, q.here (put_list sim hp hl (rr.eraseIdx j)) h2⟩
          · cases e
        · cases e
      · cases e
    · cases e
  · obtain ⟨y, rfl, ry⟩ := reps1 rp
    split at e
    · rename_i ps p h1 h2
      split at e
      · rename_i hz
        simp only [Bool.and_eq_true] at hz
        obtain ⟨j, h3, h4⟩ := Option.map_eq_some_iff.mp e
        cases h4
        obtain ⟨z, g1, g2, g3⟩ := idxOf_spec h3
        have dx := der_dp sim ra h1
        have hx : ∃ p, x = .ref p := by cases dx; exact ⟨_, rfl⟩
        obtain ⟨p0, rfl⟩ := hx
        exact mt_indexD (by omega) pins s σ H _ _ u us Q I rx r ⟨p0, y, p, ps, j, z, rfl, rfl, dx, der_dp sim ry h2, hz.1, hz.2, g1, g2, g3, q.here sim (.int _)⟩
      · cases e
    · cases e
  · obtain ⟨y, w, rfl, ry, rw'⟩ := reps2 rp
    split at e
    · rename_i kd hs
      obtain ⟨k', hk, e⟩ := Option.map_eq_some_iff.mp e
      cases e
      obtain ⟨p, kv, rfl, _, hl, rk⟩ := loc_dk sim ra hs
      cases rx
      have ey := toKey_inv ry hk
      subst ey
      obtain ⟨u1, u2, rfl, r1, r2⟩ := vals2 r
      obtain ⟨n1, n2⟩ := rk.look (k := k')
      refine d_get2 (by omega) I (DGet.k (k := k') hl) r1 r2 fun w' s' I' r' => ⟨_, H, I', r', ?_⟩
      cases eq : lookK k' kd with
      | none =>
        rw [n1 eq]
        rw [eq] at q
        exact q.here sim rw'
      | some dd =>
        obtain ⟨v, h1, h2⟩ := n2 dd eq
        rw [h1]
        rw [eq] at q
        exact q.here sim h2
    · rename_i z kd hs
      obtain ⟨k', hk, e⟩ := Option.map_eq_some_iff.mp e
      cases e
      obtain ⟨p, ks, rfl, _, hl, rk⟩ := loc_dn sim ra hs
      cases rx
      obtain ⟨b, rfl, hb⟩ := tk_is I sim.sub ry hk
      obtain ⟨u1, u2, rfl, r1, r2⟩ := vals2 r
      cases r1
      obtain ⟨n1, n2⟩ := rk.look (k := k')
      refine n_get2 (by omega) I (by rw [← hw]; exact hl) (rk.keys I sim.sub) hb r2 fun w' s' I' r' => ⟨_, H, I', r', ?_⟩
      cases eq : lookT k' kd with
      | none =>
        rw [n1 eq]
        rw [eq] at q
        exact q.here sim rw'
      | some dd =>
        obtain ⟨v, h1, h2⟩ := n2 dd eq
        rw [h1]
        rw [eq] at q
        exact q.here sim h2
    · cases e
  · obtain ⟨y, w, rfl, ry, rw'⟩ := reps2 rp
    split at e
    · rename_i kd k' hk
      cases e
      obtain ⟨p, kv, rfl, hl, rk⟩ := ra.dct_inv
      cases rx
      have ey := toKey_inv ry hk
      subst ey
      obtain ⟨u1, u2, rfl, r1, r2⟩ := vals2 r
      obtain ⟨n1, n2⟩ := rk.look (k := k')
      refine d_get2 (by omega) I (DGet.k (k := k') (sim.sub _ _ hl)) r1 r2 fun w' s' I' r' => ⟨_, H, I', r', ?_⟩
      rename_i kd2 _ _ _ _ _
      cases eq : lookK k' _ with
      | none =>
        rw [n1 eq]
        rw [eq] at q
        exact q.here sim rw'
      | some dd =>
        obtain ⟨v, h1, h2⟩ := n2 dd eq
        rw [h1]
        rw [eq] at q
        exact q.here sim h2
    · cases e
  · obtain ⟨y, rfl, ry⟩ := reps1 rp
    split at e
    · rename_i ys hs
      split at e
      · rename_i hz; cases e
        obtain ⟨es, h1, h2⟩ := Option.bind_eq_some_iff.mp hs
        obtain ⟨p, vs, rfl, hq, rr⟩ := seq_of sim ry h1
        have ev := rr.strsD h2
        subst ev
        rw [ra.str_inv] at rx
        exact mt_join pins s σ H _ _ u us Q I rx r ⟨_, p, ys, rfl, rfl, hq, hz, q.here sim (.str _)⟩
      · cases e
    · cases e
  · obtain ⟨y, rfl, ry⟩ := reps1 rp
    rw [ry.str_inv] at r
    split at e
    · rename_i hz; cases e
      simp only [Bool.and_eq_true, decide_eq_true_eq, beq_iff_eq] at hz
      rw [ra.str_inv] at rx
      refine mt_split pins s σ H _ _ u us Q I rx r ⟨_, _, rfl, rfl, by simpa using hz.1, by rw [← LIM_eq]; exact hz.2, fun p hp => q.lst sim (reps_strs _) p hp⟩
    · cases e
  · cases e
end
section
variable {P : Pg} {G : Ga} {n : Nat} {X : Cx} {W : WX} {F : Fo} {a b c o : Expr} {es rest : List Expr} {ma mb mc mo : ME} {ms : List ME} {m : Bmt} {pos apos cpos p : Pos}
theorem s_bmt (hw : G.w = X.w) (hu : X.A.units + 100 < cLine) (ho : PE X o (tE X.K P F G W mo)) (ha : PA X (a :: es) (tL X.K P F G W ms))
    (hbase : attributeBase o (bmN m) X.env (eval o X.env) = eval o X.env)
    (hfew : ((backTo cpos (starEach (a :: es) X.env)).all (fun x => !x.1) && (backToKw cpos (keywordEach [] X.env)).all (fun x => x.1.isSome)
      && decide ((a :: es).length + ([] : List Keyword).length + (if ([] : List Keyword).isEmpty then 0 else 1) < 30)) = true)
    (hline : (apos.endLine == cpos.line) = true) (hs : starEach (a :: es) X.env = (false, eval a X.env) :: starEach es X.env) (hplain : (backTo cpos (starEach es X.env)).any (·.1) = false) :
    PE X (.Call (.Attribute o (bmN m) apos) (a :: es) [] cpos) (tE X.K P F G W (.bmt m mo ms)) := by
  refine ⟨fun pins s σ H Q I ⟨B, ρ, v, S, sim, er, af⟩ => ?_⟩
  refine wpAny_Call_method_late hbase hfew hline rfl (ho.mid I sim er af fun u s1 x H1 B1 ρ1 S1 d I1 r1 le1 sim1 er1 rp1 af1 => ?_)
  cases hk : kiD S1 d with
  | none => rw [hk] at af1; exact af1.elim
  | some k =>
    rw [hk] at af1
    obtain ⟨h1, h2⟩ := ki_is hw I1 r1 sim1 rp1 hk
    simp only at af1
    by_cases hex' : bmOkB k m = true
    · have hex := bm_ok hex'
      rw [if_pos hex'] at af1
      refine ⟨kiT k, bmId k m, hex.1, hex.2.1, hex.2.2, h1, h2, ?_⟩
      have hA := fun Z hZ => ha.mid (p := cpos) (Z := Z) (f := fun ds S2 => (match bmtD S2 k m d ds with
        | some (d, S3) => .ok d S3
        | none => .bad)) I1 sim1 er1 af1 hZ
      rw [hs] at hA ⊢
      refine Calls.callWith_builtin (by show (false || (backTo cpos (starEach es X.env)).any (·.1)) = false; rw [hplain] <;> rfl) (Calls.evalArgs_plain (hA _ ?_))
      intro us s2 xs H2 B2 ρ2 S2 ds I2 r2 le2 sm2 er2 rps af2
      cases hq : bmtD S2 k m d ds with
      | none => rw [hq] at af2; exact af2.elim
      | some z =>
        obtain ⟨d2, S3⟩ := z
        rw [hq] at af2
        exact o_bmt hw hu I2 sm2 r1 (rp1.up le2) r2 rps hq af2
    · rw [if_neg hex'] at af1; exact af1.elim
/-- o.m() -/
theorem s_bmt0 (hw : G.w = X.w) (hu : X.A.units + 100 < cLine) (ho : PE X o (tE X.K P F G W mo))
    (hbase : attributeBase o (bmN m) X.env (eval o X.env) = eval o X.env) (hline : (apos.endLine == cpos.line) = true) :
    PE X (.Call (.Attribute o (bmN m) apos) [] [] cpos) (tE X.K P F G W (.bmt m mo [])) := by
  refine ⟨fun pins s σ H Q I ⟨B, ρ, v, S, sim, er, af⟩ => ?_⟩
  refine wpAny_Call_method0_late hbase hline (ho.mid I sim er af fun u s1 x H1 B1 ρ1 S1 d I1 r1 le1 sim1 er1 rp1 af1 => ?_)
  cases hk : kiD S1 d with
  | none => rw [hk] at af1; exact af1.elim
  | some k =>
    rw [hk] at af1
    obtain ⟨h1, h2⟩ := ki_is hw I1 r1 sim1 rp1 hk
    simp only at af1
    by_cases hex' : bmOkB k m = true
    · have hex := bm_ok hex'
      rw [if_pos hex'] at af1
      refine ⟨kiT k, bmId k m, hex.1, hex.2.1, hex.2.2, h1, h2, Calls.callWith_builtin rfl (PySem.evalArgs_none ?_)⟩
      have af1 : Aft X.K G (fun c d => W c d σ) B1 ρ1 (match bmtD S1 k m d [] with
        | some (d, S3) => .ok d S3
        | none => .bad) Q := af1
      cases hq : bmtD S1 k m d [] with
      | none => rw [hq] at af1; exact af1.elim
      | some z =>
        obtain ⟨d2, S3⟩ := z
        rw [hq] at af1
        exact o_bmt hw hu I1 sim1 r1 rp1 .nil .nil hq af1
    · rw [if_neg hex'] at af1; exact af1.elim
/-- a built-in by its name -/
def bltN : Blt → Str
  | .len => "len" | .abs => "abs" | .int => "int" | .str => "str" | .sum => "sum" | .any => "any" | .all => "all" | .min => "min" | .max => "max" | .sorted => "sorted" | .list => "list" | .tuple => "tuple" | .repr => "repr" | .isinst => "isinstance"
theorem boot_blt (bf : Blt) : bootBuiltins (bltN bf) = some (bltV bf) := by cases bf <;> decide +kernel
theorem bltN_ne (bf : Blt) : bltN bf ≠ "__name__" ∧ (bltN bf == ("__debug__" : Str)) = false := by cases bf <;> exact ⟨by decide, by decide⟩
theorem s_blt (hw : G.w = X.w) (hc : X.calm = true) (hgd : X.A.guards = some []) (hu : X.A.units + 100 < cLine) (sm : ∀ {pins s σ H}, Inv X pins σ H s → H sysModules = none) {bf : Blt} (hg : Gl X (bltN bf)) (hm : X.mg (bltN bf) = none) (ha : PA X (a :: es) (tL X.K P F G W ms))
    (he : starEach (a :: es) X.env = (false, eval a X.env) :: starEach es X.env) (hpl : (backTo pos (starEach es X.env)).any (·.1) = false) : PE X (.Call (.Name (bltN bf) p) (a :: es) [] pos) (tE X.K P F G W (.blt bf ms)) := by
  refine ⟨fun pins s σ H Q I ⟨B, ρ, v, S, sim, er, af⟩ => ?_⟩
  refine wpAny_Call_Name_kw (ld_blt I hg hm (boot_blt bf) ?_ (bltN_ne bf).1 (bltN_ne bf).2)
  have key : wpAny (model X.prog X.w) X.A (spliced (backTo pos (starEach (a :: es) X.env))) (fun us s1 => wpAny (model X.prog X.w) X.A (call (bltV bf) us) (EP X pins σ Q) X.xe s1) X.xe s := by
    refine ha.mid (f := fun ds S1 => ofO (bltD S1 bf ds) S1) I sim er af fun us s1 xs H1 B1 ρ1 S1 ds I1 r1 le sm1 er1 rps af1 => ?_
    cases hq : bltD S1 bf ds with
    | none => rw [hq] at af1; exact af1.elim
    | some z => rw [hq] at af1; exact o_blt hw hc hgd hu (sm I1) I1 sm1 r1 rps hq af1
  cases bf with
  | int => exact PyProof.Rows.callWith_type1 key he hpl
  | str => exact PyProof.Rows.callWith_type1 key he hpl
  | list => exact PyProof.Rows.callWith_type1 key he hpl
  | tuple => exact PyProof.Rows.callWith_type1 key he hpl
  | _ => exact PyProof.Rows.callWith_builtin1 key he hpl
end
end Mi
end
section
set_option autoImplicit false
set_option linter.all false
set_option maxRecDepth 100000
/-! MiN6: isinstance(x, C) for an own class -/
namespace Mi
open PySem PySem.Spec PyProof.Rows L2
section
variable {P : Pg} {G : Ga} {n : Nat} {X : Cx} {W : WX} {a : Expr} {es : List Expr} {ms : List ME} {pos p : Pos}
theorem o_isc (C : Cn P G n X W) {pins : List (Addr × Obj)} {s : Shared} {σ : L2.St} {H : Hp} {B : Hp} {ρ : List Addr} {S : Sto} {xs : List V} {us : List Value} {ds : List D} {d : D} {Q : VK}
    (I : Inv X pins σ H s) (sim : Sim X.K G B ρ S H) (r : Vals xs us) (rp : Reps X.K G B ρ xs ds) (e : iscD P S ds = some d) (q : Post X.K G B ρ S d Q) :
    wpAny (model X.prog X.w) X.A (call (.builtin "isinstance") us) (EP X pins σ Q) X.xe s := by
  unfold iscD at e
  split at e
  · rename_i x c
    obtain ⟨x', y, rfl, rx, ry⟩ := reps2 rp
    cases ry
    split at e
    · rename_i hc
      obtain ⟨k, hk, h0⟩ := (Option.any_eq_true _ _).mp hc
      have h0 := Option.isNone_iff_eq_none.mp h0
      split at e
      · rename_i c' hx
        split at e
        · rename_i hc'
          obtain ⟨k', hk', h0'⟩ := (Option.any_eq_true _ _).mp hc'
          have h0' := Option.isNone_iff_eq_none.mp h0'
          cases e
          obtain ⟨p, dx, fv, fs, rfl, hp, _, _⟩ := cls_of sim rx hx
          have J := C.wd.isa c' k' hk' h0'
          exact call_isi pins s σ H _ us Q I r ⟨.ref p, .ref (G.cl c), .ref (G.cl c'), .ref (G.cl c), _, rfl, .own _, .base (.ins hp (C.wd.cls c' k' hk' h0') J.ha J.hn J.ht J.hm), C.wd.isk c c' k k' hk h0 hk' h0', q.here sim (.bl _)⟩
        · cases e
      · obtain ⟨t, ht, rfl⟩ := Option.map_eq_some_iff.mp e
        exact call_isi pins s σ H _ us Q I r ⟨x', .ref (G.cl c), _, .ref (G.cl c), false, rfl, .own _, tyX_of sim rx ht, C.wd.isb c k t hk h0 (tyNames_of ht), q.here sim (.bl _)⟩
    · cases e
  · cases e
theorem s_isc (C : Cn P G n X W) (hg : Gl X "isinstance") (hm : X.mg "isinstance" = none) (ha : PA X (a :: es) (tL X.K P (run P n) G W ms))
    (he : starEach (a :: es) X.env = (false, eval a X.env) :: starEach es X.env) (hpl : (backTo pos (starEach es X.env)).any (·.1) = false) : PE X (.Call (.Name "isinstance" p) (a :: es) [] pos) (tE X.K P (run P n) G W (.isc ms)) := by
  refine ⟨fun pins s σ H Q I ⟨B, ρ, v, S, sim, er, af⟩ => ?_⟩
  refine wpAny_Call_Name_kw (ld_blt I hg hm (boot_blt .isinst) ?_ (bltN_ne .isinst).1 (bltN_ne .isinst).2)
  have key : wpAny (model X.prog X.w) X.A (spliced (backTo pos (starEach (a :: es) X.env))) (fun us s1 => wpAny (model X.prog X.w) X.A (call (.builtin "isinstance") us) (EP X pins σ Q) X.xe s1) X.xe s := by
    refine ha.mid (f := fun ds S1 => ofO (iscD P S1 ds) S1) I sim er af fun us s1 xs H1 B1 ρ1 S1 ds I1 r1 le sm1 er1 rps af1 => ?_
    cases hq : iscD P S1 ds with
    | none => rw [hq] at af1; exact af1.elim
    | some z => rw [hq] at af1; exact o_isc C I1 sm1 r1 rps hq af1
  exact PyProof.Rows.callWith_builtin1 key he hpl
end
end Mi
end
section
set_option autoImplicit false
set_option linter.all false
set_option maxRecDepth 100000
/-! Mi16: lists and dicts that will change; dict displays -/
namespace Mi
open PySem PySem.Spec PyProof.Rows L2

section
variable {K : PySem.W.Frag} {G : Ga} {B : Hp} {ρ : List Addr} {S : Sto} {H : Hp} {p : Addr} {Q : VK}
theorem new_loc {o : HO} {m : MO} (sim : Sim K G B ρ S H) (hp : H p = none) (hm : ∀ B' ρ', Le B ρ B' ρ' → HoldM K G B' ρ' (upd H p o) p m) (q : Post K G B ρ (S ++ [m]) (.loc S.length) Q) : Q (.ref p) (upd H p o) := by
  obtain ⟨s', le⟩ := sim.alloc hp hm
  exact q _ _ _ _ le s' (.loc (by rw [← sim.len]; simp))
theorem new_list {vs : List V} {ds : List D} (sim : Sim K G B ρ S H) (r : Reps K G B ρ vs ds) (q : Post K G B ρ (S ++ [.lst ds]) (.loc S.length) Q) : ∀ p, H p = none → Q (.ref p) (upd H p (.lst vs)) := fun p hp =>
  new_loc (m := .lst ds) sim hp (fun B' ρ' le => ⟨vs, upd_same, r.up le⟩) q
/-- a list of the frame comes into the store -/
theorem Sim.join {φ : Hp} {vs : List V} {ds : List D} (s : Sim K (G.put (upd φ p (.lst vs))) B ρ S H) (hn : φ p = none) (r : Reps K G B ρ vs ds) : Sim K (G.put φ) B (ρ ++ [p]) (S ++ [.lst ds]) H ∧ Le B ρ B (ρ ++ [p]) := by
  obtain ⟨f1, f2, f3⟩ := s.frm p _ upd_same
  have f3 : p ∉ ρ := fun z => notF (fun _ _ z => by cases z) (f3.mp z)
  have le : Le B ρ B (ρ ++ [p]) := ⟨fun _ _ e => e, List.prefix_append _ _⟩
  refine ⟨⟨s.sub, by simp [s.len], ?_, fun a ha => ?_, fun l m' e => ?_, fun a u e => ?_, s.tab, ⟨s.ntb.1, s.ntb.2.out hn⟩⟩, le⟩
  · rw [List.nodup_append]
    exact ⟨s.nd, by simp, fun x hx y hy z => f3 (by simp at hy; rw [← hy, ← z]; exact hx)⟩
  · rcases List.mem_append.mp ha with ha | ha
    · exact s.off a ha
    · simp at ha; rw [ha]; exact f2
  · by_cases hl : l < S.length
    · rw [List.getElem?_append_left hl] at e
      obtain ⟨a, ea, hm'⟩ := s.obj l m' e
      exact ⟨a, le.at ea, HoldM.up le rfl (HoldM.put (G := G.put (upd φ p (.lst vs))) (φ := φ) (fun o u z => upd_lst_frz z) hm')⟩
    · have e2 : l = S.length := by
        have := (List.getElem?_eq_some_iff.mp e).1
        simp at this; omega
      subst e2
      simp at e
      subst e
      exact ⟨p, by rw [← s.len]; simp, ⟨vs, f1, r.up le⟩⟩
  · have e : φ a = some u := e
    have ne : a ≠ p := ne_of_none e hn
    obtain ⟨g1, g2, g3⟩ := s.frm a u (by show upd φ p (.lst vs) a = some u; rw [upd_ne ne]; exact e)
    refine ⟨g1, g2, fun z => ?_, fun z => List.mem_append_left _ (g3.mpr z)⟩
    rcases List.mem_append.mp z with z | z
    · exact g3.mp z
    · simp at z; exact (ne z).elim
end
section
variable {P : Pg} {F : Fo} {G : Ga} {X : Cx} {W : WX} {a b elt tg iter tg1 iter1 : Expr} {es ifs ifs1 : List Expr} {scope : Scope} {own : List (Str × Nat)} {ma mb me : ME} {ms : List ME} {mt mt1 : MT} {mi mi1 : MI} {mc mc1 : Option MQ} {pos p : Pos} {ws1 : List Nat}
/-- what .alc does behind -/
def alcF : D → Sto → R := fun x S1 => (match x with
    | .lst xs => .ok (.loc S1.length) (S1 ++ [.lst xs])
    | .dct kvs => .ok (.loc S1.length) (S1 ++ [.dk kvs])
    | _ => .bad)
theorem a_lst (ha : PA X es (tL X.K P F G W ms)) : PE X (.List es pos) (tE X.K P F G W (.alc (.lst ms))) :=
  ⟨fun pins s σ H Q I ⟨B, ρ, v, S, sim, er, af⟩ => new_lst ha I sim er (f := alcF) af fun xs H1 B1 ρ1 S1 ds p le sm rp af1 hp => new_list sm rp af1 p hp⟩
theorem a_lc (hc : X.calm = true) (hN : X.N.Nodup) (hi : PI X tg iter (tI X.K P F G W mi)) (ok : BlkOk X.N X.env.scope scope own) (hsl : ∀ i ∈ slots mt, i ∈ own.map (·.2))
    (hg : ∀ (s : Shared) (H : Hp) (C : Addr) (cl : List (Str × Addr)) (fp : List Addr), PG (X.blk s H scope (compEnvC scope cl C X.env) fp) tg (tG X.K G mt))
    (ht : ∀ (s : Shared) (H : Hp) (C : Addr) (cl : List (Str × Addr)) (fp : List Addr), PTs (X.blk s H scope (compEnvC scope cl C X.env) fp) ifs (tC X.K P F G mc))
    (he : ∀ (s : Shared) (H : Hp) (C : Addr) (cl : List (Str × Addr)) (fp : List Addr), PE (X.blk s H scope (compEnvC scope cl C X.env) fp) elt (tEx X.K P F G me)) (hs : ∀ x, foldedSetIterable iter X.env x = pure x) :
    PE X (.ListComp elt [⟨tg, iter, ifs, 0⟩] scope pos) (tE X.K P F G W (.alc (.lc me mt mi mc (own.map (·.2))))) :=
  (pe_lc hc hN hi ok hg ht he hs).imp fun σ H Q ⟨B, ρ, v, S, sim, er, af⟩ => lc_read hsl (f := alcF) ⟨B, ρ, v, S, sim, er, af⟩ fun B ρ S H acc vs D s _ r hf q => by
    obtain ⟨s', le⟩ := s.join hf r
    exact q _ H _ _ le s' (.loc (by rw [← s.len]; simp))
theorem a_lc2 (hc : X.calm = true) (hN : X.N.Nodup) (hi : PI X tg iter (tI X.K P F G W mi)) (ok : BlkOk X.N X.env.scope scope own) (hv : ∀ i ∈ ws1, i ∈ own.map (·.2)) (hsl : ∀ i ∈ slots mt, i ∈ own.map (·.2)) (hsl1 : ∀ i ∈ slots mt1, i ∈ ws1)
    (hg : ∀ (s : Shared) (H : Hp) (C : Addr) (cl : List (Str × Addr)) (fp : List Addr), PG (X.blk s H scope (compEnvC scope cl C X.env) fp) tg (tG X.K G mt))
    (ht : ∀ (s : Shared) (H : Hp) (C : Addr) (cl : List (Str × Addr)) (fp : List Addr), PTs (X.blk s H scope (compEnvC scope cl C X.env) fp) ifs (tC X.K P F G mc))
    (hi1 : ∀ (s : Shared) (H : Hp) (C : Addr) (cl : List (Str × Addr)) (fp : List Addr), PI (X.blk s H scope (compEnvC scope cl C X.env) fp) tg1 iter1 (tIx X.K P F G mi1))
    (hg1 : ∀ (s : Shared) (H : Hp) (C : Addr) (cl : List (Str × Addr)) (fp : List Addr), PG (X.blk s H scope (compEnvC scope cl C X.env) fp) tg1 (tG X.K G mt1))
    (ht1 : ∀ (s : Shared) (H : Hp) (C : Addr) (cl : List (Str × Addr)) (fp : List Addr), PTs (X.blk s H scope (compEnvC scope cl C X.env) fp) ifs1 (tC X.K P F G mc1))
    (he : ∀ (s : Shared) (H : Hp) (C : Addr) (cl : List (Str × Addr)) (fp : List Addr), PE (X.blk s H scope (compEnvC scope cl C X.env) fp) elt (tEx X.K P F G me)) (hs : ∀ x, foldedSetIterable iter X.env x = pure x) (hs1 : ∀ env x, foldedSetIterable iter1 env x = pure x) :
    PE X (.ListComp elt [⟨tg, iter, ifs, 0⟩, ⟨tg1, iter1, ifs1, 0⟩] scope pos) (tE X.K P F G W (.alc (.lc2 me mt mi mc mt1 mi1 mc1 (own.map (·.2)) ws1))) :=
  (pe_lc2 hc hN hi ok hv hg ht hi1 hg1 ht1 he hs hs1).imp fun σ H Q ⟨B, ρ, v, S, sim, er, af⟩ => lc2_read hsl hsl1 (f := alcF) ⟨B, ρ, v, S, sim, er, af⟩ fun B ρ S H acc vs D s _ r hf q => by
    obtain ⟨s', le⟩ := s.join hf r
    exact q _ H _ _ le s' (.loc (by rw [← s.len]; simp))
/-- list(x), to be changed -/
theorem a_list (hw : G.w = X.w) (hc : X.calm = true) (hg : Gl X "list") (hm : X.mg "list" = none) (ha : PA X (a :: es) (tL X.K P F G W [ma])) (he : starEach (a :: es) X.env = (false, eval a X.env) :: starEach es X.env) (hpl : (backTo pos (starEach es X.env)).any (·.1) = false) :
    PE X (.Call (.Name "list" p) (a :: es) [] pos) (tE X.K P F G W (.alc (.blt .list [ma]))) := by
  refine ⟨fun pins s σ H Q I ⟨B, ρ, v, S, sim, er, af⟩ => ?_⟩
  refine wpAny_Call_Name_kw (ld_blt I hg hm (by decide +kernel : bootBuiltins "list" = some (.type "list")) ?_ (by decide) (by decide))
  refine PyProof.Rows.callWith_type1 ?_ he hpl
  have af : Aft X.K G (fun c d => W c d σ) B ρ (bind1 (bindL (evs P F [ma] v S) fun ds S1 => ofO (bltD S1 .list ds) S1) alcF) Q := af
  have e2 : bind1 (bindL (evs P F [ma] v S) fun ds S1 => ofO (bltD S1 .list ds) S1) alcF = bindL (evs P F [ma] v S) fun ds S1 => bind1 (ofO (bltD S1 .list ds) S1) alcF := by
    cases evs P F [ma] v S <;> rfl
  rw [e2] at af
  refine ha.mid I sim er af fun us s1 xs H1 B1 ρ1 S1 ds I1 r1 le sm1 er1 rps af1 => ?_
  cases hq : bltD S1 .list ds with
  | none => rw [hq] at af1; exact af1.elim
  | some z =>
    rw [hq] at af1
    unfold bltD at hq
    split at hq <;> first | cases ‹Blt.list = _› | skip
    · obtain ⟨x, rfl, rx⟩ := reps1 rps
      split at hq
      · rename_i kd hd
        cases hq
        obtain ⟨l, z, rfl, hl⟩ := dnAt_inv hd
        obtain ⟨p, ks, rfl, _, hp, rk⟩ := loc_dn sm1 rx hl
        exact call_listN hc pins s1 σ H1 _ us Q I1 r1 ⟨p, ks, rfl, by rw [← hw]; exact hp, new_list sm1 rk.refs af1⟩
      obtain ⟨l, h1, rfl⟩ := Option.map_eq_some_iff.mp hq
      obtain ⟨q, vs, rfl, hp, rr⟩ := seq_of sm1 rx h1
      exact call_list_of pins s1 σ H1 _ us Q I1 r1 ⟨q, vs, rfl, hp, new_list sm1 rr af1⟩
    · cases hq
/-- [..] * n, to be changed -/
theorem a_mul (ha : PE X a (tE X.K P F G W ma)) (hb : PE X b (tE X.K P F G W mb)) : PE X (.BinOp a .Mult b pos) (tE X.K P F G W (.alc (.bin .Mult ma mb))) :=
  ⟨fun pins s σ H Q I ⟨B, ρ, v, S, sim, er, af⟩ => by
    have af : Aft X.K G (fun c d => W c d σ) B ρ (bind1 (bind1 (ev P F ma v S) fun x S1 => bind1 (ev P F mb v S1) fun y S2 => ofO (binD S2 .Mult x y) S2) alcF) Q := af
    have e2 : (bind1 (bind1 (ev P F ma v S) fun x S1 => bind1 (ev P F mb v S1) fun y S2 => ofO (binD S2 .Mult x y) S2) alcF) = bind1 (ev P F ma v S) fun x S1 => bind1 (ev P F mb v S1) fun y S2 => bind1 (ofO (binD S2 .Mult x y) S2) alcF := by
      cases ev P F ma v S with
      | ok d S1 =>
        simp only [bind1]
        cases ev P F mb v S1 <;> rfl
      | _ => rfl
    rw [e2] at af
    refine wpAny_BinOp (ha.mid I sim er af fun u s1 x H1 B1 ρ1 S1 d I1 r1 le1 sim1 er1 rp1 af1 => hb.mid I1 sim1 er1 af1 fun w s2 y H2 B2 ρ2 S2 e I2 r2 le2 sim2 er2 rp2 af2 => ?_)
    cases hq : binD S2 .Mult d e with
    | none => rw [hq] at af2; exact af2.elim
    | some z =>
      rw [hq] at af2
      have af2 : Aft X.K G (fun c d => W c d σ) B2 ρ2 (alcF z S2) Q := af2
      unfold binD at hq
      split at hq
      · simp only [binI] at hq
        split at hq
        · cases hq; exact af2.elim
        · cases hq
      · simp only at hq
        cases hq
      · simp only at hq
        split at hq
        · cases hq; exact af2.elim
        · cases hq
      · simp only at hq
        cases hq
      · simp only at hq
        cases hq
      · rename_i xs k h1 h2
        have rp1 := rp1.up le2
        obtain ⟨p1, v1, rfl, t1, rr1⟩ := der_lst sim2 rp1 h1
        have ey := der_int rp2 h2
        simp only at hq
        split at hq
        · rename_i hg
          obtain ⟨hg, g3⟩ := Bool.and_eq_true_iff.mp hg
          obtain ⟨g1, g2⟩ := Bool.and_eq_true_iff.mp hg
          have g1 := of_decide_eq_true g1
          have g2 := of_decide_eq_true g2
          have g3 := of_decide_eq_true g3
          cases hq
          exact op_rep pins s2 σ H2 _ _ u w Q I2 r1 r2 ⟨p1, k, v1, rfl, ey, t1, by omega, by omega, by rw [sizeLine_eq, rr1.length]; omega, new_list sim2 (rr1.rep _) af2⟩
        · cases hq
      · simp only at hq
        split at hq
        · cases hq; exact af2.elim
        · cases hq
      · cases hq⟩
/-! ### dict displays with written keys -/
def keyE : Key → PySem.Const
  | .inl i => .int i
  | .inr x => .str x
theorem k_const {X : Cx} {k : Key} {j : Nat} : PE X (.Constant (keyE k) j pos) (L2.tC (kV k)) := by
  cases k with
  | inl i => exact pe_int
  | inr x => exact pe_str
/-- the pairs' readings -/
def tKs (K : PySem.W.Frag) (P : Pg) (F : Fo) (G : Ga) : List (Key × ME) → List (TE × TE)
  | [] => []
  | (k, m) :: r => (L2.tC (kV k), tEx K P F G m) :: tKs K P F G r
theorem ks_read {K : PySem.W.Frag} {σ : L2.St} {φ : Hp} : ∀ {kms : List (Key × ME)} {H B : Hp} {ρ : List Addr} {v : Env} {S S' : Sto} {ds : List D} {Q : List (V × V) → Hp → Prop}, Sim K (G.put φ) B ρ S H → EnvR K G B ρ σ v → evs P F (kms.map (·.2)) v S = .ok ds S' →
    (∀ us H' B' ρ', Le B ρ B' ρ' → Sim K (G.put φ) B' ρ' S' H' → Reps K G B' ρ' us ds → us.length = kms.length → Q ((kms.map fun q => kV q.1).zip us) H') → tPairs (tKs K P F G kms) σ H Q
  | [], H, B, ρ, v, S, S', ds, Q, sim, er, e, k => by
    cases e
    exact k [] H B ρ Le.refl sim .nil rfl
  | (k0, m) :: r, H, B, ρ, v, S, S', ds, Q, sim, er, e, k => by
    have e : (match ev P F m v S with
      | .ok d S1 => (match evs P F (List.map (fun q : Key × ME => q.2) r) v S1 with
        | .ok ds S2 => RL.ok (d :: ds) S2
        | .ex c fs S2 => .ex c fs S2
        | .bad => .bad)
      | .ex c fs S1 => .ex c fs S1
      | .bad => .bad) = .ok ds S' := e
    cases e1 : ev P F m v S with
    | ok d S1 =>
      rw [e1] at e
      simp only at e
      cases e2 : evs P F (List.map (fun q : Key × ME => q.2) r) v S1 with
      | ok ds2 S2 =>
        rw [e2] at e
        cases e
        refine ⟨φ, B, ρ, v, S, sim, er, ?_⟩
        rw [e1]
        intro u H1 B1 ρ1 le1 s1 ru
        refine ks_read s1 (er.up le1) e2 fun us H2 B2 ρ2 le2 s2 rs hl => ?_
        exact k (u :: us) H2 B2 ρ2 (le1.trans le2) s2 (.cons (ru.up le2) rs) (congrArg (· + 1) hl)
      | ex c fs S2 => rw [e2] at e; cases e
      | bad => rw [e2] at e; cases e
    | ex c fs S1 => rw [e1] at e; cases e
    | bad => rw [e1] at e; cases e
theorem fold_rep {K : PySem.W.Frag} {B : Hp} {ρ : List Addr} : ∀ {ks : List Key} {us : List V} {ds : List D} {kv : List (L2.Key × V)} {kd : List (Key × D)}, Reps K G B ρ us ds → RepK K G B ρ kv kd →
    RepK K G B ρ ((ks.zip us).foldl (fun acc q => L2.putK acc q.1 q.2) kv) ((ks.zip ds).foldl (fun l q => Mi.putK q.1 q.2 l) kd)
  | [], _, _, _, _, _, h => h
  | _ :: _, _, _, _, _, .nil, h => h
  | k :: ks, _, _, _, _, .cons h1 r, h => fold_rep (ks := ks) r (h.put h1)
/-- a dict's frame object is let go, or comes into the store -/
theorem Sim.dgone {K : PySem.W.Frag} {φ : Hp} {B : Hp} {ρ : List Addr} {S : Sto} {H : Hp} {p : Addr} {o u : HO} (s : Sim K (G.put (upd φ p o)) B ρ S H) (hn : φ p = none) (nf : ∀ b v, o ≠ .frz b v) (ht : ∀ ps, o ≠ .tbl ps) (hc : ∀ q, o ≠ LamX.CodeO p q) : Sim K (G.put φ) B ρ S (upd H p u) ∧ B p = none ∧ p ∉ ρ := by
  obtain ⟨f1, f2, f3⟩ := s.frm p o upd_same
  have f3 : p ∉ ρ := fun z => notF nf (f3.mp z)
  refine ⟨⟨fun a v e => ?_, s.len, s.nd, s.off, fun l m e => ?_, fun a v e => ?_, fun q hq => ?_, ⟨s.ntb.1, s.ntb.2.out hn⟩⟩, f2, f3⟩
  · rw [upd_ne (ne_of_none e f2)]; exact s.sub a v e
  · obtain ⟨a, ea, hm⟩ := s.obj l m e
    have hne : a ≠ p := fun z => f3 (by rw [← z]; exact List.mem_of_getElem? ea)
    refine ⟨a, ea, HoldM.put (G := G.put (upd φ p o)) (φ := φ) (fun o' u' z => ?_) (hm.up Le.refl (upd_ne hne))⟩
    have z : upd φ p o a = _ := z
    rw [upd_ne hne] at z
    exact z
  · have e : φ a = some v := e
    have ne : a ≠ p := ne_of_none e hn
    obtain ⟨g1, g2, g3⟩ := s.frm a v (by show upd φ p o a = some v; rw [upd_ne ne]; exact e)
    exact ⟨by rw [upd_ne ne]; exact g1, g2, g3⟩
  · obtain ⟨ps, h1, h2, h3⟩ := s.tab q hq
    have ne : q.1 ≠ p := fun z => by rw [z, f1] at h1; exact ht ps (Option.some.inj h1)
    refine ⟨ps, by rw [upd_ne ne]; exact h1, h2, fun pos cv hcv => ?_⟩
    obtain ⟨c, e1, e2⟩ := h3 pos cv hcv
    refine ⟨c, e1, ?_⟩
    rw [upd_ne (show c ≠ p from fun z => by rw [z, f1] at e2; exact hc _ (Option.some.inj e2))]
    exact e2
/-- what stands beside all is written: it comes into the ground -/
theorem Sim.found {K : PySem.W.Frag} {B : Hp} {ρ : List Addr} {S : Sto} {H : Hp} {p : Addr} {u : HO} (s : Sim K G B ρ S (upd H p u)) (hb : B p = none) (hp : p ∉ ρ) (hf : G.fr p = none) (ho : ∀ ps, u ≠ .tbl ps := by intro _ z; cases z) : Sim K G (upd B p u) ρ S (upd H p u) ∧ Le B ρ (upd B p u) ρ := by
  have le : Le B ρ (upd B p u) ρ := ⟨fun a v e => by rw [upd_ne (ne_of_none e hb)]; exact e, List.prefix_refl _⟩
  refine ⟨⟨fun a v e => ?_, s.len, s.nd, fun a ha => ?_, fun l m e => ?_, fun a v e => ?_, s.tab, ⟨s.ntb.1.upd ho, s.ntb.2⟩⟩, le⟩
  · by_cases ha : a = p
    · subst ha; rw [upd_same] at e ⊢; exact e
    · rw [upd_ne ha] at e; exact s.sub a v e
  · rw [upd_ne (show a ≠ p from fun e => hp (by rw [← e]; exact ha))]; exact s.off a ha
  · obtain ⟨a, ea, hm⟩ := s.obj l m e
    exact ⟨a, ea, hm.up le rfl⟩
  · obtain ⟨g1, g2, g3⟩ := s.frm a v e
    exact ⟨g1, by rw [upd_ne (ne_of_none e hf)]; exact g2, g3⟩
theorem Sim.foundS {K : PySem.W.Frag} {B : Hp} {ρ : List Addr} {S : Sto} {H : Hp} {p : Addr} {u : HO} {m : MO} (s : Sim K G B ρ S (upd H p u)) (hb : B p = none) (hp : p ∉ ρ) (hf : G.fr p = none) (hm : ∀ B' ρ', Le B ρ B' ρ' → HoldM K G B' ρ' (upd H p u) p m) : Sim K G B (ρ ++ [p]) (S ++ [m]) (upd H p u) ∧ Le B ρ B (ρ ++ [p]) := by
  have le : Le B ρ B (ρ ++ [p]) := ⟨fun _ _ e => e, List.prefix_append _ _⟩
  refine ⟨⟨s.sub, by simp [s.len], ?_, fun a ha => ?_, fun l m' e => ?_, fun a v e => ?_, s.tab, s.ntb⟩, le⟩
  · rw [List.nodup_append]
    exact ⟨s.nd, by simp, fun x hx y hy z => hp (by simp at hy; rw [← hy, ← z]; exact hx)⟩
  · rcases List.mem_append.mp ha with ha | ha
    · exact s.off a ha
    · simp at ha; rw [ha]; exact hb
  · by_cases hl : l < S.length
    · rw [List.getElem?_append_left hl] at e
      obtain ⟨a, ea, hm'⟩ := s.obj l m' e
      exact ⟨a, le.at ea, hm'.up le rfl⟩
    · have e2 : l = S.length := by
        have := (List.getElem?_eq_some_iff.mp e).1
        simp at this; omega
      subst e2
      simp at e
      subst e
      exact ⟨p, by rw [← s.len]; simp, hm _ _ le⟩
  · obtain ⟨g1, g2, g3⟩ := s.frm a v e
    refine ⟨g1, g2, fun z => ?_, fun z => List.mem_append_left _ (g3.mpr z)⟩
    rcases List.mem_append.mp z with z | z
    · exact g3.mp z
    · simp at z; rw [z, hf] at e; cases e
/-- the reading of a display, with what follows -/
theorem dct_read {K : PySem.W.Frag} {kms : List (Key × ME)} {σ : L2.St} {H : Hp} {Q Qn : VK} {f : D → Sto → R} (hlen : kms.length ≤ 15)
    (hm : ∃ B ρ v S, Sim K G B ρ S H ∧ EnvR K G B ρ σ v ∧ Aft K G (fun c d => W c d σ) B ρ (bind1 (ev P F (.dct (kms.map (·.1)) (kms.map (·.2))) v S) f) Q)
    (k : ∀ B ρ S H p kv kd, Sim K G B ρ S (upd H p (.dK kv)) → B p = none → p ∉ ρ → G.fr p = none → RepK K G B ρ kv kd → Aft K G (fun c d => W c d σ) B ρ (f (.dct kd) S) Q → Qn (.ref p) (upd H p (.dK kv))) :
    tDisp (tKs K P F G kms) σ H Qn := by
  obtain ⟨B, ρ, v, S, sim, er, af⟩ := hm
  have af : Aft K G (fun c d => W c d σ) B ρ (bind1 (match evs P F (kms.map (·.2)) v S with
    | .ok ds S1 => .ok (.dct (((kms.map (·.1)).zip ds).foldl (fun l p => putK p.1 p.2 l) [])) S1
    | _ => .bad) f) Q := af
  intro p hp
  obtain ⟨hf, s1⟩ := sim.beside (o := .dK []) hp
  cases e : evs P F (kms.map (·.2)) v S with
  | ok ds S1 =>
    rw [e] at af
    refine ks_read s1 er e fun us H2 B2 ρ2 le2 s2 rs hl => ?_
    have hH := (s2.frm p _ upd_same).1
    refine ⟨hH, (kms.map (·.1)).zip us, ?_, ?_, ?_⟩
    · have : ∀ (ks : List (Key × ME)) (us : List V), (ks.map fun q => kV q.1).zip us = ((ks.map (·.1)).zip us).map fun kv => (kV kv.1, kv.2) := by
        intro ks
        induction ks with
        | nil => intro us; rfl
        | cons q r ih =>
          intro us
          cases us with
          | nil => rfl
          | cons u us => simp [ih us]
      exact this kms us
    · rw [List.length_zip, List.length_map]; omega
    · obtain ⟨s3, hb, hr⟩ := s2.dgone (u := .dK (mergeK [] ((kms.map (·.1)).zip us))) hf (fun _ _ z => by cases z) (fun ps z => by cases z) (fun q z => by unfold LamX.CodeO at z; cases z)
      exact k B2 ρ2 S1 H2 p _ _ s3 hb hr hf (fold_rep rs .nil) (Aft.up af le2)
  | ex c fs S1 => rw [e] at af; exact af.elim
  | bad => rw [e] at af; exact af.elim
theorem s_dct {keys : List (Option Expr)} {values : List Expr} {kms : List (Key × ME)} (h : PPs X pos keys values (tKs X.K P F G kms)) (hall : keys.all (·.isSome) = true) (hl : keys.length = values.length) (h0 : keys ≠ []) (h15 : keys.length ≤ 15) (hk : kms.length ≤ 15) :
    PE X (.Dict keys values pos) (tE X.K P F G W (.dct (kms.map (·.1)) (kms.map (·.2)))) :=
  (pe_disp h hall hl h0 h15).imp fun σ H Q ⟨B, ρ, v, S, sim, er, af⟩ => dct_read (f := fun d S => .ok d S) hk ⟨B, ρ, v, S, sim, er, by rw [bind1_ok]; exact af⟩ fun B ρ S H p kv kd s hb hp hf r q => by
    obtain ⟨s', le⟩ := s.found hb hp hf
    exact q _ _ _ ρ le s' (.dct upd_same (r.up le))
theorem a_dct {keys : List (Option Expr)} {values : List Expr} {kms : List (Key × ME)} (h : PPs X pos keys values (tKs X.K P F G kms)) (hall : keys.all (·.isSome) = true) (hl : keys.length = values.length) (h0 : keys ≠ []) (h15 : keys.length ≤ 15) (hk : kms.length ≤ 15) :
    PE X (.Dict keys values pos) (tE X.K P F G W (.alc (.dct (kms.map (·.1)) (kms.map (·.2))))) :=
  (pe_disp h hall hl h0 h15).imp fun σ H Q ⟨B, ρ, v, S, sim, er, af⟩ => dct_read (f := alcF) hk ⟨B, ρ, v, S, sim, er, af⟩ fun B ρ S H p kv kd s hb hp hf r q => by
    obtain ⟨s', le⟩ := s.foundS (m := .dk kd) hb hp hf fun B' ρ' l => ⟨kv, upd_same, r.up l⟩
    exact q _ _ _ _ le s' (.loc (by rw [← s.len]; simp))
theorem Reps.reverse {K : PySem.W.Frag} {G : Ga0} {B : Hp} {ρ : List Addr} {vs : List V} {ds : List D} (r : Reps K G B ρ vs ds) : Reps K G B ρ vs.reverse ds.reverse := by
  induction vs generalizing ds with
  | nil => cases r; exact .nil
  | cons v vs ih =>
    cases r with
    | cons h r =>
      rw [List.reverse_cons, List.reverse_cons]
      exact (ih r).append (.cons h .nil)
theorem s_rev {k : Nat} {p1 p2 p3 : Pos} (ha : PE X a (tE X.K P F G W ma)) : PE X (.Subscript a (.Slice none none (some (.UnaryOp .USub (.Constant (.int 1) k p1) p2)) p3) pos) (tE X.K P F G W (.rev ma)) :=
  (pe_revL ha).imp fun σ H Q ⟨B, ρ, v, S, sim, er, af⟩ => by
    have af : Aft X.K G (fun c d => W c d σ) B ρ (bind1 (ev P F ma v S) fun x S1 => (match lsOf S1 x with
      | some xs => .ok (.lst xs.reverse) S1
      | none => .bad)) Q := af
    refine ⟨B, ρ, v, S, sim, er, ?_⟩
    cases e : ev P F ma v S with
    | ok d S1 =>
      rw [e] at af
      have af : Aft X.K G (fun c d => W c d σ) B ρ (match lsOf S1 d with
        | some xs => .ok (.lst xs.reverse) S1
        | none => .bad) Q := af
      intro u H1 B1 ρ1 le s1 rp
      cases h : lsOf S1 d with
      | none => rw [h] at af; exact af.elim
      | some xs =>
        rw [h] at af
        obtain ⟨p, vs, rfl, hl, rr⟩ := ls_of s1 rp h
        refine ⟨p, vs, rfl, SqL.of hl, fun q hq => ?_⟩
        exact (show Post X.K G B ρ S1 (.lst xs.reverse) Q from af).up le |>.lst s1 rr.reverse q hq
    | ex c fs S1 => rw [e] at af; exact af
    | bad => rw [e] at af; exact af
/-- what e tells while a dict is locked -/
theorem s_thw {i : Nat} {m : ME} {e : Expr} (hw : G.w = X.w) (he : PE X e (tEx X.K P F G m)) : PE X e (tE X.K P F G W (.thw i m)) := by
  refine ⟨fun pins s σ H Q I ⟨B, ρ, v, S, sim, er, af⟩ => ?_⟩
  have af : Aft X.K G (fun c d => W c d σ) B ρ (match v[i]? with
    | some (some (.loc l)) => (match S[l]? with
      | some (.dn false kvs) => (match ev P F m v (S.set l (.dn true kvs)) with
        | .ok d S1 => (match S1[l]? with
          | some (.dn true kvs') => .ok d (S1.set l (.dn false kvs'))
          | _ => .bad)
        | _ => .bad)
      | _ => .bad)
    | _ => .bad) Q := af
  split at af
  · rename_i l hv
    split at af
    · rename_i kd hs
      obtain ⟨a, ea, ks, hH, r⟩ := sim.obj _ _ hs
      have mu : Mut (some (DnO G.w a ks)) := trivial
      obtain ⟨od, I1⟩ := I.lock hH mu
      have hn := I.nofrz hH mu
      obtain ⟨hf, s1⟩ := sim.lock (b := od) ea hs hH r
      refine thn (he.run pins s σ _ (fun x H1 => ∃ B1 ρ1 S1 d, Le B ρ B1 ρ1 ∧ Sim X.K (G.put (upd G.fr a (.frz od (DnO G.w a ks)))) B1 ρ1 S1 H1 ∧ Rep X.K G B1 ρ1 x d ∧ ev P F m v (S.set l (.dn true kd)) = .ok d S1) I1 ⟨_, B, ρ, v, _, s1, er, ?_⟩) fun u s' ⟨x, H1, I2, rx, B1, ρ1, S1, d, le, s2, rd, e1⟩ => ?_
      · cases e1 : ev P F m v (S.set l (.dn true kd)) with
        | ok d S1 => exact fun u H1 B1 ρ1 le s2 rd => ⟨B1, ρ1, S1, d, le, s2, rd, rfl⟩
        | ex c fs S1 => rw [e1] at af; exact af.elim
        | bad => rw [e1] at af; exact af.elim
      · rw [e1] at af
        simp only at af
        split at af
        · rename_i kd' hs'
          obtain ⟨h1, s3⟩ := s2.unlock hf (le.at ea) hs'
          exact ⟨x, _, I2.unlock h1 hn, rx, af _ _ _ _ le s3 rd⟩
        · exact af.elim
    · exact af.elim
  · exact af.elim
/-- {}, to hold keys that are tuples -/
theorem s_dnw (hw : G.w = X.w) : PE X (.Dict [] [] pos) (tE X.K P F G W .dnw) :=
  pe_dnewN.imp fun σ H Q ⟨B, ρ, v, S, sim, er, af⟩ => fun p hp => by
    have af : Post X.K G B ρ (S ++ [.dn false []]) (.loc S.length) Q := af
    exact new_loc (m := .dn false []) sim hp (fun B' ρ' le => ⟨[], by rw [← hw]; exact upd_same, .nil⟩) af
/-- {} -/
theorem a_dct0 : PE X (.Dict [] [] pos) (tE X.K P F G W (.alc (.dct [] []))) :=
  pe_dnewK.imp fun σ H Q ⟨B, ρ, v, S, sim, er, af⟩ => fun p hp => by
    have af : Post X.K G B ρ (S ++ [.dk []]) (.loc S.length) Q := af
    exact new_loc (m := .dk []) sim hp (fun B' ρ' le => ⟨[], upd_same, .nil⟩) af
end
end Mi
end
section
set_option autoImplicit false
set_option linter.all false
set_option maxRecDepth 100000
/-! Mi17: statements -/
namespace Mi
open PySem PySem.Spec PyProof.Rows L2

def AftS (K : PySem.W.Frag) (G : Ga) (W : WX) (B : Hp) (ρ : List Addr) (r : RS) (D : Ends) : Prop := match r with
  | .nx v S' => ∀ (σ' : L2.St) (H' B' : Hp) (ρ' : List Addr), Le B ρ B' ρ' → Sim K G B' ρ' S' H' → EnvR K G B' ρ' σ' v → D.nx σ' H'
  | .rt d S' => Post K G B ρ S' d D.rt
  | .bk v S' => ∀ (σ' : L2.St) (H' B' : Hp) (ρ' : List Addr), Le B ρ B' ρ' → Sim K G B' ρ' S' H' → EnvR K G B' ρ' σ' v → D.bk σ' H'
  | .ct v S' => ∀ (σ' : L2.St) (H' B' : Hp) (ρ' : List Addr), Le B ρ B' ρ' → Sim K G B' ρ' S' H' → EnvR K G B' ρ' σ' v → D.ct σ' H'
  | .ex c fs v S' => ∀ (dd : Addr) (fv : List (Str × V)) (σ' : L2.St) (H' B' : Hp) (ρ' : List Addr), Le B ρ B' ρ' → Sim K G B' ρ' S' H' → EnvR K G B' ρ' σ' v → H' dd = some (.xd fv) → ExF K G B' ρ' fv fs → W (.ref (G.cl c)) (some dd) σ' H'
  | .bad => False
theorem AftS.up {K : PySem.W.Frag} {G : Ga} {W : WX} {B B' : Hp} {ρ ρ' : List Addr} {r : RS} {D : Ends} (h : AftS K G W B ρ r D) (le : Le B ρ B' ρ') : AftS K G W B' ρ' r D := by
  cases r with
  | nx v S => exact fun σ H B2 ρ2 l => h σ H B2 ρ2 (le.trans l)
  | rt d S => exact Post.up h le
  | bk v S => exact fun σ H B2 ρ2 l => h σ H B2 ρ2 (le.trans l)
  | ct v S => exact fun σ H B2 ρ2 l => h σ H B2 ρ2 (le.trans l)
  | ex c fs v S => exact fun dd fv σ H B2 ρ2 l => h dd fv σ H B2 ρ2 (le.trans l)
  | bad => exact h
def tS (K : PySem.W.Frag) (P : Pg) (F : Fo) (G : Ga) (W : WX) (m : MS) : TS := fun D σ H => ∃ B ρ v S, Sim K G B ρ S H ∧ EnvR K G B ρ σ v ∧ AftS K G W B ρ (evS P F m v S) D
def tB (K : PySem.W.Frag) (P : Pg) (F : Fo) (G : Ga) (W : WX) (ms : List MS) : TS := fun D σ H => ∃ B ρ v S, Sim K G B ρ S H ∧ EnvR K G B ρ σ v ∧ AftS K G W B ρ (evB P F ms v S) D
theorem _root_.L2.PS.imp {X : Cx} {e : Stmt} {t t' : TS} (h : PS X e t) (k : ∀ D σ H, t' D σ H → t D σ H) : PS X e t' := ⟨fun pins s σ H D I q => h.run pins s σ H D I (k D σ H q)⟩
theorem _root_.L2.PSs.imp {X : Cx} {e : List Stmt} {t t' : TS} (h : PSs X e t) (k : ∀ D σ H, t' D σ H → t D σ H) : PSs X e t' := ⟨fun pins s σ H D I q => h.run pins s σ H D I (k D σ H q)⟩

section
variable {K : PySem.W.Frag} {P : Pg} {F : Fo} {G : Ga} {W : WX} {σ : L2.St} {H B : Hp} {ρ : List Addr} {v : Env} {S : Sto}
/-- an expression at a statement's beginning: what it comes to, and what follows -/
theorem aft_of {m : ME} {k : D → Sto → RS} {Dn : Ends} {Q : VK} (sim : Sim K G B ρ S H) (er : EnvR K G B ρ σ v) (h : AftS K G W B ρ (bindS (ev P F m v S) v k) Dn)
    (q : ∀ u H' B' ρ' d S', Le B ρ B' ρ' → Sim K G B' ρ' S' H' → EnvR K G B' ρ' σ v → Rep K G B' ρ' u d → AftS K G W B' ρ' (k d S') Dn → Q u H') : Aft K G (fun c d => W c d σ) B ρ (ev P F m v S) Q := by
  cases e : ev P F m v S with
  | ok d S1 => rw [e] at h; exact fun u H' B' ρ' le s r => q u H' B' ρ' d S1 le s (er.up le) r (AftS.up h le)
  | ex c fs S1 => rw [e] at h; exact fun dd fv H' B' ρ' le s hd hf => h dd fv σ H' B' ρ' le s (er.up le) hd hf
  | bad => rw [e] at h; exact h
theorem tE_of {m : ME} {k : D → Sto → RS} {Dn : Ends} {Q : VK} (sim : Sim K G B ρ S H) (er : EnvR K G B ρ σ v) (h : AftS K G W B ρ (bindS (ev P F m v S) v k) Dn)
    (q : ∀ u H' B' ρ' d S', Le B ρ B' ρ' → Sim K G B' ρ' S' H' → EnvR K G B' ρ' σ v → Rep K G B' ρ' u d → AftS K G W B' ρ' (k d S') Dn → Q u H') : tE K P F G W m σ H Q := ⟨B, ρ, v, S, sim, er, aft_of sim er h q⟩
/-- e; t = e -/
theorem asg_read {mt : MT} {me : ME} {Dn : Ends} (h : tS K P F G W (.asg mt me) Dn σ H) : tE K P F G W me σ H fun x H1 => tG K G mt x σ H1 Dn.nx := by
  obtain ⟨B, ρ, v, S, sim, er, af⟩ := h
  have af : AftS K G W B ρ (bindS (ev P F me v S) v fun d S1 => (match bindM S1 mt d v with
    | some v' => .nx v' S1
    | none => .bad)) Dn := af
  refine tE_of sim er af fun u H1 B1 ρ1 d S1 le s1 er1 r af1 => ?_
  cases e : bindM S1 mt d v with
  | none => rw [e] at af1; exact af1.elim
  | some v' =>
    rw [e] at af1
    exact ⟨G.fr, B1, ρ1, v, S1, d, v', s1, er1, r, e, fun σ' er' _ => af1 σ' H1 B1 ρ1 Le.refl s1 er'⟩
theorem tG_name {i : Nat} {x : V} {Q : L2.St → Hp → Prop} (h : tG K G (.nm i) x σ H Q) : gName i x σ H Q := by
  obtain ⟨φ, B, ρ, e, S, d, e', sim, er, r, hb, q⟩ := h
  have hb : some (e.set i (some d)) = some e' := hb
  cases hb
  exact q _ (er.set r) ⟨List.length_set .., fun j hj => List.getElem?_set_ne fun z => hj (by rw [z]; exact List.mem_cons_self ..)⟩
end
section
variable {P : Pg} {F : Fo} {G : Ga} {X : Cx} {W : WX} {a b e tg : Expr} {me ma mb : ME} {mt : MT} {ms : List MS} {st : Stmt} {sts : List Stmt} {pos pos' spos py : Pos}
theorem ss_nil : PSs X [] (tB X.K P F G W []) := pss_nil.imp fun D σ H ⟨B, ρ, v, S, sim, er, af⟩ => af σ H B ρ Le.refl sim er
theorem ss_cons {m : MS} (h1 : PS X st (tS X.K P F G W m)) (h2 : PSs X sts (tB X.K P F G W ms)) : PSs X (st :: sts) (tB X.K P F G W (m :: ms)) :=
  (pss_cons h1 h2).imp fun D σ H ⟨B, ρ, v, S, sim, er, af⟩ => by
    have af : AftS X.K G W B ρ (match evS P F m v S with
      | .nx v' S' => evB P F ms v' S'
      | q => q) D := af
    refine ⟨B, ρ, v, S, sim, er, ?_⟩
    cases e : evS P F m v S with
    | nx v' S' => rw [e] at af; exact fun σ' H' B' ρ' le s er' => ⟨B', ρ', v', S', s, er', AftS.up af le⟩
    | _ => rw [e] at af; exact af
theorem st_pass : PS X (.Pass pos) (tS X.K P F G W .pas) := ps_pass.imp fun D σ H ⟨B, ρ, v, S, sim, er, af⟩ => (show AftS X.K G W B ρ (.nx v S) D from af) σ H B ρ Le.refl sim er
theorem st_brk : PS X (.Break pos) (tS X.K P F G W .brk) := ps_break.imp fun D σ H ⟨B, ρ, v, S, sim, er, af⟩ => (show AftS X.K G W B ρ (.bk v S) D from af) σ H B ρ Le.refl sim er
theorem st_cnt : PS X (.Continue pos) (tS X.K P F G W .cnt) := ps_continue.imp fun D σ H ⟨B, ρ, v, S, sim, er, af⟩ => (show AftS X.K G W B ρ (.ct v S) D from af) σ H B ρ Le.refl sim er
theorem st_retN : PS X (.Return none pos) (tS X.K P F G W .retN) := ps_retN.imp fun D σ H ⟨B, ρ, v, S, sim, er, af⟩ => (show Post X.K G B ρ S .non D.rt from af).here sim .non
theorem st_ret (he : PE X e (tE X.K P F G W me)) : PS X (.Return (some e) pos) (tS X.K P F G W (.ret me)) :=
  (ps_ret he).imp fun D σ H ⟨B, ρ, v, S, sim, er, af⟩ => tE_of sim er (show AftS X.K G W B ρ (bindS (ev P F me v S) v fun d S1 => .rt d S1) D from af) fun u H' B' ρ' d S' le s er' r q => (show Post X.K G B' ρ' S' d D.rt from q).here s r
theorem st_exp (he : PE X e (tE X.K P F G W me)) (hs : swapsWith e none pos.line X.env = pure false) : PS X (.Expr e pos) (tS X.K P F G W (.exp me)) :=
  (ps_expr he hs).imp fun D σ H ⟨B, ρ, v, S, sim, er, af⟩ => tE_of sim er (show AftS X.K G W B ρ (bindS (ev P F me v S) v fun _ S1 => .nx v S1) D from af) fun u H' B' ρ' d S' le s er' r q => q σ H' B' ρ' Le.refl s er'
theorem st_if {c : Expr} {mq : MQ} {as bs : List Stmt} {mas mbs : List MS} (hc : PT X c (tQ X.K P F G W mq)) (ha : PSs X as (tB X.K P F G W mas)) (hb : PSs X bs (tB X.K P F G W mbs)) : PS X (.If c as bs pos) (tS X.K P F G W (.iff mq mas mbs)) :=
  (ps_if hc ha hb).imp fun D σ H ⟨B, ρ, v, S, sim, er, af⟩ => by
    have af : AftS X.K G W B ρ (match evT P F mq v S with
      | .ok t S1 => if t then evB P F mas v S1 else evB P F mbs v S1
      | .ex e fs S1 => .ex e fs v S1
      | .bad => .bad) D := af
    refine ⟨B, ρ, v, S, sim, er, ?_⟩
    cases e : evT P F mq v S with
    | ok t S1 =>
      rw [e] at af
      intro H' B' ρ' le s
      cases t with
      | true => exact ⟨B', ρ', v, S1, s, er.up le, AftS.up af le⟩
      | false => exact ⟨B', ρ', v, S1, s, er.up le, AftS.up af le⟩
    | ex c fs S1 => rw [e] at af; exact fun dd fv H' B' ρ' le s hd hf => af dd fv σ H' B' ρ' le s (er.up le) hd hf
    | bad => rw [e] at af; exact af
/-! ### assignments -/
theorem st_set {i : Nat} {x : Str} (hN : X.N.Nodup) (hi : X.N[i]? = some x) (hx : Loc X.env.scope x) (he : PE X e (tE X.K P F G W me)) (hs : swapsWith e (some (.Name x pos')) pos.line X.env = pure false) (hf : X.fn x = true ∨ X.env.scope.names.lookup x = some .local) :
    PS X (.Assign [.Name x pos'] e pos) (tS X.K P F G W (.asg (.nm i) me)) := (ps_set hN hi hx he hs hf).imp fun D σ H h => by
  obtain ⟨B, ρ, v, S, sim, er, af⟩ := asg_read h
  refine ⟨B, ρ, v, S, sim, er, ?_⟩
  cases e : ev P F me v S with
  | ok d S1 => rw [e] at af; exact fun u H' B' ρ' le s r => tG_name (af u H' B' ρ' le s r)
  | ex c fs S1 => rw [e] at af; exact af
  | bad => rw [e] at af; exact af
theorem st_asg (he : PE X e (tE X.K P F G W me)) (hg : PG X tg (tG X.K G mt)) (hs : swapsWithSole [tg] e pos.line X.env = pure false) (hw : swappedStores [tg] e X.env = pure none) (h1 : (assignEach [tg] X.env).map (·.2) = [assign tg X.env]) :
    PS X (.Assign [tg] e pos) (tS X.K P F G W (.asg mt me)) := (ps_asg he hg hs hw h1).imp fun D σ H h => asg_read h
theorem tE_imp {K : PySem.W.Frag} {m : ME} {σ : L2.St} {H : Hp} {Q Q' : VK} (h : tE K P F G W m σ H Q) (k : ∀ u H, Q u H → Q' u H) : tE K P F G W m σ H Q' := by
  obtain ⟨B, ρ, v, S, sim, er, af⟩ := h
  refine ⟨B, ρ, v, S, sim, er, ?_⟩
  cases e : ev P F m v S with
  | ok d S1 => rw [e] at af; exact fun u H' B' ρ' le s r => k _ _ (af u H' B' ρ' le s r)
  | ex c fs S1 => rw [e] at af; exact af
  | bad => rw [e] at af; exact af
end
end Mi
end
section
set_option autoImplicit false
set_option linter.all false
set_option maxRecDepth 100000
/-! Mi18: more statements -/
namespace Mi
open PySem PySem.Spec PyProof.Rows L2

section
variable {P : Pg} {F : Fo} {G : Ga} {W : WX} {me : ME} {mt mt1 : MT} {mi mi1 : MI} {mc mc1 : Option MQ} {ws ws1 : List Nat} {K : PySem.W.Frag} {σ : L2.St} {H : Hp} {Q : VK}
theorem lc_tE (hsl : ∀ i ∈ slots mt, i ∈ ws) (h : tE K P F G W (.lc me mt mi mc ws) σ H Q) : tLc (tI K P F G W mi) (tG K G mt) (tC K P F G mc) (tEx K P F G me) ws σ H Q := by
  obtain ⟨B, ρ, v, S, sim, er, af⟩ := h
  exact lc_read hsl (f := fun d S => .ok d S) ⟨B, ρ, v, S, sim, er, by rw [bind1_ok]; exact af⟩ fun B ρ S H acc vs D s _ r hf q => by
    obtain ⟨s', le⟩ := s.adopt hf
    exact q _ H _ ρ le s' (.lst upd_same (r.up le))
theorem lc_tA (hsl : ∀ i ∈ slots mt, i ∈ ws) (h : tE K P F G W (.alc (.lc me mt mi mc ws)) σ H Q) : tLc (tI K P F G W mi) (tG K G mt) (tC K P F G mc) (tEx K P F G me) ws σ H Q := by
  obtain ⟨B, ρ, v, S, sim, er, af⟩ := h
  exact lc_read hsl (f := alcF) ⟨B, ρ, v, S, sim, er, af⟩ fun B ρ S H acc vs D s _ r hf q => by
    obtain ⟨s', le⟩ := s.join hf r
    exact q _ H _ _ le s' (.loc (by rw [← s.len]; simp))
theorem lc2_tE (hsl : ∀ i ∈ slots mt, i ∈ ws) (hsl1 : ∀ i ∈ slots mt1, i ∈ ws1) (h : tE K P F G W (.lc2 me mt mi mc mt1 mi1 mc1 ws ws1) σ H Q) : tLc2 (tI K P F G W mi) (tG K G mt) (tC K P F G mc) (tIx K P F G mi1) (tG K G mt1) (tC K P F G mc1) (tEx K P F G me) ws ws1 σ H Q := by
  obtain ⟨B, ρ, v, S, sim, er, af⟩ := h
  exact lc2_read hsl hsl1 (f := fun d S => .ok d S) ⟨B, ρ, v, S, sim, er, by rw [bind1_ok]; exact af⟩ fun B ρ S H acc vs D s _ r hf q => by
    obtain ⟨s', le⟩ := s.adopt hf
    exact q _ H _ ρ le s' (.lst upd_same (r.up le))
theorem lc2_tA (hsl : ∀ i ∈ slots mt, i ∈ ws) (hsl1 : ∀ i ∈ slots mt1, i ∈ ws1) (h : tE K P F G W (.alc (.lc2 me mt mi mc mt1 mi1 mc1 ws ws1)) σ H Q) : tLc2 (tI K P F G W mi) (tG K G mt) (tC K P F G mc) (tIx K P F G mi1) (tG K G mt1) (tC K P F G mc1) (tEx K P F G me) ws ws1 σ H Q := by
  obtain ⟨B, ρ, v, S, sim, er, af⟩ := h
  exact lc2_read hsl hsl1 (f := alcF) ⟨B, ρ, v, S, sim, er, af⟩ fun B ρ S H acc vs D s _ r hf q => by
    obtain ⟨s', le⟩ := s.join hf r
    exact q _ H _ _ le s' (.loc (by rw [← s.len]; simp))
end
section
variable {P : Pg} {F : Fo} {G : Ga} {X : Cx} {W : WX} {a b o e tg iter : Expr} {me ma mb mo mx mj : ME} {mt : MT} {mi : MI} {ms : List MS} {st : Stmt} {sts : List Stmt} {pos pos' spos py px pt pt2 tpos : Pos}
/-- a, b = x, y of plain local names -/
theorem st_par {i j : Nat} {x y : Str} {kt k2 : Nat} (hc : X.calm = true) (hN : X.N.Nodup) (hi : X.N[i]? = some x) (hj : X.N[j]? = some y) (hij : i ≠ j)
    (hx : X.env.scope.names.lookup x = some .local) (hy : X.env.scope.names.lookup y = some .local) (ha : PA X [a, b] (tL X.K P F G W [ma, mb]))
    (hw : swappedStores [.Tuple [.Name x px, .Name y py] kt pt] (.Tuple [a, b] k2 pt2) X.env = pure (some [x, y]))
    (hs : swapsWithSole [.Tuple [.Name x px, .Name y py] kt pt] (.Tuple [a, b] k2 pt2) pos.line X.env = pure false) :
    PS X (.Assign [.Tuple [.Name x px, .Name y py] kt pt] (.Tuple [a, b] k2 pt2) pos) (tS X.K P F G W (.asg (.tp [.nm i, .nm j]) (.tup [ma, mb]))) :=
  (ps_par hc hN hi hj hij hx hy ha hw hs).imp fun D σ H ⟨B, ρ, v, S, sim, er, af⟩ => by
    have af : AftS X.K G W B ρ (bindS (bindL (evs P F [ma, mb] v S) fun ds S1 => if ds.length ≤ LIM then .ok (.tup ds) S1 else .bad) v fun d S1 => (match bindM S1 (.tp [.nm i, .nm j]) d v with
      | some v' => .nx v' S1
      | none => .bad)) D := af
    refine ⟨B, ρ, v, S, sim, er, ?_⟩
    cases e1 : evs P F [ma, mb] v S with
    | ok ds S1 =>
      rw [e1] at af
      intro us H1 B1 ρ1 le s1 rs
      simp only [bindL] at af
      by_cases hz : ds.length ≤ LIM
      · rw [if_pos hz] at af
        have af : AftS X.K G W B ρ (match bindMs S1 [.nm i, .nm j] ds v with
          | some v' => .nx v' S1
          | none => .bad) D := af
        cases e2 : bindMs S1 [.nm i, .nm j] ds v with
        | none => rw [e2] at af; exact af.elim
        | some v' =>
          rw [e2] at af
          have hl := bindMs_len e2
          match ds, hl with
          | [d1, d2], _ =>
            obtain ⟨u, w, rfl, ru, rw'⟩ := reps2 rs
            have e2 : some ((v.set i (some d1)).set j (some d2)) = some v' := e2
            cases e2
            exact ⟨u, w, rfl, af _ H1 B1 ρ1 le s1 (((er.up le).set ru).set rw')⟩
      · rw [if_neg hz] at af; exact af.elim
    | ex c fs S1 => rw [e1] at af; exact fun dd fv H' B' ρ' le s hd hf => af dd fv σ H' B' ρ' le s (er.up le) hd hf
    | bad => rw [e1] at af; exact af
/-! ### stores into lists, dicts, fields -/
theorem o_set (hw : G.w = X.w) (hu : X.A.units + 100 < cLine) {pins : List (Addr × Obj)} {s : Shared} {σ : L2.St} {H B : Hp} {ρ : List Addr} {S S' : Sto} {x j y : V} {u w r : Value} {dx dj dy : D} {Q : Hp → Prop} (I : Inv X pins σ H s) (sim : Sim X.K G B ρ S H) (rx : RelV x u) (rj : RelV j w) (ry : RelV y r)
    (px : Rep X.K G B ρ x dx) (pj : Rep X.K G B ρ j dj) (py : Rep X.K G B ρ y dy) (e : setD S dx dj dy = some S') (q : ∀ H', Sim X.K G B ρ S' H' → Q H') : wpAny (model X.prog X.w) X.A (setItem u w r) (fun _ s' => ∃ H', Inv X pins σ H' s' ∧ Q H') X.xe s := by
  unfold setD at e
  split at e
  · split at e
    · rename_i xs hs
      obtain ⟨p, vs, rfl, hp, hl, rr⟩ := loc_lst sim px hs
      split at e
      · obtain ⟨i, h1, rfl⟩ := Option.map_eq_some_iff.mp e
        rw [← rr.length] at h1
        exact set_list pins s σ H _ _ _ u w r Q I rx rj ry ⟨p, vs, _, i, rfl, pj.int_inv, hl, h1, q _ (put_list sim hp hl (rr.set py i))⟩
      · cases e
    · rename_i kd hs
      obtain ⟨p, kv, rfl, hp, hl, rk⟩ := loc_dk sim px hs
      split at e
      · rename_i k hk
        split at e
        · rename_i hz; cases e
          cases rx
          have ej := toKey_inv pj hk
          subst ej
          exact d_setItem (by omega) I (DPut.k (k := k) hl (by rw [rk.length, ← LIM_eq]; exact hz)) rj ry fun s' I' => ⟨_, I', q _ (sim.put hp (fun _ _ z => by rw [hl] at z; cases z) ⟨_, upd_same, rk.put py⟩)⟩
        · cases e
      · cases e
    · rename_i kd hs
      split at e
      · rename_i k hk
        split at e
        · rename_i hz; cases e
          cases px with
          | loc h =>
            obtain ⟨p, ep, ks, hl, rk⟩ := sim.obj _ _ hs
            rw [h] at ep; cases ep
            cases rx
            obtain ⟨b, rfl, hb⟩ := tk_is I sim.sub pj hk
            cases rj
            exact n_setItem (by omega) I (by rw [← hw]; exact hl) (by rw [rk.length, ← LIM_eq]; exact hz) (rk.keys I sim.sub) hb ry fun s' I' => ⟨_, I', q _ (by
              rw [← hw]
              exact sim.put h (fun _ _ z => by rw [hl] at z; unfold DnO at z; cases z) ⟨_, upd_same, rk.put pj hk py⟩)⟩
        · cases e
      · cases e
    · cases e
  · cases e
theorem st_setI (hw : G.w = X.w) (hu : X.A.units + 100 < cLine) (he : PE X e (tE X.K P F G W me)) (ho : PE X o (tE X.K P F G W mo)) (hi : PE X a (tE X.K P F G W ma)) (hs : swapsWith e (some (.Subscript o a pos')) pos.line X.env = pure false) :
    PS X (.Assign [.Subscript o a pos'] e pos) (tS X.K P F G W (.setI mo ma me)) := by
  refine ⟨fun pins s σ H D I ⟨B, ρ, v, S, sim, er, af⟩ => ?_⟩
  have af : AftS X.K G W B ρ (bindS (ev P F me v S) v fun y S1 => bindS (ev P F mo v S1) v fun x S2 => bindS (ev P F ma v S2) v fun j S3 => nxO v (setD S3 x j y)) D := af
  refine wpAny_Assign_Subscript ?_ hs
  refine thn (he.run pins s σ H _ I (tE_of sim er af (Q := fun u H' => ∃ B' ρ' d S', Sim X.K G B' ρ' S' H' ∧ EnvR X.K G B' ρ' σ v ∧ Rep X.K G B' ρ' u d ∧ AftS X.K G W B' ρ' (bindS (ev P F mo v S') v fun x S2 => bindS (ev P F ma v S2) v fun j S3 => nxO v (setD S3 x j d)) D) fun u H' B' ρ' d S' le s er r q => ⟨B', ρ', d, S', s, er, r, q⟩)) fun r s1 ⟨y, H1, I1, ry, B1, ρ1, d, S1, sim1, er1, rd, af1⟩ => ?_
  refine thn (ho.run pins s1 σ H1 _ I1 (tE_of sim1 er1 af1 (Q := fun u H' => ∃ B' ρ' dx S', Le B1 ρ1 B' ρ' ∧ Sim X.K G B' ρ' S' H' ∧ EnvR X.K G B' ρ' σ v ∧ Rep X.K G B' ρ' u dx ∧ AftS X.K G W B' ρ' (bindS (ev P F ma v S') v fun j S3 => nxO v (setD S3 dx j d)) D) fun u H' B' ρ' d S' le s er r q => ⟨B', ρ', d, S', le, s, er, r, q⟩)) fun u s2 ⟨x, H2, I2, rx, B2, ρ2, dx, S2, le2, sim2, er2, rdx, af2⟩ => ?_
  refine thn (hi.run pins s2 σ H2 _ I2 (tE_of sim2 er2 af2 (Q := fun u H' => ∃ B' ρ' dj S', Le B2 ρ2 B' ρ' ∧ Sim X.K G B' ρ' S' H' ∧ EnvR X.K G B' ρ' σ v ∧ Rep X.K G B' ρ' u dj ∧ AftS X.K G W B' ρ' (nxO v (setD S' dx dj d)) D) fun u H' B' ρ' d S' le s er r q => ⟨B', ρ', d, S', le, s, er, r, q⟩)) fun w s3 ⟨j, H3, I3, rj, B3, ρ3, dj, S3, le3, sim3, er3, rdj, af3⟩ => ?_
  cases hq : setD S3 dx dj d with
  | none => rw [hq] at af3; exact af3.elim
  | some S4 =>
    rw [hq] at af3
    exact thn (o_set hw hu I3 sim3 rx rj ry (rdx.up le3) rdj ((rd.up le2).up le3) hq (Q := fun H' => D.nx σ H') fun H' s' => af3 σ H' B3 ρ3 Le.refl s' er3) fun _ s4 ⟨H4, I4, q4⟩ => ⟨σ, H4, I4, q4⟩
/-- o.f = e -/
theorem setF_inv {S S' : Sto} {x y : D} {f : Nat} (e : setF S x f y = some S') : ∃ l c fs, x = .loc l ∧ S[l]? = some (.ins c fs) ∧ fs.length < 900 ∧ S' = S.set l (.ins c (putF f y fs)) := by
  unfold setF at e
  cases x with
  | loc l =>
    simp only at e
    cases hl : S[l]? with
    | none => rw [hl] at e; cases e
    | some m =>
      rw [hl] at e
      cases m with
      | ins c fs =>
        simp only at e
        split at e
        · rename_i hz; cases e; exact ⟨l, c, fs, rfl, hl, hz, rfl⟩
        · cases e
      | _ => cases e
  | _ => cases e
theorem st_setA {f : Nat} (wd : Wd P X.K X.mg G) (he : PE X e (tE X.K P F G W me)) (ho : PE X o (tE X.K P F G W mo)) (hs : swapsWith e (some (.Attribute o (G.nm f) pos')) pos.line X.env = pure false) :
    PS X (.Assign [.Attribute o (G.nm f) pos'] e pos) (tS X.K P F G W (.setA mo f me)) := (ps_fld ho he hs).imp fun D σ H ⟨B, ρ, v, S, sim, er, af⟩ => by
  have af : AftS X.K G W B ρ (bindS (ev P F me v S) v fun y S1 => bindS (ev P F mo v S1) v fun x S2 => if fldOk P S2 x f then nxO v (setF S2 x f y) else .bad) D := af
  refine tE_of sim er af fun y H1 B1 ρ1 d S1 le1 s1 er1 rd af1 => ?_
  refine tE_of s1 er1 af1 fun x H2 B2 ρ2 dx S2 le2 s2 er2 rx af2 => ?_
  by_cases hf : fldOk P S2 dx f = true
  · rw [if_pos hf] at af2
    cases hq : setF S2 dx f d with
    | none => rw [hq] at af2; exact af2.elim
    | some S3 =>
      rw [hq] at af2
      obtain ⟨l, c, fs, rfl, hl, hz, rfl⟩ := setF_inv hq
      obtain ⟨p, dxx, fv, rfl, hp, hh, rf⟩ := loc_ins s2 rx hl
      have hc : clsOf S2 (.loc l) = some c := by unfold clsOf; simp only; rw [hl]
      unfold fldOk at hf
      rw [hc] at hf
      simp only [Option.bind_some] at hf
      cases hk : P.cls[c]? with
      | none => rw [hk] at hf; cases hf
      | some k =>
        rw [hk] at hf
        have hm : f ∈ k.flds := by simpa using hf
        have h0 : k.exf = none := by
          rcases wd.exc c k hk with h | ⟨h, _⟩
          · exact h
          · rw [h] at hm; cases hm
        exact ⟨p, _, dxx, fv, rfl, hh, wd.cls c k hk h0, wd.fld c k f hk h0 hm, by rw [rf.length]; omega, af2 σ _ B2 ρ2 Le.refl (s2.put hp (fun _ _ z => by rw [hh] at z; cases z) ⟨dxx, _, upd_same, putF_rep wd.inj (rd.up le2) rf⟩) er2⟩
  · rw [if_neg hf] at af2; exact af2.elim
/-- o.f += e -/
theorem st_augA {f : Nat} (wd : Wd P X.K X.mg G) (he : PE X e (tE X.K P F G W me)) (ho : PE X o (tE X.K P F G W mo)) :
    PS X (.AugAssign (.Attribute o (G.nm f) tpos) .Add e pos) (tS X.K P F G W (.augA mo f .Add me)) := (ps_fldaug ho he in_add).imp fun D σ H ⟨B, ρ, v, S, sim, er, af⟩ => by
  have af : AftS X.K G W B ρ (bindS (ev P F mo v S) v fun a S1 => (match (if fldOk P S1 a f then attD S1 a f else none), Operator.Add with
    | some (.int z), .Add => bindS (ev P F me v S1) v fun y S2 => (match y with
      | .int w => if clsOf S2 a = clsOf S1 a then nxO v (setF S2 a f (.int (z + w))) else .bad
      | _ => .bad)
    | _, _ => .bad)) D := af
  refine tE_of sim er af fun x H1 B1 ρ1 dx S1 le1 s1 er1 rx af1 => ?_
  by_cases hf : fldOk P S1 dx f = true
  · rw [if_pos hf] at af1
    cases ha : attD S1 dx f with
    | none => rw [ha] at af1; exact af1.elim
    | some d0 =>
      rw [ha] at af1
      cases d0 with
      | int z =>
        simp only at af1
        obtain ⟨p, c, dd, fv, w0, rfl, hp, hc, hl, rz⟩ := att_of wd.inj s1 rx ha
        unfold fldOk at hf
        rw [hc] at hf
        simp only [Option.bind_some] at hf
        cases hk : P.cls[c]? with
        | none => rw [hk] at hf; cases hf
        | some k =>
          rw [hk] at hf
          have hm : f ∈ k.flds := by simpa using hf
          have h0 : k.exf = none := by
            rcases wd.exc c k hk with h | ⟨h, _⟩
            · exact h
            · rw [h] at hm; cases hm
          refine ⟨p, _, dd, fv, w0, rfl, hp, wd.cls c k hk h0, wd.fld c k f hk h0 hm, hl, ?_⟩
          refine tE_of s1 er1 af1 fun y H2 B2 ρ2 dy S2 le2 s2 er2 ry af2 => ?_
          cases dy with
          | int w =>
            simp only at af2
            by_cases hcl : clsOf S2 dx = clsOf S1 dx
            · rw [if_pos hcl] at af2
              cases hq : setF S2 dx f (.int (z + w)) with
              | none => rw [hq] at af2; exact af2.elim
              | some S3 =>
                rw [hq] at af2
                obtain ⟨l, c2, fs, rfl, hl2, hz, rfl⟩ := setF_inv hq
                obtain ⟨p2, dxx, fv2, e2, hp2, hh, rf⟩ := loc_ins s2 (rx.up le2) hl2
                cases e2
                have hc2 : clsOf S2 (.loc l) = some c2 := by unfold clsOf; simp only; rw [hl2]
                rw [hc2, hc] at hcl
                cases hcl
                exact ⟨z, w, rz.int_inv, ry.int_inv, dxx, fv2, hh, by rw [rf.length]; omega, af2 σ _ B2 ρ2 Le.refl (s2.put hp2 (fun _ _ z => by rw [hh] at z; cases z) ⟨dxx, _, upd_same, putF_rep wd.inj (.int _) rf⟩) er2⟩
            · rw [if_neg hcl] at af2; exact af2.elim
          | _ => exact af2.elim
      | _ => exact af1.elim
  · rw [if_neg hf] at af1; exact af1.elim
end
end Mi
end
section
set_option autoImplicit false
set_option linter.all false
set_option maxRecDepth 100000
set_option maxHeartbeats 4000000
/-! MiX2: raise -/
namespace Mi
open PySem PySem.Spec PyProof.Rows L2
theorem lookup_mem {α : Type} {k : Str} {v : α} : ∀ {l : List (Str × α)}, (l.map (·.1)).Nodup → (k, v) ∈ l → l.lookup k = some v
  | [], _, h => nomatch h
  | (j, u) :: l, nd, h => by
    simp only [List.map_cons, List.nodup_cons] at nd
    rcases List.mem_cons.mp h with e | h
    · cases e; simp [List.lookup]
    · have ne : k ≠ j := fun e => nd.1 (by rw [← e]; exact List.mem_map.mpr ⟨_, h, rfl⟩)
      simp only [List.lookup, beq_eq_false_iff_ne.mpr ne]
      exact lookup_mem nd.2 h
theorem lookF_at {i : Nat} {d : D} : ∀ {ns : List Nat} {ds : List D}, lookF i (ns.zip ds) = some d → ∃ j : Nat, ns[j]? = some i ∧ ds[j]? = some d
  | [], ds, h => by simp [lookF] at h
  | n :: ns, [], h => by simp [lookF] at h
  | n :: ns, e :: ds, h => by
    rw [List.zip_cons_cons] at h
    unfold lookF at h
    split at h
    · rename_i hd
      have := of_decide_eq_true hd
      cases h
      exact ⟨0, by simp [this], by simp⟩
    · obtain ⟨j, h1, h2⟩ := lookF_at h
      exact ⟨j + 1, by simpa using h1, by simpa using h2⟩
theorem exf_zip {K : PySem.W.Frag} {G : Ga0} {B : Hp} {ρ : List Addr} {ns : List Nat} {us : List V} {ds : List D} (nd : (ns.map G.nm).Nodup) (rs : Reps K G B ρ us ds) (hl : ns.length = ds.length) : ExF K G B ρ ((ns.map G.nm).zip us).reverse (ns.zip ds) := by
  intro i d h
  obtain ⟨j, h1, h2⟩ := lookF_at h
  obtain ⟨v, h3, h4⟩ := rs.get h2
  refine ⟨v, lookup_mem ?_ ?_, h4⟩
  · rw [List.map_reverse, List.map_fst_zip (by rw [List.length_map, rs.length, hl]; exact Nat.le_refl _)]
    exact List.pairwise_reverse.mpr (nd.imp fun h => Ne.symm h)
  · rw [List.mem_reverse]
    refine List.mem_of_getElem? (i := j) ?_
    rw [List.getElem?_zip_eq_some]
    exact ⟨by rw [List.getElem?_map, h1]; rfl, h3⟩
section
variable {P : Pg} {G : Ga} {n : Nat} {X : Cx} {W : WX} {a : Expr} {es : List Expr} {ms : List ME} {p pos pos2 : Pos}
theorem st_rse (C : Cn P G n X W) {c : Nat} {k : ClI} {ns : List Nat} {x : Str} (hg : Gl X x) (hm : X.mg x = some (.ref (G.cl c))) (hc : P.cls[c]? = some k) (hx : k.exf = some ns) (hr : k.rs = true) (hdb : (x == ("__debug__" : Str)) = false)
    (ha : PA X (a :: es) (tL X.K P (run P n) G W ms)) (he : starEach (a :: es) X.env = (false, eval a X.env) :: starEach es X.env) (hpl : (backTo pos (starEach es X.env)).any (·.1) = false) :
    PS X (.Raise (some (.Call (.Name x p) (a :: es) [] pos)) none pos2) (tS X.K P (run P n) G W (.rse c ms)) := by
  obtain ⟨nd, E⟩ := C.wd.exi c k ns hc hx hr
  obtain ⟨fI, fd, ps, i1, i2, F1, hb⟩ := ini_ok (prog := X.prog) (w := X.w) (base := X.base) E
  refine (ps_raise C.calm C.tk (pmk_oex E.T i1 i2 F1 (C.rm.mono (by omega)) hb .nil passL hg hm ha hdb he hpl)).imp fun D σ H h => ?_
  obtain ⟨B, ρ, v, S, sim, er, af⟩ := h
  have af : AftS X.K G W B ρ (bindSL (evs P (run P n) ms v S) v fun ds S1 => (match (P.cls[c]?).bind (·.exf) with
      | some ns => if ns.length == ds.length then .ex c (ns.zip ds) v S1 else .bad
      | none => .bad)) D := af
  rw [hc] at af
  simp only [Option.bind_some, hx] at af
  refine ⟨B, ρ, v, S, sim, er, ?_⟩
  cases e : evs P (run P n) ms v S with
  | ok ds S1 =>
    rw [e] at af
    intro us H' B' ρ' le s rs
    simp only [bindSL] at af
    by_cases hz : (ns.length == ds.length) = true
    · rw [if_pos hz] at af
      have hl : ns.length = ds.length := by simpa using hz
      have hul : us.length = ns.length := by rw [rs.length, hl]
      have hE := E.le
      rw [List.length_map] at hE
      refine ⟨by omega, fun q hq => ⟨q, us, by simp, by rw [List.length_map]; exact hul, upd_same, fun d H2 hd1 hd2 e1 e2 e3 => ⟨rfl, d, _, e1, e2, ?_, ?_⟩⟩⟩
      · rw [upd_ne hd2] at hd1; exact hd1
      · have hdn : H' d = none := by rw [upd_ne hd2] at hd1; exact hd1
        refine af d _ σ _ B' ρ' le (s.more fun b o e => ?_) (er.up le) upd_same (exf_zip E.nd rs hl)
        have n1 : b ≠ d := ne_of_none e hdn
        have n2 : b ≠ q := ne_of_none e hq
        rw [upd_ne n1, del_ne n2, e3 b n2 n1, upd_ne n2]
        exact e
    · rw [if_neg hz] at af; exact af.elim
  | ex c' fs S1 => rw [e] at af; exact fun dd fv H' B' ρ' le s hd hf => af dd fv σ H' B' ρ' le s (er.up le) hd hf
  | bad => rw [e] at af; exact af
end
end Mi
end
section
set_option autoImplicit false
set_option linter.all false
set_option maxRecDepth 100000
set_option maxHeartbeats 4000000
/-! MiX3: several except clauses, with and without names: an exception that is in hand, clause by clause -/
namespace Mi
open PySem PySem.Spec PyProof.Rows L2
/-- an exception in hand at h, ahead of the clauses of X's try; (sI, B): how it came -/
structure InHand (X : Cx) (pins : List (Addr × Obj)) (σ : L2.St) (H : Hp) (a : Addr) (B : Heap) (sI s' : Shared) (h : Heap) (cls : Value) (d : Option Addr) : Prop where
  inv : Inv X pins σ H sI
  ok : X.Ok
  hs : X.stack = X.env :: X.outer
  hf : X.env.frame = some X.env.locals
  nb : ∀ b o, sI.heap.get? b = some o → b ∉ frs X.stack → B.get? b = some o
  na : H a = none
  os : s'.os = sI.os
  ag : AllBare s'.gens
  up : sI.heap.UpToSlots h
  fl : HandSPX.FlyingZ B (X.env :: X.outer) a (Zc cls d) h
section
variable {X : Cx} {pins : List (Addr × Obj)} {σ : L2.St} {H : Hp} {a : Addr} {B : Heap} {sI s' : Shared} {h : Heap} {cls : Value} {d : Option Addr} {D : Ends} {W : WX}
theorem InHand.now (C : InHand X pins σ H a B sI s' h cls d) : Inv X pins σ H { s' with heap := h } := C.inv.landed C.nb C.fl.1 C.up C.os C.ag
/-- the object, and that it is no frame of ours -/
theorem InHand.obj (C : InHand X pins σ H a B sI s' h cls d) : ∃ (o : Obj) (vs : Array Value), h.get? a = some o ∧ Zc cls d o ∧ o.data = .fields vs ∧ a ≠ X.env.locals ∧ a ∉ X.fs := by
  obtain ⟨o, vs, e1, e2, e3⟩ := C.fl.there
  have no : a ∉ frs (X.env :: X.outer) := fun hm => by
    obtain ⟨_, o', e', hn⟩ := C.fl.2.2.1.mem hm
    rw [e1] at e'; cases e'
    exact hn _ e3
  refine ⟨o, vs, e1, e2, e3, fun z => no ?_, fun hm => no ?_⟩
  · exact List.mem_filterMap.mpr ⟨X.env, List.mem_cons_self, by rw [C.hf, z]⟩
  · obtain ⟨e, he, q⟩ := List.mem_filterMap.mp hm
    exact List.mem_filterMap.mpr ⟨e, List.mem_cons_of_mem _ he, q⟩
/-- no clause is left: it flies on -/
theorem InHand.past (C : InHand X pins σ H a B sI s' h cls d) (tk : Takes X W) (w : W cls d σ H) : wpAny (model X.prog X.w) X.A (handleBy (.ref a) X.env []) (SP X pins D) X.xe { s' with heap := h } := by
  refine wpAny_handleBy_nil ?_
  have out : wpAny (model X.prog X.w) X.A (setFlight (.ref a) X.env.frame) (fun _ s4 => wpAny (model X.prog X.w) X.A (throw (.ref a) : Sem Flow) (SP X pins D) X.xe s4) X.xe { s' with heap := h } := by
    rw [C.hf]
    exact HandSPX.setFlight_upZ C.fl fun h4 hh4 up4 => wpAny_throw (tk _ _ ⟨a, B, sI, pins, σ, H, cls, d, rfl, C.inv, C.nb, C.up.trans up4, .inr (.inr (by rw [C.hs]; exact hh4)), C.na, C.os, C.ag, w⟩)
  obtain ⟨_, _, _, o, vs, T, oT, ts', e1, _, e2, e3, _⟩ := id C.fl
  unfold PySem.passOn
  refine wpAny_bind (wpAny_field e1 e2 e3 ?_)
  rw [if_neg (show ¬ ((Value.ref T == Value.none) = true) from by simp)]
  first
    | exact wpAny_bind (wpAny_pure (wpAny_bind out))
    | exact wpAny_bind out
/-- a clause's class is asked; then its suite, or the further clauses -/
theorem InHand.ask (C : InHand X pins σ H a B sI s' h cls d) {x : Str} {c : Value} {np pos' : Pos} {nm : Option Str} {suite : List Stmt} {hds : List ExceptHandler} {b : Bool} (hc : Names X x c) (hb : PySem.W.exmOne X.K cls c = some b) {Q : Flow → Shared → Prop}
    (no : b = false → wpAny (model X.prog X.w) X.A (handleBy (.ref a) X.env hds) Q X.xe { s' with heap := h })
    (yes : b = true → codeAny (model X.prog X.w) (X.A.mark (some (.ref a))) (.handlers (.ref a) [.ExceptHandler none nm suite pos'] X.env) (fun r s2 => match r with
      | .ok f => (match nm with
        | none => Q f s2
        | some n => wpAny (model X.prog X.w) X.A (do bindName X.env n .none; unbindBehindTheSuite X.env n pos') (fun _ s3 => Q f s3) X.xe s2)
      | .error e => cameBackBy (model X.prog X.w) X.A X.env X.xe e s2) { s' with heap := h }) :
    wpAny (model X.prog X.w) X.A (handleBy (.ref a) X.env (.ExceptHandler (some (.Name x np)) nm suite pos' :: hds)) Q X.xe { s' with heap := h } := by
  obtain ⟨o, vs, e1, z, e2, nL, nF⟩ := C.obj
  have S := C.now.suite e1 e2 C.na nL nF
  refine wpAny_handleBy_cons (codeAny_handlers_test ?_) (by intro q; cases q)
  have look : PySem.W.Looks (model X.prog X.w) h (typeOf (.ref a)) cls := fun A Q E s k q => wpAny_typeOf_ref (k _ _ e1) (by rw [z.1]; exact q)
  have here : wpAny (model X.prog X.w) (X.A.mark (some (.ref a))) (excMatches (.ref a) c) (fun b' s2 => b' = b ∧ s2 = { s' with heap := h }) (fun _ _ => False) { s' with heap := h } := (PySem.W.exm_one (M := model X.prog X.w) C.now.kIn look hb).here ⟨rfl, rfl⟩
  have named : ∀ {Q : Value → Shared → Prop} {E : Value → Shared → Prop}, Q c { s' with heap := h } → wpAny (model X.prog X.w) (X.A.mark (some (.ref a))) (eval (.Name x np) X.env) Q E { s' with heap := h } := fun {Q E} q => by
    obtain ⟨g, nd, m | ⟨m, bt, nn⟩⟩ := hc
    · exact ld_glob (X := X.suite a ((a, o) :: (X.pn ++ pins))) S g m q nd
    · exact ld_blt (X := X.suite a ((a, o) :: (X.pn ++ pins))) S g m bt q nn nd
  refine named (wpAny_mono here (fun b' s2 hq => ?_) fun _ _ z => z.elim)
  obtain ⟨rfl, rfl⟩ := hq
  cases b' with
  | true => exact yes rfl
  | false => exact no rfl
/-- a suite without a name -/
theorem InHand.take (C : InHand X pins σ H a B sI s' h cls d) {b₀ : Stmt} {suite : List Stmt} {pos' : Pos} {ts : Addr → Value → Option Addr → TS}
    (hsu : ∀ (a : Addr) (oe : Obj) (cls : Value) (d : Option Addr) (pn : List (Addr × Obj)), Zc cls d oe → (∃ vs, oe.data = .fields vs) → PSs (X.suite a ((a, oe) :: pn)) (b₀ :: suite) (ts a cls d)) (q : ts a cls d D σ H) :
    codeAny (model X.prog X.w) (X.A.mark (some (.ref a))) (.handlers (.ref a) [.ExceptHandler none none (b₀ :: suite) pos'] X.env) (fun r s2 => match r with
      | .ok f => SP X pins D f s2
      | .error e => cameBackBy (model X.prog X.w) X.A X.env X.xe e s2) { s' with heap := h } := by
  refine codeAny_handlers_suite (HandSPX.lands_againZ C.fl fun h4 fl4 up4 => ?_)
  have C4 : InHand X pins σ H a B sI s' h4 cls d := ⟨C.inv, C.ok, C.hs, C.hf, C.nb, C.na, C.os, C.ag, C.up.trans up4, fl4⟩
  obtain ⟨o, vs, e1, z, e2, nL, nF⟩ := C4.obj
  refine wpAny_mono ((hsu a o cls d (X.pn ++ pins) z ⟨_, e2⟩).run [] _ σ H D (C4.now.suite e1 e2 C.na nL nF) q) (fun f s6 r => ?_) fun _ _ z => False.elim z
  cases f with
  | ret u => exact let ⟨v, σ6, H6, S6, r6, q6⟩ := r; ⟨v, σ6, H6, S6.unsuite C.ok, r6, q6⟩
  | next => exact let ⟨σ6, H6, S6, q6⟩ := r; ⟨σ6, H6, S6.unsuite C.ok, q6⟩
  | brk => exact let ⟨σ6, H6, S6, q6⟩ := r; ⟨σ6, H6, S6.unsuite C.ok, q6⟩
  | cont => exact let ⟨σ6, H6, S6, q6⟩ := r; ⟨σ6, H6, S6.unsuite C.ok, q6⟩
/-- what is wished behind a suite whose name n, of the slot i, goes -/
def gone (D : Ends) (i : Nat) : Ends := { nx := fun σ H => D.nx (σ.set i none) H, rt := D.rt, bk := fun σ H => D.bk (σ.set i none) H, ct := fun σ H => D.ct (σ.set i none) H }
/-- a suite with a name -/
theorem InHand.takeAs (C : InHand X pins σ H a B sI s' h cls d) (hN : X.N.Nodup) {i : Nat} {n : Str} {b₀ : Stmt} {suite : List Stmt} {pos' : Pos} {ts : Addr → Value → Option Addr → TS} (hi : X.N[i]? = some n) (hl : X.env.kindOf n = some .local)
    (hsu : ∀ (a : Addr) (oe : Obj) (cls : Value) (d : Option Addr) (pn : List (Addr × Obj)), Zc cls d oe → (∃ vs, oe.data = .fields vs) → PSs (X.suite a ((a, oe) :: pn)) (b₀ :: suite) (ts a cls d)) (q : ts a cls d (gone D i) (σ.set i (some (.ref a))) H) :
    codeAny (model X.prog X.w) (X.A.mark (some (.ref a))) (.handlers (.ref a) [.ExceptHandler none (some n) (b₀ :: suite) pos'] X.env) (fun r s2 => match r with
      | .ok f => wpAny (model X.prog X.w) X.A (do bindName X.env n .none; unbindBehindTheSuite X.env n pos') (fun _ s3 => SP X pins D f s3) X.xe s2
      | .error e => cameBackBy (model X.prog X.w) X.A X.env X.xe e s2) { s' with heap := h } := by
  refine codeAny_handlers_suite_as (HandSPX.lands_againZ C.fl fun h4 fl4 up4 => ?_)
  have C4 : InHand X pins σ H a B sI s' h4 cls d := ⟨C.inv, C.ok, C.hs, C.hf, C.nb, C.na, C.os, C.ag, C.up.trans up4, fl4⟩
  obtain ⟨o, vs, e1, z, e2, nL, nF⟩ := C4.obj
  have put : ∀ {Q : Unit → Shared → Prop} {E : Value → Shared → Prop}, (∀ s5, Inv (X.suite a ((a, o) :: (X.pn ++ pins))) [] (σ.set i (some (.ref a))) H s5 → Q () s5) →
      wpAny (model X.prog X.w) (X.A.mark (some (.ref a))) (storeName X.env n (.ref a)) Q E { s' with heap := h4 } := fun {Q E} k =>
    store_ok (X := X.suite a ((a, o) :: (X.pn ++ pins))) (v := .ref a) (C4.now.suite e1 e2 C.na nL nF) hN hi (.inl hl) rfl k (.inr hl)
  refine put fun s5 S5 => wpAny_mono ((hsu a o cls d (X.pn ++ pins) z ⟨_, e2⟩).run [] s5 _ H (gone D i) S5 q) (fun f s6 r => ?_) fun _ _ z => False.elim z
  have off : ∀ {σ6 : L2.St} {H6 : Hp}, Inv (X.suite a ((a, o) :: (X.pn ++ pins))) [] σ6 H6 s6 → (∀ s7, Inv X pins (σ6.set i none) H6 s7 → SP X pins D f s7) →
      wpAny (model X.prog X.w) X.A (do bindName X.env n .none; unbindBehindTheSuite X.env n pos') (fun _ s7 => SP X pins D f s7) X.xe s6 := fun {σ6 H6} S6 k => gone_ok (S6.unsuite C.ok) hN hi hl k
  cases f with
  | ret u => exact let ⟨v, σ6, H6, S6, r6, q6⟩ := r; off S6 fun s7 J => ⟨v, _, H6, J, r6, q6⟩
  | next => exact let ⟨σ6, H6, S6, q6⟩ := r; off S6 fun s7 J => ⟨_, H6, J, q6⟩
  | brk => exact let ⟨σ6, H6, S6, q6⟩ := r; off S6 fun s7 J => ⟨_, H6, J, q6⟩
  | cont => exact let ⟨σ6, H6, S6, q6⟩ := r; off S6 fun s7 J => ⟨_, H6, J, q6⟩
end
/-- a clause: its class, its name's slot, its suite's reading -/
abbrev Cl := Value × Option Nat × (Addr → Value → Option Addr → TS)
/-- what the clauses wish of an exception of the body -/
def wMix (K : PySem.W.Frag) (W : WX) (D : Ends) : List Cl → WX
  | [] => W
  | (c, none, ts) :: r => fun cls d σ H => ∃ b, PySem.W.exmOne K cls c = some b ∧ (b = true → ∀ a, H a = none → ts a cls d D σ H) ∧ (b = false → wMix K W D r cls d σ H)
  | (c, some i, ts) :: r => fun cls d σ H => ∃ b, PySem.W.exmOne K cls c = some b ∧ (b = true → ∀ a, H a = none → ts a cls d (gone D i) (σ.set i (some (.ref a))) H) ∧ (b = false → wMix K W D r cls d σ H)
inductive HdsX (X : Cx) : List ExceptHandler → List Cl → Prop
  | nil : HdsX X [] []
  | plain {x : Str} {c : Value} {ts : Addr → Value → Option Addr → TS} {b₀ : Stmt} {suite : List Stmt} {np pos' : Pos} {hds : List ExceptHandler} {l : List Cl} (hc : Names X x c)
      (hsu : ∀ (a : Addr) (oe : Obj) (cls : Value) (d : Option Addr) (pn : List (Addr × Obj)), Zc cls d oe → (∃ vs, oe.data = .fields vs) → PSs (X.suite a ((a, oe) :: pn)) (b₀ :: suite) (ts a cls d)) (r : HdsX X hds l) :
      HdsX X (.ExceptHandler (some (.Name x np)) none (b₀ :: suite) pos' :: hds) ((c, none, ts) :: l)
  | named {x n : Str} {i : Nat} {c : Value} {ts : Addr → Value → Option Addr → TS} {b₀ : Stmt} {suite : List Stmt} {np pos' : Pos} {hds : List ExceptHandler} {l : List Cl} (hi : X.N[i]? = some n) (hl : X.env.kindOf n = some .local) (hc : Names X x c)
      (hsu : ∀ (a : Addr) (oe : Obj) (cls : Value) (d : Option Addr) (pn : List (Addr × Obj)), Zc cls d oe → (∃ vs, oe.data = .fields vs) → PSs (X.suite a ((a, oe) :: pn)) (b₀ :: suite) (ts a cls d)) (r : HdsX X hds l) :
      HdsX X (.ExceptHandler (some (.Name x np)) (some n) (b₀ :: suite) pos' :: hds) ((c, some i, ts) :: l)
section
variable {X : Cx} {body : List Stmt} {h₀ : ExceptHandler} {hds : List ExceptHandler} {l : List Cl} {pos : Pos} {tb : WX → TS} {W : WX}
theorem InHand.go {pins : List (Addr × Obj)} {σ : L2.St} {H : Hp} {a : Addr} {B : Heap} {sI s' : Shared} {h : Heap} {cls : Value} {d : Option Addr} {D : Ends} (C : InHand X pins σ H a B sI s' h cls d) (hN : X.N.Nodup) (tk : Takes X W) :
    ∀ {hds : List ExceptHandler} {l : List Cl}, HdsX X hds l → wMix X.K W D l cls d σ H → wpAny (model X.prog X.w) X.A (handleBy (.ref a) X.env hds) (SP X pins D) X.xe { s' with heap := h }
  | _, _, .nil, w => C.past tk w
  | _, _, .plain hc hsu r, w => by
    obtain ⟨b, e, y, n⟩ := w
    exact C.ask hc e (fun z => C.go hN tk r (n z)) fun z => C.take hsu (y z a C.na)
  | _, _, .named hi hl hc hsu r, w => by
    obtain ⟨b, e, y, n⟩ := w
    exact C.ask hc e (fun z => C.go hN tk r (n z)) fun z => C.takeAs hN hi hl hsu (y z a C.na)
/-- try: body, with clauses -/
theorem ps_try_mix (hN : X.N.Nodup) (hs : X.stack = X.env :: X.outer) (hf : X.env.frame = some X.env.locals) (tk : Takes X W)
    (hb : ∀ (W : WX) (pn : List (Addr × Obj)) (xe : Value → Shared → Prop), Takes (X.tr pn xe) W → PassesOwn (model X.prog X.w) X.A X.env xe → PSs (X.tr pn xe) body (tb W))
    (hh : HdsX X (h₀ :: hds) l) : PS X (.Try body (h₀ :: hds) [] [] pos) (fun D σ H => tb (wMix X.K W D l) D σ H) := by
  refine ⟨fun pins s σ H D I q => wpAny_Try_except ?_⟩
  have fr : X.A.frames = some (X.env :: X.outer) := by rw [I.ok.frames, hs]
  -- what an exception of the body meets
  let met : Value → Shared → Prop := fun e s1 => wpAny (model X.prog X.w) X.A (noteFrame e X.env) (fun _ s2 => wpAny (model X.prog X.w) X.A (setFlight e none) (fun _ s3 => wpAny (model X.prog X.w) X.A (handleBy e X.env (h₀ :: hds)) (SP X pins D) X.xe s3) X.xe s2) X.xe s1
  have taken : Takes (X.tr (X.pn ++ pins) met) (wMix X.K W D l) := fun u s' hx => by
    obtain ⟨a, B, sI, pins', σ', H', cls, d, rfl, J, nb, up, sky, na, os, ag, w⟩ := hx
    exact Sky.land Zc.steady fr hf (by rw [← hs]; exact sky) fun h3 fl3 up3 => InHand.go ⟨J.ofTry I.ok, I.ok, hs, hf, nb, na, os, ag, up.trans up3, fl3⟩ hN tk hh w
  refine wpAny_mono ((hb _ _ met taken PassesOwn.looking).run [] s σ H D (I.toTry _) q) (fun f s1 r => ?_) fun _ _ z => z
  cases f with
  | ret u => exact let ⟨v, σ6, H6, J, r6, q6⟩ := r; ⟨v, σ6, H6, J.ofTry I.ok, r6, q6⟩
  | next => exact let ⟨σ6, H6, J, q6⟩ := r; wpAny_execs_nil ⟨σ6, H6, J.ofTry I.ok, q6⟩
  | brk => exact let ⟨σ6, H6, J, q6⟩ := r; ⟨σ6, H6, J.ofTry I.ok, q6⟩
  | cont => exact let ⟨σ6, H6, J, q6⟩ := r; ⟨σ6, H6, J.ofTry I.ok, q6⟩
end
end Mi
end
section
set_option autoImplicit false
set_option linter.all false
set_option maxRecDepth 100000
set_option maxHeartbeats 4000000
/-! MiX4: a def that gets a lambda and calls it -/
namespace Mi
open PySem PySem.Spec PyProof.Rows L2 LamX
/-- the frame of the def x, entered from X at s -/
abbrev gEnv (X : Cx) (x : Str) (sg : Scope) (s : Shared) (g : Addr) (cdg : Value) : PySem.Env := envOfC x sg s.heap.objs.size g cdg
abbrev gCx (X : Cx) (Ng : List Str) (x : Str) (sg : Scope) (g : Addr) (cdg : Value) (s : Shared) (H : Hp) : Cx := cxOf C8.CX0 X.prog X.w X.K X.mg X.base Ng x sg g cdg X.A X.stack s H C8.E0
/-- a lambda of X's frame, made: its function object stands at f -/
structure Thunk (X : Cx) (pins : List (Addr × Obj)) (σ : L2.St) (H : Hp) (s : Shared) (f c' : Addr) (params : Arguments) (body : Expr) (scope : Scope) (pm ctv : Value) : Prop where
  inv : Inv X pins σ H s
  lam : LamS X.env.scope scope
  obj : s.heap.get? f = some (PySem.W.kla_obj "<lambda>" (X.env.qual ++ "<lambda>") params body scope (cloFrom X.env.cells scope.names []) pm c' ctv)
  new : H f = none
  nfr : f ∉ frs X.stack
  bind : bindArgs (PySem.W.kla_fn "<lambda>" (X.env.qual ++ "<lambda>") params body scope (cloFrom X.env.cells scope.names []) pm (.ref c') ctv) ⟨[], []⟩ = pure []
section
variable {X : Cx} {pins : List (Addr × Obj)} {σ : L2.St} {H : Hp} {s : Shared}
/-- a(), where a holds the lambda -/
theorem pe_thunk {Ng : List Str} {x a : Str} {sg : Scope} {g f c' : Addr} {cdg pm ctv : Value} {params : Arguments} {body : Expr} {scope : Scope} {k i : Nat} {pn : List (Addr × Obj)} {xe : Value → Shared → Prop} {W : WX} {tb : XK → TE} {p1 p2 : Pos}
    (T : Thunk X pins σ H s f c' params body scope pm ctv) (tk : Takes ((gCx X Ng x sg g cdg s H).tr pn xe) W) (hr : Room (k + 1) (X.A.deeper (gEnv X x sg s g cdg)))
    (hbody : ∀ (E : XK) (s1 : Shared) (H1 : Hp), Room k ((X.A.deeper (gEnv X x sg s g cdg)).deeper (lamEnv X scope s1.heap.objs.size f c')) → PE (lamCx X (X.A.deeper (gEnv X x sg s g cdg)) (gEnv X x sg s g cdg :: X.stack) s1 H1 E scope f c') body (tb E))
    (hN : Ng[i]? = some a) (hv : Vis sg a) (hd : (a == ("__debug__" : Str)) = false) (hcd : (a == ("__classdict__" : Str)) = false) :
    PE ((gCx X Ng x sg g cdg s H).tr pn xe) (.Call (.Name a p1) [] [] p2) (fun σZ HZ Q => σZ[i]? = some (some (.ref f)) ∧ HZ c' = some (CodeO c' (X.env.qual ++ "<lambda>")) ∧ ∃ E : XK, (∀ cls d H', E cls d H' → W cls d σZ H') ∧ tb E σ HZ Q) := by
  have noEx : f ∉ ((gCx X Ng x sg g cdg s H).tr pn xe).ex := fun z => nomatch (show f ∈ ([] : List Addr) from z)
  refine ⟨fun pinsZ sZ σZ HZ Q IZ ⟨hs, hc, E, hW, ht⟩ => ?_⟩
  have ask := (pe_var (X := (gCx X Ng x sg g cdg s H).tr pn xe) (pos := p1) (i := i) hN hv hd hcd).run pinsZ sZ σZ HZ (fun v H1 => v = .ref f ∧ H1 = HZ) IZ ⟨.ref f, hs, rfl, rfl⟩
  refine wpAny_Call_Name_kw (thn ask fun u s1 r => ?_)
  obtain ⟨v, H1, J, rv, e1, e2⟩ := r
  subst e1 e2
  obtain rfl : u = Value.ref f := rv
  have obj1 := J.base.keep f _ T.obj T.new T.nfr noEx
  have un : Un (frs X.stack) [] H H1 s.heap s1.heap := J.base
  obtain ⟨⟨oc, vs, t, o1, o2, o3⟩, _, _⟩ := J.hok c' _ hc
  refine PySem.W.callWith_F0 ⟨_, _, _, _, obj1⟩ (wpAny_call (codeAny_mono (R := CR (L2.CX X.prog X.w) (gEnv X x sg s g cdg :: X.stack) X.prog X.w H1 s1 Q E) ?_ fun r s' hq => ?_))
  · show codeAny (model X.prog X.w) (X.A.deeper (gEnv X x sg s g cdg)) (.call (.ref f) ⟨[], []⟩) (CR (L2.CX X.prog X.w) (gEnv X x sg s g cdg :: X.stack) X.prog X.w H1 s1 Q E) s1
    refine PySem.W.kla_callFunE hr.depth obj1 rfl T.lam.co T.lam.gen rfl ⟨c', oc, vs, t, rfl, o1, o2, o3⟩ ?_
    rw [T.bind]
    refine wpAny_pure (wpAny_newFunctionEnv (fun y hy => (T.lam.own y hy).2) (fun y hy => absurd hy (by simp)) (fun h1 hns hsb => ⟨J.nolimit.fresh _ hsb, ?_⟩) T.lam.kind)
    have stays : ∀ b o, s1.heap.get? b = some o → h1.get? b = some o := fun b o e => hsb.extBut b o (Nat.ne_of_lt (Heap.lt_size e)) (Heap.get?_push_of_some _ e)
    have start := lam_start2 (A := X.A.deeper (gEnv X x sg s g cdg)) (outer := gEnv X x sg s g cdg :: X.stack) (E := E) (f := f) (c' := c') (tk := s1.toks + ([] : List (Str × Value)).length) T.inv T.lam J.env0 hr.hd un hns stays
    refine PySem.W.kla_codeExpr (wpAny_mono ((hbody E s1 H1 (hr.deeper _)).run [] _ _ H1 Q start ht) (fun v s' hq => ?_) fun _ _ hq => hq)
    obtain ⟨w', H', J', rv, q⟩ := hq
    exact ⟨w', H', J'.os, J'.bare, J'.base, J'.hok, rv, q⟩
  · cases r with
    | error e => exact tk e s' (XE.of_call J (fun cls d H' z => hW cls d H' z) hq)
    | ok fl =>
      cases fl with
      | ret u => exact J.after hq
      | next => exact False.elim hq
      | brk => exact False.elim hq
      | cont => exact False.elim hq
/-- x(lambda: body): the def x, entered with the lambda, by its own body's reading -/
theorem lam_call {T : List (Addr × Str)} {x a : Str} {g c P : Addr} {k : Nat} {pg : Arguments} {bg : List Stmt} {sg : Scope} {dV kV doc pm cdv ct oc : Value} {an od : Option Addr} {osl : Array (Option Value)} {Ng : List Str}
    {params : Arguments} {body : Expr} {scope : Scope} {p lpos pos : Pos} {Q : VK} (I : Inv X pins σ H s) (hg : Gl X x) (hm : X.mg x = some (.ref g)) (hk : PySem.W.keepIn X.K (.ref g) = true) (hdb : (x == ("__debug__" : Str)) = false)
    (lk : X.K.lookup g = some ⟨oc, od, .func (PySem.W.fnOf x x pg bg sg dV kV doc pm an cdv ct), osl⟩) (hcg : PySem.W.codeIn X.K cdv x = true) (hb : L2.Binds X.K (PySem.W.fnOf x x pg bg sg dV kV doc pm an cdv ct) [a] []) (Sg : FnScope Ng [a] sg)
    (TB : TabB X.base X.mg c P) (hcode : X.env.code = .ref c) (hmT : (P, X.env.qual ++ "<lambda>") ∈ T) (hu : ∀ p ∈ T, p.1 = P → p.2 = X.env.qual ++ "<lambda>") (hT : Tabs T H) (hr : Room (k + 1) X.A) (L : LamS X.env.scope scope) (hdef : defaultsOf params X.env = ([], []))
    (hbind : ∀ (q : Str) (cl : List (Str × Addr)) (pm cv ctv : Value), bindArgs (PySem.W.kla_fn "<lambda>" q params body scope cl pm cv ctv) ⟨[], []⟩ = pure [])
    (h : ∀ (f c' : Addr) (pm' ctv : Value) (H1 : Hp) (s1 : Shared), ExtN H H1 → Tabs T H1 → Thunk X pins σ H1 s1 f c' params body scope pm' ctv → H1 c' = some (CodeO c' (X.env.qual ++ "<lambda>")) → Room k (X.A.deeper (gEnv X x sg s1 g cdv)) →
      ∃ t, PSs (gCx X Ng x sg g cdv s1 H1).nox bg t ∧ t { nx := fun _ H' => Q .non H', rt := Q } (L2.start Ng [.ref f]) H1) :
    wpAny (model X.prog X.w) X.A (eval (.Call (.Name x p) [.Lambda params body scope lpos] [] pos) X.env) (EP X pins σ Q) X.xe s := by
  refine wpAny_Call_Name_kw (ld_glob I hg hm (PySem.W.callWith_K (h₀ := X.base) I.ok.mod.kin hk ?_ (by rfl) (by rfl)) hdb)
  show wpAny _ _ (spliced ((false, eval (.Lambda params body scope lpos) X.env) :: backTo pos (starEach [] X.env))) _ _ s
  refine Calls.spliced_cons (lam_make2 I TB hcode hmT hu hT hdef (L.has I.ok) fun f c' pm' ctv H1 s1 J eN T1 hf hfn hfr hco => Calls.spliced_nil ⟨J.kIn, ?_⟩)
  have run : codeAny (model X.prog X.w) X.A (.call (.ref g) ⟨[.ref f], []⟩) (CR C8.CX0 X.stack X.prog X.w H1 s1 Q C8.E0) s1 :=
    run_ofS (N := Ng) (ps := [a]) (us := [.ref f]) (vs := [.ref f]) lk hcg Sg hr J.env0 (hb s1 [.ref f] J.kIn rfl) (.cons rfl .nil) rfl fun hr' =>
      let ⟨t, h1, h2⟩ := h f c' pm' ctv H1 s1 eN T1 ⟨J, L, hf, hfn, hfr, hbind _ _ _ _ _⟩ hco hr'
      ⟨t, h1.nox, h2⟩
  refine wpAny_call (codeAny_mono run fun r s2 hq => ?_)
  cases r with
  | error e => exact (show False from hq).elim
  | ok fl =>
    cases fl with
    | ret u => exact J.after hq
    | next => exact False.elim hq
    | brk => exact False.elim hq
    | cont => exact False.elim hq
end
end Mi
end
section
set_option autoImplicit false
set_option linter.all false
set_option maxRecDepth 100000
set_option maxHeartbeats 4000000
/-! MiX5: what except clauses tell -/
namespace Mi
open PySem PySem.Spec PyProof.Rows L2 LamX

/-- the exception of the class c in hand, its name's slot -/
def Got (K : PySem.W.Frag) (G : Ga) (B : Hp) (ρ : List Addr) (a : Addr) (cls : Value) (d : Option Addr) (i h : Nat) (fs : List (Nat × D)) (σ : L2.St) (H : Hp) : Prop :=
  σ[i]? = some (some (.ref a)) ∧ cls = .ref (G.cl h) ∧ ∃ (dd : Addr) (fv : List (Str × V)), d = some dd ∧ H dd = some (.xd fv) ∧ ExF K G B ρ fv fs
def isCst : WI → Bool
  | .cst _ => true
  | _ => false
/-- a telling's parts -/
def wiE (nm : Nat → Str) (sc : Scope) (n : Option Str) (fl : List Nat) : WI → Expr → Bool
  | .cst x, .Constant (.str y) _ _ => decide (x = y)
  | .fld f, .Attribute (.Name y _) g _ => decide (n = some y) && (decide (g = nm f) && decide (f ∈ fl))
  | .rep f, .Call (.Name r _) [.Attribute (.Name y _) g _] [] _ => decide (r = "repr") && (decide (sc.names.lookup ("repr" : Str) = some NameKind.globalImplicit) && (decide (n = some y) && (decide (g = nm f) && decide (f ∈ fl))))
  | _, _ => false
def wisE (nm : Nat → Str) (sc : Scope) (n : Option Str) (fl : List Nat) : List WI → List Expr → Bool
  | [], [] => true
  | i :: is, e :: es => wiE nm sc n fl i e && wisE nm sc n fl is es
  | _, _ => false
section
variable {X : Cx} {G : Ga} {a : Addr} {oe : Obj} {cls : Value} {d : Option Addr} {pn : List (Addr × Obj)} {i h : Nat} {fl : List Nat} {n : Option Str}
/-- one part -/
def tWI (K : PySem.W.Frag) (G : Ga) (a : Addr) (cls : Value) (d : Option Addr) (i h : Nat) (it : WI) : TE := fun σ H Q =>
  ∃ B ρ S fs t, Sim K G B ρ S H ∧ (isCst it = true ∨ Got K G B ρ a cls d i h fs σ H) ∧ wiD S fs it = some t ∧ ∀ u, Rep K G B ρ u t → Q u H
def tWIs (K : PySem.W.Frag) (G : Ga) (a : Addr) (cls : Value) (d : Option Addr) (i h : Nat) (is : List WI) : TA := fun σ H Q =>
  ∃ B ρ S fs ts, Sim K G B ρ S H ∧ (is.all isCst = true ∨ Got K G B ρ a cls d i h fs σ H) ∧ wisD S fs is = some ts ∧ ∀ us, Reps K G B ρ us ts → Q us H
structure WiC (X : Cx) (G : Ga) (i h : Nat) (fl : List Nat) (n : Option Str) : Prop where
  gd : X.A.guards = some []
  hu : X.A.units + 100 < cLine
  sm : ∀ {pins : List (Addr × Obj)} {s : Shared} {σ : L2.St} {H : Hp}, Inv X pins σ H s → H sysModules = none
  bn : X.mg "repr" = none
  xf : fl ≠ [] → XfC X.K (G.cl h)
  no : ∀ f ∈ fl, PySem.W.findIn X.K (.ref (G.cl h)) (G.nm f) = some none
  at_ : ∀ y, n = some y → X.N[i]? = some y ∧ Vis X.env.scope y ∧ (y == ("__debug__" : Str)) = false ∧ (y == ("__classdict__" : Str)) = false
theorem sm_suite (C : WiC X G i h fl n) {pins : List (Addr × Obj)} {s : Shared} {σ : L2.St} {H : Hp} (I : Inv (X.suite a ((a, oe) :: pn)) pins σ H s) (hs : ∃ o, X.base.get? sysModules = some o) : H sysModules = none := by
  obtain ⟨o, ho⟩ := hs
  obtain ⟨h1, h2⟩ := I.ok.bs _ _ ho
  exact I.base.free _ o h1 h2 (I.ok.noex _ _ ho)
theorem w_fld (C : WiC X G i h fl n) (hz : Zc cls d oe) (hf : ∃ vs, oe.data = .fields vs) {f : Nat} {y : Str} {p q : Pos} (hn : n = some y) (hm : f ∈ fl) : PE (X.suite a ((a, oe) :: pn)) (.Attribute (.Name y p) (G.nm f) q) (tWI X.K G a cls d i h (.fld f)) := by
  obtain ⟨n1, n2, n3, n4⟩ := C.at_ y hn
  refine (pe_xf (X := X) (C.xf (List.ne_nil_of_mem hm)) (C.no f hm) hz hf (pe_var (X := X.suite a ((a, oe) :: pn)) (i := i) n1 n2 n3 n4) (by rfl)).imp fun σ H Q r => ?_
  obtain ⟨B, ρ, S, fs, t, sim, g, ht, q⟩ := r
  rcases g with g | ⟨g1, g2, dd, fv, g3, g4, g5⟩
  · cases g
  · obtain ⟨v, h1, h2⟩ := g5 f t ht
    exact ⟨.ref a, g1, rfl, g2, dd, fv, v, g3, g4, h1, q v h2⟩
theorem w_item (C : WiC X G i h fl n) (hs : ∃ o, X.base.get? sysModules = some o) (hz : Zc cls d oe) (hf : ∃ vs, oe.data = .fields vs) : ∀ (it : WI) (e : Expr), wiE G.nm X.env.scope n fl it e = true → PE (X.suite a ((a, oe) :: pn)) e (tWI X.K G a cls d i h it)
  | .cst x, e, w => by
    unfold wiE at w
    split at w
    · rename_i heq; cases heq
      rw [of_decide_eq_true w]
      refine pe_str.imp fun σ H Q ⟨B, ρ, S, fs, t, sim, g, ht, q⟩ => ?_
      cases ht
      exact q _ (.str _)
    · rename_i heq; cases heq
    · rename_i heq; cases heq
    · cases w
  | .fld f, e, w => by
    unfold wiE at w
    split at w
    · rename_i heq; cases heq
    · rename_i heq; cases heq
      simp only [Bool.and_eq_true, decide_eq_true_eq] at w
      obtain ⟨w1, rfl, w3⟩ := w
      exact w_fld C hz hf w1 w3
    · rename_i heq; cases heq
    · cases w
  | .rep f, e, w => by
    unfold wiE at w
    split at w
    · rename_i heq; cases heq
    · rename_i heq; cases heq
    · rename_i heq; cases heq
      simp only [Bool.and_eq_true, decide_eq_true_eq] at w
      obtain ⟨rfl, w2, w3, rfl, w5⟩ := w
      refine ⟨fun pins s σ H Q I ⟨B, ρ, S, fs, t, sim, g, ht, q⟩ => ?_⟩
      have g : Got X.K G B ρ a cls d i h fs σ H := g.resolve_left (by intro z; cases z)
      obtain ⟨x, hx, ht⟩ := Option.bind_eq_some_iff.mp ht
      have ht : (match toD (der S x) with
        | some p => if p.showable && decide (p.depth ≤ deep) && decide (p.shown.length ≤ LIM) then some (.str p.shown) else none
        | none => none) = some t := ht
      cases hp : toD (der S x) with
      | none => rw [hp] at ht; cases ht
      | some p =>
        rw [hp] at ht
        simp only at ht
        split at ht
        · rename_i hz2
          simp only [Bool.and_eq_true, decide_eq_true_eq] at hz2
          cases ht
          refine wpAny_Call_Name_kw (ld_blt (X := X.suite a ((a, oe) :: pn)) I w2 C.bn (boot_blt .repr) ?_ (bltN_ne .repr).1 (bltN_ne .repr).2)
          refine PyProof.Rows.callWith_builtin1 ?_ (by rfl) (by rfl)
          refine Calls.spliced_cons (thn ((w_fld (pn := pn) C hz hf w3 w5).run pins s σ H (fun u H' => H' = H ∧ Rep X.K G B ρ u x) I ⟨B, ρ, S, fs, x, sim, .inr g, hx, fun u r => ⟨rfl, r⟩⟩) fun u s1 r => ?_)
          obtain ⟨v, H1, J, rv, e1, rp⟩ := r
          subst e1
          refine Calls.spliced_nil ?_
          exact o_repr0 (X := X.suite a ((a, oe) :: pn)) C.gd C.hu (sm_suite C J hs) J sim rv rp hp hz2.1.1 hz2.1.2 hz2.2 (q _ (.str _))
        · cases ht
    · cases w
theorem w_items (C : WiC X G i h fl n) (hs : ∃ o, X.base.get? sysModules = some o) (hz : Zc cls d oe) (hf : ∃ vs, oe.data = .fields vs) : ∀ (is : List WI) (es : List Expr), wisE G.nm X.env.scope n fl is es = true → PA (X.suite a ((a, oe) :: pn)) es (tWIs X.K G a cls d i h is)
  | [], [], _ => ⟨fun p pins s σ H Q I ⟨B, ρ, S, fs, t, sim, g, ht, q⟩ => by
    cases ht
    exact Calls.spliced_nil ⟨[], H, I, .nil, q _ .nil⟩⟩
  | [], _ :: _, w => by cases w
  | _ :: _, [], w => by cases w
  | it :: is, e :: es, w => by
    unfold wisE at w
    simp only [Bool.and_eq_true] at w
    refine ⟨fun p pins s σ H Q I ⟨B, ρ, S, fs, ts, sim, g, ht, q⟩ => ?_⟩
    have hst : starEach (e :: es) X.env = (false, eval e X.env) :: starEach es X.env := by
      have := w.1
      cases e <;> first | rfl | (cases it <;> cases this)
    show wpAny _ _ (spliced (backTo p (starEach (e :: es) X.env))) _ _ s
    rw [hst]
    simp only [wisD] at ht
    cases h1 : wiD S fs it with
    | none => rw [h1] at ht; cases ht
    | some t =>
      cases h2 : wisD S fs is with
      | none => rw [h1, h2] at ht; cases ht
      | some ts' =>
        rw [h1, h2] at ht
        cases ht
        have g1 : isCst it = true ∨ Got X.K G B ρ a cls d i h fs σ H := g.imp (fun z => by simp only [List.all_cons, Bool.and_eq_true] at z; exact z.1) id
        have g2 : is.all isCst = true ∨ Got X.K G B ρ a cls d i h fs σ H := g.imp (fun z => by simp only [List.all_cons, Bool.and_eq_true] at z; exact z.2) id
        refine Calls.spliced_cons (thn ((w_item (pn := pn) C hs hz hf it e w.1).run pins s σ H (fun u H' => H' = H ∧ Rep X.K G B ρ u t) I ⟨B, ρ, S, fs, t, sim, g1, h1, fun u r => ⟨rfl, r⟩⟩) fun u s1 r => ?_)
        obtain ⟨v, H1, J, rv, e1, rp⟩ := r
        subst e1
        refine wpAny_mono ((w_items C hs hz hf is es w.2).run p pins s1 σ H1 (fun us H' => Q (v :: us) H') J ⟨B, ρ, S, fs, ts', sim, g2, h2, fun us rs => q _ (.cons rp rs)⟩) (fun us s2 r => ?_) fun _ _ z => z
        obtain ⟨vs, H2, J2, rvs, q2⟩ := r
        exact ⟨v :: vs, H2, J2, .cons rv rvs, q2⟩
/-- the whole telling -/
def tWT (K : PySem.W.Frag) (G : Ga) (a : Addr) (cls : Value) (d : Option Addr) (i h : Nat) (is : List WI) (Q : VK) (σ : L2.St) (H : Hp) : Prop :=
  ∃ B ρ S fs ts, Sim K G B ρ S H ∧ (is.all isCst = true ∨ Got K G B ρ a cls d i h fs σ H) ∧ wisD S fs is = some ts ∧ Post K G B ρ S (.tup ts) Q
theorem wisD_len {S : Sto} {fs : List (Nat × D)} : ∀ {is : List WI} {ts : List D}, wisD S fs is = some ts → ts.length = is.length
  | [], _, e => by cases e; rfl
  | i :: is, ts, e => by
    simp only [wisD] at e
    split at e
    · rename_i h1 h2; cases e
      exact congrArg (· + 1) (wisD_len h2)
    · cases e
theorem w_tup (C : WiC X G i h fl n) (hs : ∃ o, X.base.get? sysModules = some o) (hz : Zc cls d oe) (hf : ∃ vs, oe.data = .fields vs) {is : List WI} {es : List Expr} {k : Nat} {pos : Pos} (hl : is.length < 1000) (w : wisE G.nm X.env.scope n fl is es = true) :
    PE (X.suite a ((a, oe) :: pn)) (.Tuple es k pos) (fun σ H Q => tWT X.K G a cls d i h is Q σ H) := (pe_tup (w_items C hs hz hf is es w)).imp fun σ H Q ⟨B, ρ, S, fs, ts, sim, g, ht, q⟩ =>
  ⟨B, ρ, S, fs, ts, sim, g, ht, fun us rs => ⟨by rw [rs.length, wisD_len ht, sizeLine_eq]; omega, q.tup sim rs⟩⟩
/-- a clause's suite: it hands its telling back, or stores it -/
def wSt (N : List Str) (fd : Option Nat) (nm : Nat → Str) (sc : Scope) (n : Option Str) (fl : List Nat) (is : List WI) : Stmt → Bool
  | .Return (some (.Tuple es _ _)) _ => fd.isNone && (decide (is.length < 1000) && wisE nm sc n fl is es)
  | .Assign [.Name y _] (.Tuple es _ _) _ => (match fd with
    | some j => decide (N[j]? = some y) && (decide (sc.names.lookup y = some .local) && (decide (is.length < 1000) && wisE nm sc n fl is es))
    | none => false)
  | _ => false
def tWS (K : PySem.W.Frag) (G : Ga) (i h : Nat) (fd : Option Nat) (is : List WI) : Addr → Value → Option Addr → TS := fun a cls d D σ H =>
  tWT K G a cls d i h is (fun v H' => match fd with
    | none => D.rt v H'
    | some j => D.nx (σ.set j (some v)) H') σ H
theorem w_suite (C : WiC X G i h fl n) (hN : X.N.Nodup) (hs : ∃ o, X.base.get? sysModules = some o) {fd : Option Nat} {is : List WI} {st : Stmt} (w : wSt X.N fd G.nm X.env.scope n fl is st = true) (hz : Zc cls d oe) (hf : ∃ vs, oe.data = .fields vs) :
    PSs (X.suite a ((a, oe) :: pn)) [st] (tWS X.K G i h fd is a cls d) := by
  unfold wSt at w
  split at w
  · simp only [Bool.and_eq_true, decide_eq_true_eq, Option.isNone_iff_eq_none] at w
    obtain ⟨rfl, w2, w3⟩ := w
    exact (pss_one (ps_ret (w_tup C hs hz hf w2 w3))).imp fun D σ H q => q
  · cases fd with
    | none => cases w
    | some j =>
      simp only [Bool.and_eq_true, decide_eq_true_eq] at w
      obtain ⟨w1, w2, w3, w4⟩ := w
      exact (pss_one (ps_set (X := X.suite a ((a, oe) :: pn)) hN w1 (.inl w2) (w_tup C hs hz hf w3 w4) (by rfl) (.inr w2))).imp fun D σ H q => q
  · cases w
end
end Mi
end
section
set_option autoImplicit false
set_option linter.all false
set_option maxRecDepth 100000
/-! Mi19: comprehensions stored, sums in place, targets of several kinds, loops -/
namespace Mi
open PySem PySem.Spec PyProof.Rows L2

section
variable {P : Pg} {F : Fo} {G : Ga} {X : Cx} {W : WX} {elt tg iter tg1 iter1 : Expr} {ifs ifs1 : List Expr} {scope : Scope} {own : List (Str × Nat)} {me : ME} {mt mt1 : MT} {mi mi1 : MI} {mc mc1 : Option MQ} {pos spos py : Pos} {ws1 : List Nat} {i : Nat} {y : Str}
/-- name = what m tells while a dict is locked -/
theorem st_thw {st : Stmt} {i j : Nat} {m : ME} (hw : G.w = X.w) (h : ∀ φ, PS X st (tS X.K P F (G.put φ) WF (.asg (.nm j) m))) : PS X st (tS X.K P F G W (.asg (.nm j) (.thw i m))) := by
  refine ⟨fun pins s σ H D I ⟨B, ρ, v, S, sim, er, af⟩ => ?_⟩
  have af : AftS X.K G W B ρ (bindS (match v[i]? with
    | some (some (.loc l)) => (match S[l]? with
      | some (.dn false kvs) => (match ev P F m v (S.set l (.dn true kvs)) with
        | .ok d S1 => (match S1[l]? with
          | some (.dn true kvs') => .ok d (S1.set l (.dn false kvs'))
          | _ => .bad)
        | _ => .bad)
      | _ => .bad)
    | _ => .bad) v fun d S1 => .nx (v.set j (some d)) S1) D := af
  split at af
  · rename_i l hv
    split at af
    · rename_i kd hs
      obtain ⟨a, ea, ks, hH, r⟩ := sim.obj _ _ hs
      have mu : Mut (some (DnO G.w a ks)) := trivial
      obtain ⟨od, I1⟩ := I.lock hH mu
      have hn := I.nofrz hH mu
      obtain ⟨hf, s1⟩ := sim.lock (b := od) ea hs hH r
      refine wpAny_mono ((h (upd G.fr a (.frz od (DnO G.w a ks)))).run pins s σ _ ⟨fun σ' H1 => ∃ B1 ρ1 S1 d, Le B ρ B1 ρ1 ∧ Sim X.K (G.put (upd G.fr a (.frz od (DnO G.w a ks)))) B1 ρ1 S1 H1 ∧ EnvR X.K G B1 ρ1 σ' (v.set j (some d)) ∧ ev P F m v (S.set l (.dn true kd)) = .ok d S1,
        fun _ _ => False, fun _ _ => False, fun _ _ => False⟩ I1 ⟨B, ρ, v, _, s1, er, ?_⟩) (fun f s' hq => ?_) fun _ _ x => x
      · show AftS X.K _ WF B ρ (bindS (ev P F m v (S.set l (.dn true kd))) v fun d S1 => .nx (v.set j (some d)) S1) _
        cases e1 : ev P F m v (S.set l (.dn true kd)) with
        | ok d S1 => exact fun σ' H1 B1 ρ1 le s2 er1 => ⟨B1, ρ1, S1, d, le, s2, er1, rfl⟩
        | ex c fs S1 => rw [e1] at af; exact af.elim
        | bad => rw [e1] at af; exact af.elim
      · cases f with
        | next =>
          obtain ⟨σ', H1, I2, B1, ρ1, S1, d, le, s2, er1, e1⟩ := hq
          rw [e1] at af
          simp only at af
          split at af
          · rename_i kd' hs'
            obtain ⟨h1, s3⟩ := s2.unlock hf (le.at ea) hs'
            exact ⟨σ', _, I2.unlock h1 hn, af σ' _ _ _ le s3 er1⟩
          · exact af.elim
        | brk => obtain ⟨_, _, _, z⟩ := hq; exact z.elim
        | cont => obtain ⟨_, _, _, z⟩ := hq; exact z.elim
        | ret u => obtain ⟨_, _, _, _, _, z⟩ := hq; exact z.elim
    · exact af.elim
  · exact af.elim
theorem st_setLc (al : Bool) (hc : X.calm = true) (hN : X.N.Nodup) (hy : X.N[i]? = some y) (hyl : X.env.scope.names.lookup y = some .local)
    (hsw : swapsWith (.ListComp elt [⟨tg, iter, ifs, 0⟩] scope pos) (some (.Name y py)) spos.line X.env = pure true) (hi : PI X tg iter (tI X.K P F G W mi)) (ok : BlkOk X.N X.env.scope scope own) (hsl : ∀ i ∈ slots mt, i ∈ own.map (·.2))
    (hg : ∀ (s : Shared) (H : Hp) (C : Addr) (cl : List (Str × Addr)) (fp : List Addr), PG (X.blk s H scope (compEnvC scope cl C X.env) fp) tg (tG X.K G mt))
    (ht : ∀ (s : Shared) (H : Hp) (C : Addr) (cl : List (Str × Addr)) (fp : List Addr), PTs (X.blk s H scope (compEnvC scope cl C X.env) fp) ifs (tC X.K P F G mc))
    (he : ∀ (s : Shared) (H : Hp) (C : Addr) (cl : List (Str × Addr)) (fp : List Addr), PE (X.blk s H scope (compEnvC scope cl C X.env) fp) elt (tEx X.K P F G me)) (hs : ∀ x, foldedSetIterable iter X.env x = pure x) :
    PS X (.Assign [.Name y py] (.ListComp elt [⟨tg, iter, ifs, 0⟩] scope pos) spos) (tS X.K P F G W (.asg (.nm i) (if al then .alc (.lc me mt mi mc (own.map (·.2))) else .lc me mt mi mc (own.map (·.2))))) :=
  (ps_setLc hc hN hy hyl hsw hi ok hg ht he hs).imp fun D σ H h => by
    have h2 := tE_imp (asg_read h) (fun u H q => tG_name q)
    cases al with
    | true => exact lc_tA hsl h2
    | false => exact lc_tE hsl h2
theorem st_setLc2 (al : Bool) (hc : X.calm = true) (hN : X.N.Nodup) (hy : X.N[i]? = some y) (hyl : X.env.scope.names.lookup y = some .local)
    (hsw : swapsWith (.ListComp elt [⟨tg, iter, ifs, 0⟩, ⟨tg1, iter1, ifs1, 0⟩] scope pos) (some (.Name y py)) spos.line X.env = pure true) (hi : PI X tg iter (tI X.K P F G W mi)) (ok : BlkOk X.N X.env.scope scope own) (hv : ∀ i ∈ ws1, i ∈ own.map (·.2)) (hsl : ∀ i ∈ slots mt, i ∈ own.map (·.2)) (hsl1 : ∀ i ∈ slots mt1, i ∈ ws1)
    (hg : ∀ (s : Shared) (H : Hp) (C : Addr) (cl : List (Str × Addr)) (fp : List Addr), PG (X.blk s H scope (compEnvC scope cl C X.env) fp) tg (tG X.K G mt))
    (ht : ∀ (s : Shared) (H : Hp) (C : Addr) (cl : List (Str × Addr)) (fp : List Addr), PTs (X.blk s H scope (compEnvC scope cl C X.env) fp) ifs (tC X.K P F G mc))
    (hi1 : ∀ (s : Shared) (H : Hp) (C : Addr) (cl : List (Str × Addr)) (fp : List Addr), PI (X.blk s H scope (compEnvC scope cl C X.env) fp) tg1 iter1 (tIx X.K P F G mi1))
    (hg1 : ∀ (s : Shared) (H : Hp) (C : Addr) (cl : List (Str × Addr)) (fp : List Addr), PG (X.blk s H scope (compEnvC scope cl C X.env) fp) tg1 (tG X.K G mt1))
    (ht1 : ∀ (s : Shared) (H : Hp) (C : Addr) (cl : List (Str × Addr)) (fp : List Addr), PTs (X.blk s H scope (compEnvC scope cl C X.env) fp) ifs1 (tC X.K P F G mc1))
    (he : ∀ (s : Shared) (H : Hp) (C : Addr) (cl : List (Str × Addr)) (fp : List Addr), PE (X.blk s H scope (compEnvC scope cl C X.env) fp) elt (tEx X.K P F G me)) (hs : ∀ x, foldedSetIterable iter X.env x = pure x) (hs1 : ∀ env x, foldedSetIterable iter1 env x = pure x) :
    PS X (.Assign [.Name y py] (.ListComp elt [⟨tg, iter, ifs, 0⟩, ⟨tg1, iter1, ifs1, 0⟩] scope pos) spos) (tS X.K P F G W (.asg (.nm i) (if al then .alc (.lc2 me mt mi mc mt1 mi1 mc1 (own.map (·.2)) ws1) else .lc2 me mt mi mc mt1 mi1 mc1 (own.map (·.2)) ws1))) :=
  (ps_setLc2 hc hN hy hyl hsw hi ok hv hg ht hi1 hg1 ht1 he hs hs1).imp fun D σ H h => by
    have h2 := tE_imp (asg_read h) (fun u H q => tG_name q)
    cases al with
    | true => exact lc2_tA hsl hsl1 h2
    | false => exact lc2_tE hsl hsl1 h2
end
section
variable {P : Pg} {F : Fo} {G : Ga} {X : Cx} {W : WX} {a b o e tg iter c : Expr} {es : List Expr} {me ma mb mo mx mj : ME} {mt : MT} {mi : MI} {mq : MQ} {ms : List MS} {mxs : List MX} {st : Stmt} {sts body : List Stmt} {pos pos' spos py px pt pt2 tpos : Pos} {k : Nat}
theorem st_aug {i : Nat} {x : Str} (hN : X.N.Nodup) (hi : X.N[i]? = some x) (hx : Loc X.env.scope x) (he : PE X e (tE X.K P F G W me)) (hf : X.fn x = true ∨ X.env.scope.names.lookup x = some .local) :
    PS X (.AugAssign (.Name x pos') .Add e pos) (tS X.K P F G W (.aug i .Add me)) := (ps_aug hN hi hx he ip_add hf).imp fun D σ H ⟨B, ρ, v, S, sim, er, af⟩ => by
  have af : AftS X.K G W B ρ (match v[i]?, Operator.Add with
    | some (some (.int x)), .Add => bindS (ev P F me v S) v fun y S1 => (match y with
      | .int z => .nx (v.set i (some (.int (x + z)))) S1
      | _ => .bad)
    | _, _ => .bad) D := af
  cases hv : v[i]? with
  | none => rw [hv] at af; exact af.elim
  | some o =>
    rw [hv] at af
    cases o with
    | none => exact af.elim
    | some d =>
      cases d with
      | int z =>
        simp only at af
        obtain ⟨u, h1, h2⟩ := er.2 i _ hv
        refine ⟨u, h1, ?_⟩
        refine tE_of sim er af fun y H1 B1 ρ1 d S1 le1 s1 er1 ry af1 => ?_
        cases d with
        | int w =>
          simp only at af1
          exact ⟨z, w, h2.int_inv, ry.int_inv, af1 _ H1 B1 ρ1 Le.refl s1 (er1.set (.int _))⟩
        | _ => exact af1.elim
      | _ => exact af.elim
/-- x[i] += e, a list -/
def rGetL : V → V → Hp → VK → Prop := fun o i H Q => ∃ p xs k v, o = .ref p ∧ i = .int k ∧ H p = some (.lst xs) ∧ 0 ≤ k ∧ k < 9223372036854775808 ∧ xs[k.toNat]? = some v ∧ Q v H
theorem get_list : PGet X rGetL := by
  intro pins s σ H o i ov iv Q I ro ri h
  obtain ⟨p, xs, k, v, rfl, rfl, hp, h0, h1, hv, q⟩ := h
  cases ro
  obtain ⟨t, rfl⟩ := ri
  obtain ⟨its, r, pl, hz⟩ := I.list (SqL.of hp)
  obtain ⟨w, ew, rw'⟩ := r.get hv
  exact wpAny_getItem_list pl.isList h0 h1 (by simpa using ew) ⟨v, H, I, rw', q⟩
theorem st_augI (ho : PE X o (tE X.K P F G W mo)) (hi : PE X a (tE X.K P F G W ma)) (he : PE X e (tE X.K P F G W me))
    (ha : ∀ ov iv new, augStore a ov iv new = (do holding [new, ov, iv] (setItem ov iv new); release [new, ov, iv] []; pure .next)) : PS X (.AugAssign (.Subscript o a tpos) .Add e pos) (tS X.K P F G W (.augI mo ma .Add me)) :=
  (ps_augS ho hi get_list he ip_add set_list ha).imp fun D σ H ⟨B, ρ, v, S, sim, er, af⟩ => by
    have af : AftS X.K G W B ρ (bindS (ev P F mo v S) v fun a S1 => bindS (ev P F ma v S1) v fun j S2 => (match a, j, Operator.Add with
      | .loc l, .int k, .Add => (match S2[l]? with
        | some (.lst xs) => if decide (0 ≤ k) && decide (k < 9223372036854775808) then (match xs[k.toNat]? with
          | some (.int z) => bindS (ev P F me v S2) v fun y S3 => (match y, S3[l]? with
            | .int w, some (.lst ys) => (match L2.ixN ys.length k with
              | some j' => .nx v (S3.set l (.lst (ys.set j' (.int (z + w)))))
              | none => .bad)
            | _, _ => .bad)
          | _ => .bad) else .bad
        | _ => .bad)
      | _, _, _ => .bad)) D := af
    refine tE_of sim er af fun x H1 B1 ρ1 dx S1 le1 s1 er1 rx af1 => ?_
    refine tE_of s1 er1 af1 fun j H2 B2 ρ2 dj S2 le2 s2 er2 rj af2 => ?_
    cases dx with
    | loc l =>
      cases dj with
      | int k =>
        simp only at af2
        cases hl : S2[l]? with
        | none => rw [hl] at af2; exact af2.elim
        | some m =>
          rw [hl] at af2
          cases m with
          | lst xs =>
            simp only at af2
            split at af2
            · rename_i hz
              simp only [Bool.and_eq_true, decide_eq_true_eq] at hz
              cases hk : xs[k.toNat]? with
              | none => rw [hk] at af2; exact af2.elim
              | some d0 =>
                rw [hk] at af2
                cases d0 with
                | int z =>
                  simp only at af2
                  obtain ⟨p, vs, rfl, hp, hh, rr⟩ := loc_lst s2 (rx.up le2) hl
                  obtain ⟨w0, hw, rw0⟩ := rr.get hk
                  refine ⟨p, vs, k, w0, rfl, rj.int_inv, hh, hz.1, hz.2, hw, ?_⟩
                  refine tE_of s2 er2 af2 fun y H3 B3 ρ3 dy S3 le3 s3 er3 ry af3 => ?_
                  cases dy with
                  | int w =>
                    cases hl3 : S3[l]? with
                    | none => rw [hl3] at af3; exact af3.elim
                    | some m3 =>
                      rw [hl3] at af3
                      cases m3 with
                      | lst ys =>
                        simp only at af3
                        cases hj : L2.ixN ys.length k with
                        | none => rw [hj] at af3; exact af3.elim
                        | some j' =>
                          rw [hj] at af3
                          refine ⟨z, w, rw0.int_inv, ry.int_inv, ?_⟩
                          obtain ⟨p2, ws, e2, hp2, hh2, rr2⟩ := loc_lst s3 ((rx.up le2).up le3) hl3
                          cases e2
                          rw [← rr2.length] at hj
                          exact ⟨p, ws, k, j', rfl, rj.int_inv, hh2, hj, af3 σ _ B3 ρ3 Le.refl (put_list s3 hp2 hh2 (rr2.set (.int _) j')) er3⟩
                      | _ => exact af3.elim
                  | _ => exact af3.elim
                | _ => exact af2.elim
            · exact af2.elim
          | _ => exact af2.elim
      | _ => exact af2.elim
    | _ => exact af2.elim
/-! ### for -/
def stepFor (P : Pg) (F : Fo) (t : MT) (b : List MS) : D → Env → Sto → RS := fun x v S => match bindM S t x v with
      | some v' => evB P F b v' S
      | none => .bad
theorem st_for (hp : PassesOwn (model X.prog X.w) X.A X.env X.xe) (hc : X.calm = true) (hi : PI X tg iter (tI X.K P F G W mi)) (hg : PG X tg (tG X.K G mt)) (hb : PSs X body (tB X.K P F G W ms)) (hs : ∀ x, foldedSetIterable iter X.env x = pure x) :
    PS X (.For tg iter body [] pos) (tS X.K P F G W (.for mt mi ms)) := (ps_for hp hc hi hg hb hs).imp fun D σ H ⟨B, ρ, v, S, sim, er, af⟩ => by
  have af : AftS X.K G W B ρ (match evI P F mi v S with
    | .ok xs g S1 => forL g (stepFor P F mt ms) xs v S1
    | .ex e fs S1 => .ex e fs v S1
    | .bad => .bad) D := af
  refine ⟨B, ρ, v, S, sim, er, ?_⟩
  cases e1 : evI P F mi v S with
  | ex c fs S1 => rw [e1] at af; exact fun dd fv H' B' ρ' le s hd hf => af dd fv σ H' B' ρ' le s (er.up le) hd hf
  | bad => rw [e1] at af; exact af
  | ok xs g S1 =>
    rw [e1] at af
    intro J H1 B1 ρ1 le1 s1 wk
    refine ⟨fun i m σ H => m = xs.length - i ∧ i ≤ xs.length ∧ ∃ B ρ v S, Le B1 ρ1 B ρ ∧ Sim X.K G B ρ S H ∧ EnvR X.K G B ρ σ v ∧ AftS X.K G W B ρ (forL g (stepFor P F mt ms) (xs.drop i) v S) D, ⟨_, rfl, Nat.zero_le _, B1, ρ1, v, S1, Le.refl, s1, er.up le1, AftS.up (by simpa using af) le1⟩, ?_⟩
    rintro i m σ2 H2 ⟨rfl, hi, B2, ρ2, v2, S2, le2, s2, er2, q⟩
    by_cases hlt : i < xs.length
    · have e : xs.drop i = xs[i] :: xs.drop (i + 1) := List.drop_eq_getElem_cons hlt
      rw [e] at q
      have q : AftS X.K G W B2 ρ2 (if guards g S2 then (match stepFor P F mt ms xs[i] v2 S2 with
        | .nx v' S' => forL g (stepFor P F mt ms) (xs.drop (i + 1)) v' S'
        | .ct v' S' => forL g (stepFor P F mt ms) (xs.drop (i + 1)) v' S'
        | .bk v' S' => .nx v' S'
        | r => r) else .bad) D := q
      by_cases hg : guards g S2 = true
      · rw [if_pos hg] at q
        refine .inr ⟨wk.go (fun _ _ _ e => e) le2 (φ := G.fr) s2 hg hlt, fun σ' H' => ∃ B ρ v S, Le B1 ρ1 B ρ ∧ Sim X.K G B ρ S H' ∧ EnvR X.K G B ρ σ' v ∧ AftS X.K G W B ρ (forL g (stepFor P F mt ms) (xs.drop (i + 1)) v S) D, fun σ' H' q' => ⟨_, by omega, rfl, hlt, q'⟩, fun x H' y => ?_⟩
        obtain ⟨B3, ρ3, le3, s3, rx⟩ := wk.yld (fun _ _ _ e => e) le2 (φ := G.fr) s2 hg (List.getElem?_eq_getElem hlt) y
        have q := AftS.up q le3
        unfold stepFor at q
        cases e2 : bindM S2 mt xs[i] v2 with
        | none => rw [e2] at q; exact q.elim
        | some v' =>
          rw [e2] at q
          refine ⟨G.fr, B3, ρ3, v2, S2, xs[i], v', s3, er2.up le3, rx, e2, fun σ' er' _ => ?_⟩
          refine ⟨B3, ρ3, v', S2, s3, er', ?_⟩
          have le' := le2.trans le3
          simp only at q
          cases e3 : evB P F ms v' S2 with
          | nx v4 S4 => rw [e3] at q; exact fun σ4 H4 B4 ρ4 le4 s4 er4 => ⟨B4, ρ4, v4, S4, le'.trans le4, s4, er4, AftS.up q le4⟩
          | ct v4 S4 => rw [e3] at q; exact fun σ4 H4 B4 ρ4 le4 s4 er4 => ⟨B4, ρ4, v4, S4, le'.trans le4, s4, er4, AftS.up q le4⟩
          | bk v4 S4 => rw [e3] at q; exact q
          | rt d S4 => rw [e3] at q; exact q
          | ex c fs v4 S4 => rw [e3] at q; exact q
          | bad => rw [e3] at q; exact q
      · rw [if_neg hg] at q; exact q.elim
    · have e : i = xs.length := by omega
      subst e
      rw [List.drop_length] at q
      have q : AftS X.K G W B2 ρ2 (if guards g S2 then .nx v2 S2 else .bad) D := q
      by_cases hg : guards g S2 = true
      · rw [if_pos hg] at q
        exact .inl ⟨wk.stop (fun _ _ _ e => e) le2 (φ := G.fr) s2 hg, q σ2 H2 B2 ρ2 Le.refl s2 er2⟩
      · rw [if_neg hg] at q; exact q.elim
/-! ### while -/
theorem st_whl (hp : PassesOwn (model X.prog X.w) X.A X.env X.xe) (hc : PT X c (tQ X.K P F G W mq)) (hb : PSs X body (tB X.K P F G W ms)) : PS X (.While c body [] pos) (tS X.K P F G W (.whl mq ms)) :=
  (ps_while hp hc hb).imp fun D σ H ⟨B, ρ, v, S, sim, er, af⟩ => by
    have af : AftS X.K G W B ρ (whlL (evT P F mq) (evB P F ms) TURNS v S) D := af
    refine ⟨fun m σ H => ∃ B ρ v S, Sim X.K G B ρ S H ∧ EnvR X.K G B ρ σ v ∧ AftS X.K G W B ρ (whlL (evT P F mq) (evB P F ms) m v S) D, ⟨TURNS, B, ρ, v, S, sim, er, af⟩, ?_⟩
    rintro m σ1 H1 ⟨B1, ρ1, v1, S1, s1, er1, q⟩
    refine ⟨B1, ρ1, v1, S1, s1, er1, ?_⟩
    cases m with
    | zero => exact False.elim q
    | succ m =>
      have q : AftS X.K G W B1 ρ1 (match evT P F mq v1 S1 with
        | .ok true S1 => (match evB P F ms v1 S1 with
          | .nx v' S' => whlL (evT P F mq) (evB P F ms) m v' S'
          | .ct v' S' => whlL (evT P F mq) (evB P F ms) m v' S'
          | .bk v' S' => .nx v' S'
          | r => r)
        | .ok false S1 => .nx v1 S1
        | .ex e fs S1 => .ex e fs v1 S1
        | .bad => .bad) D := q
      cases e1 : evT P F mq v1 S1 with
      | ex c fs S2 => rw [e1] at q; exact fun dd fv H' B' ρ' le s hd hf => q dd fv σ1 H' B' ρ' le s (er1.up le) hd hf
      | bad => rw [e1] at q; exact q
      | ok t S2 =>
        rw [e1] at q
        intro H2 B2 ρ2 le2 s2
        cases t with
        | false => exact AftS.up q le2 σ1 H2 B2 ρ2 Le.refl s2 (er1.up le2)
        | true =>
          rw [if_pos rfl]
          have q := AftS.up q le2
          refine ⟨fun σ' H' => ∃ B ρ v S, Sim X.K G B ρ S H' ∧ EnvR X.K G B ρ σ' v ∧ AftS X.K G W B ρ (whlL (evT P F mq) (evB P F ms) m v S) D, fun σ' H' q' => ⟨m, Nat.lt_succ_self m, q'⟩, B2, ρ2, v1, S2, s2, er1.up le2, ?_⟩
          simp only at q
          cases e3 : evB P F ms v1 S2 with
          | nx v4 S4 => rw [e3] at q; exact fun σ4 H4 B4 ρ4 le4 s4 er4 => ⟨B4, ρ4, v4, S4, s4, er4, AftS.up q le4⟩
          | ct v4 S4 => rw [e3] at q; exact fun σ4 H4 B4 ρ4 le4 s4 er4 => ⟨B4, ρ4, v4, S4, s4, er4, AftS.up q le4⟩
          | bk v4 S4 => rw [e3] at q; exact q
          | rt d S4 => rw [e3] at q; exact q
          | ex c fs v4 S4 => rw [e3] at q; exact q
          | bad => rw [e3] at q; exact q
/-! ### targets of several kinds -/
def tXs (K : PySem.W.Frag) (P : Pg) (F : Fo) (G : Ga) (ms : List MX) : TGs := fun vs σ H Q => ∃ B ρ e S ds e' S', Sim K G B ρ S H ∧ EnvR K G B ρ σ e ∧ Reps K G B ρ vs ds ∧ bindXs P F ms ds e S = some (e', S') ∧ ∀ σ' H' B' ρ', Le B ρ B' ρ' → Sim K G B' ρ' S' H' → EnvR K G B' ρ' σ' e' → Q σ' H'
theorem x_nil : PGs X [] (tXs X.K P F G []) := pgs_nil.imp fun vs σ H Q ⟨B, ρ, e, S, ds, e', S', sim, er, r, hb, q⟩ => by
  cases ds with
  | nil =>
    cases r
    have hb : some (e, S) = some (e', S') := hb
    cases hb
    exact ⟨rfl, q σ H B ρ Le.refl sim er⟩
  | cons d ds => cases hb
theorem x_t (h1 : PG X a (tG X.K G mt)) (h2 : PGs X es (tXs X.K P F G mxs)) (hs : (assignEach (a :: es) X.env).map (·.2) = assign a X.env :: (assignEach es X.env).map (·.2)) : PGs X (a :: es) (tXs X.K P F G (.t mt :: mxs)) :=
  (pgs_cons h1 h2 hs).imp fun vs σ H Q ⟨B, ρ, e, S, ds, e', S', sim, er, r, hb, q⟩ => by
    cases ds with
    | nil => cases hb
    | cons d ds =>
      cases r with
      | cons r1 r2 =>
        have hb : (match bindM S mt d e with
          | some v' => bindXs P F mxs ds v' S
          | none => none) = some (e', S') := hb
        cases e1 : bindM S mt d e with
        | none => rw [e1] at hb; cases hb
        | some e2 =>
          rw [e1] at hb
          exact ⟨_, _, rfl, G.fr, B, ρ, e, S, d, e2, sim, er, r1, e1, fun σ1 er1 o1 => ⟨B, ρ, e2, S, ds, e', S', sim, er1, r2, hb, q⟩⟩
theorem x_sub (hw : G.w = X.w) (hu : X.A.units + 100 < cLine) (ho : PE X o (tE X.K P F G WF mo)) (hi : PE X a (tE X.K P F G WF ma)) (h2 : PGs X es (tXs X.K P F G mxs))
    (ha : ∀ v, assign (.Subscript o a tpos) X.env v = (do
      let ov ← holding [v] (eval o X.env)
      let iv ← holding [v, ov] (eval a X.env)
      standAt tpos
      holding [v, ov, iv] (setItem ov iv v)
      release [v, ov, iv] []))
    (hs : (assignEach (.Subscript o a tpos :: es) X.env).map (·.2) = assign (.Subscript o a tpos) X.env :: (assignEach es X.env).map (·.2)) : PGs X (.Subscript o a tpos :: es) (tXs X.K P F G (.sub mo ma :: mxs)) := by
  refine ⟨fun pins s σ H vs us Q I rv ⟨B, ρ, e, S, ds, e', S', sim, er, r, hb, q⟩ => ?_⟩
  have hset : PG X (.Subscript o a tpos) (fun v σ H Q => ∃ B ρ e S d e' S' ds, Sim X.K G B ρ S H ∧ EnvR X.K G B ρ σ e ∧ Rep X.K G B ρ v d ∧ bindXs P F (.sub mo ma :: mxs) (d :: ds) e S = some (e', S') ∧ ∀ H' B' ρ' S3, Le B ρ B' ρ' → Sim X.K G B' ρ' S3 H' → EnvR X.K G B' ρ' σ e → bindXs P F mxs ds e S3 = some (e', S') → Q σ H') := by
    refine ⟨fun pins s σ H v u Q I r ⟨B, ρ, e, S, d, e', S', ds, sim, er, rd, hb, q⟩ => ?_⟩
    have hb : (match ev P F mo e S with
      | .ok a S1 => (match ev P F ma e S1 with
        | .ok j S2 => (match setD S2 a j d with
          | some S3 => bindXs P F mxs ds e S3
          | none => none)
        | _ => none)
      | _ => none) = some (e', S') := hb
    rw [ha]
    cases e1 : ev P F mo e S with
    | ex c fs S1 => rw [e1] at hb; cases hb
    | bad => rw [e1] at hb; cases hb
    | ok dx S1 =>
      rw [e1] at hb
      simp only at hb
      cases e2 : ev P F ma e S1 with
      | ex c fs S1 => rw [e2] at hb; cases hb
      | bad => rw [e2] at hb; cases hb
      | ok dj S2 =>
        rw [e2] at hb
        simp only at hb
        cases e3 : setD S2 dx dj d with
        | none => rw [e3] at hb; cases hb
        | some S3 =>
          rw [e3] at hb
          refine wpAny_bind (wpAny_holding (thn (ho.run pins s σ H (fun x H1 => ∃ B1 ρ1, Le B ρ B1 ρ1 ∧ Sim X.K G B1 ρ1 S1 H1 ∧ Rep X.K G B1 ρ1 x dx) I ⟨B, ρ, e, S, sim, er, by rw [e1]; exact fun u H' B' ρ' le s r => ⟨B', ρ', le, s, r⟩⟩) fun ov s1 ⟨x, H1, I1, r1, B1, ρ1, le1, sim1, rx⟩ => ?_))
          refine wpAny_bind (wpAny_holding (thn (hi.run pins s1 σ H1 (fun x H2 => ∃ B2 ρ2, Le B1 ρ1 B2 ρ2 ∧ Sim X.K G B2 ρ2 S2 H2 ∧ Rep X.K G B2 ρ2 x dj) I1 ⟨B1, ρ1, e, S1, sim1, er.up le1, by rw [e2]; exact fun u H' B' ρ' le s r => ⟨B', ρ', le, s, r⟩⟩) fun iv s2 ⟨j, H2, I2, r2, B2, ρ2, le2, sim2, rj⟩ => ?_))
          refine wpAny_bind (wpAny_standAt (wpAny_bind (wpAny_holding (thn (o_set hw hu I2 sim2 r1 r2 r (rx.up le2) rj ((rd.up le1).up le2) e3 (Q := fun H' => Q σ H') fun H' s' => q H' B2 ρ2 S3 (le1.trans le2) s' ((er.up le1).up le2) hb) fun _ s3 ⟨H3, I3, q3⟩ => ?_))))
          exact wpAny_release ⟨σ, H3, I3, q3⟩
  refine (pgs_cons hset h2 hs).run pins s σ H vs us Q I rv ?_
  cases ds with
  | nil => cases hb
  | cons d ds =>
    cases r with
    | cons r1 r2 =>
      exact ⟨_, _, rfl, B, ρ, e, S, d, e', S', ds, sim, er, r1, hb, fun H' B' ρ' S3 le s3 er3 hb3 => ⟨B', ρ', e, S3, ds, e', S', s3, er3, r2.up le, hb3, fun σ' H'' B'' ρ'' le' => q σ' H'' B'' ρ'' (le.trans le')⟩⟩
theorem bindXs_len {P : Pg} {F : Fo} : ∀ {ms : List MX} {ds : List D} {e e' : Env} {S S' : Sto}, bindXs P F ms ds e S = some (e', S') → ds.length = ms.length
  | [], [], _, _, _, _, _ => rfl
  | [], _ :: _, _, _, _, _, h => by cases h
  | .t _ :: _, [], _, _, _, _, h => by cases h
  | .sub _ _ :: _, [], _, _, _, _, h => by cases h
  | .t m :: ms, d :: ds, e, e', S, S', h => by
    have h : (match bindM S m d e with
          | some v' => bindXs P F ms ds v' S
          | none => none) = some (e', S') := h
    split at h
    · exact congrArg (· + 1) (bindXs_len h)
    · cases h
  | .sub x i :: ms, d :: ds, e, e', S, S', h => by
    have h : (match ev P F x e S with
      | .ok a S1 => (match ev P F i e S1 with
        | .ok j S2 => (match setD S2 a j d with
          | some S3 => bindXs P F ms ds e S3
          | none => none)
        | _ => none)
      | _ => none) = some (e', S') := h
    split at h
    · split at h
      · split at h
        · exact congrArg (· + 1) (bindXs_len h)
        · cases h
      · cases h
    · cases h
theorem st_asgx (hc : X.calm = true) (he : PE X e (tE X.K P F G W me)) (hg : PGs X es (tXs X.K P F G mxs)) (hn : (assignEach es X.env).length = mxs.length) (hst : (assignEach es X.env).findIdx? (·.1) = none)
    (hs : swapsWithSole [.Tuple es k pt] e pos.line X.env = pure false) (hw : swappedStores [.Tuple es k pt] e X.env = pure none) (h1 : (assignEach [.Tuple es k pt] X.env).map (·.2) = [assign (.Tuple es k pt) X.env]) :
    PS X (.Assign [.Tuple es k pt] e pos) (tS X.K P F G W (.asgx mxs me)) := (ps_asg he (pg_tup hc hg hn hst) hs hw h1).imp fun D σ H ⟨B, ρ, v, S, sim, er, af⟩ => by
  have af : AftS X.K G W B ρ (bindS (ev P F me v S) v fun d S1 => (match d with
    | .tup xs => (match bindXs P F mxs xs v S1 with
      | some (v', S2) => .nx v' S2
      | none => .bad)
    | _ => .bad)) D := af
  refine tE_of sim er af fun u H1 B1 ρ1 d S1 le1 s1 er1 r af1 => ?_
  cases r with
  | @tup a vs ds ht rs =>
    simp only at af1
    cases e2 : bindXs P F mxs ds v S1 with
    | none => rw [e2] at af1; exact af1.elim
    | some z =>
      obtain ⟨v', S2⟩ := z
      rw [e2] at af1
      exact ⟨a, vs, rfl, sqT_up s1.sub ht.sq, by rw [rs.length]; exact bindXs_len e2, B1, ρ1, v, S1, ds, v', S2, s1, er1, rs, e2, fun σ' H' B' ρ' le s er' => af1 σ' H' B' ρ' le s er'⟩
  | _ => exact af1.elim
end
end Mi
end
section
set_option autoImplicit false
set_option linter.all false
set_option maxRecDepth 100000
/-! Mi20: the end of a def: its own objects are let go -/
namespace Mi
open PySem PySem.Spec PyProof.Rows L2

/-- the ground with these objects as they stand -/
def groundOf (B H : Hp) (l : List Addr) : Hp := fun a => if a ∈ l then H a else B a
theorem groundOf_in {B H : Hp} {l : List Addr} {a : Addr} (h : a ∈ l) : groundOf B H l a = H a := if_pos h
theorem groundOf_out {B H : Hp} {l : List Addr} {a : Addr} (h : a ∉ l) : groundOf B H l a = B a := if_neg h
section
variable {K : PySem.W.Frag} {G : Ga} {B B' : Hp} {ρ ρ' : List Addr} {S S' : Sto} {H H' : Hp}
theorem take_of (le : Le B ρ B' ρ') : ρ'.take ρ.length = ρ := by
  obtain ⟨t, rfl⟩ := le.pre
  simp
theorem drop_out (s' : Sim K G B' ρ' S' H') {n : Nat} {a : Addr} (h : a ∈ ρ'.take n) : a ∉ ρ'.drop n := fun z => by
  have nd := s'.nd
  rw [← List.take_append_drop n ρ', List.nodup_append] at nd
  exact nd.2.2 a h a z rfl
/-- the ground behind the def -/
theorem Le.ground (s' : Sim K G B' ρ' S' H') (le : Le B ρ B' ρ') : Le B ρ (groundOf B' H' (ρ'.drop ρ.length)) ρ := by
  refine ⟨fun a o e => ?_, List.prefix_refl _⟩
  have e' := le.sub a o e
  have na : a ∉ ρ'.drop ρ.length := fun z => by
    rw [s'.off a (List.mem_of_mem_drop z)] at e'; cases e'
  rw [groundOf_out na]; exact e'
theorem Le.ground2 (s' : Sim K G B' ρ' S' H') (n : Nat) : Le B' (ρ'.take n) (groundOf B' H' (ρ'.drop n)) (ρ'.take n) := by
  refine ⟨fun a o e => ?_, List.prefix_refl _⟩
  have na : a ∉ ρ'.drop n := fun z => by
    rw [s'.off a (List.mem_of_mem_drop z)] at e; cases e
  rw [groundOf_out na]; exact e
theorem okT_at : ∀ {n : Nat} {S S' : Sto} {l : Nat} {m m' : MO}, okT n S S' = true → S[l]? = some m → S'[l]? = some m' → m = m' ∨ lfM n m' = true
  | _, [], _, _, _, _, _, e, _ => by simp at e
  | _, _ :: _, [], _, _, _, h, _, _ => by simp [okT] at h
  | n, m0 :: S, m1 :: S', 0, m, m', h, e1, e2 => by
    simp at e1 e2
    subst e1 e2
    simp only [okT, Bool.and_eq_true, Bool.or_eq_true, decide_eq_true_eq] at h
    exact h.1
  | n, m0 :: S, m1 :: S', l + 1, m, m', h, e1, e2 => by
    simp only [okT, Bool.and_eq_true] at h
    exact okT_at h.2 (by simpa using e1) (by simpa using e2)
theorem Sim.out (s : Sim K G B ρ S H) (s' : Sim K G B' ρ' S' H') (le : Le B ρ B' ρ') (ok : okT S.length S S' = true) : Sim K G (groundOf B' H' (ρ'.drop ρ.length)) ρ (S'.take S.length) H' := by
  have hl := s.len
  have hl' := s'.len
  have hp : ρ.length ≤ ρ'.length := le.pre.length_le
  have tk := take_of le
  refine ⟨fun a o e => ?_, by rw [List.length_take]; omega, ?_, fun a ha => ?_, fun l m e => ?_, fun a o e => ?_, s'.tab, ⟨fun a ps e => ?_, s'.ntb.2⟩⟩
  rotate_right
  · by_cases h : a ∈ ρ'.drop ρ.length
    · rw [groundOf_in h] at e; exact s'.notb (List.mem_of_mem_drop h) ps e
    · rw [groundOf_out h] at e; exact s'.ntb.1 a ps e
  · by_cases h : a ∈ ρ'.drop ρ.length
    · rw [groundOf_in h] at e; exact e
    · rw [groundOf_out h] at e; exact s'.sub a o e
  · exact s.nd
  · have ha' : a ∈ ρ'.take ρ.length := by rw [tk]; exact ha
    rw [groundOf_out (drop_out s' ha')]
    exact s'.off a (List.mem_of_mem_take ha')
  · have hlt : l < S.length := by
      have := (List.getElem?_eq_some_iff.mp e).1
      rw [List.length_take] at this; omega
    rw [List.getElem?_take, if_pos hlt] at e
    obtain ⟨a, ea, hm⟩ := s'.obj l m e
    have hcl : lfM S.length m = true := by
      rcases okT_at ok (List.getElem?_eq_getElem hlt) e with h | h
      · obtain ⟨a2, ea2, hm2⟩ := s.obj l _ (List.getElem?_eq_getElem hlt)
        rw [h] at hm2
        have := hm2.lf
        rw [hl] at this; exact this
      · exact h
    have hm2 := hm.cut hcl
    rw [← hl, tk] at hm2
    refine ⟨a, ?_, hm2.up ⟨fun b o z => ?_, List.prefix_refl _⟩ rfl⟩
    · rw [← tk, List.getElem?_take, if_pos (by omega)]; exact ea
    · have nb : b ∉ ρ'.drop ρ.length := fun q => by
        rw [s'.off b (List.mem_of_mem_drop q)] at z; cases z
      rw [groundOf_out nb]; exact z
  · obtain ⟨f1, f2, f3⟩ := s'.frm a o e
    obtain ⟨_, _, g3⟩ := s.frm a o e
    have na : a ∉ ρ'.drop ρ.length := fun z => drop_out s' (by rw [take_of le]; exact g3.mpr (f3.mp (List.mem_of_mem_drop z))) z
    exact ⟨f1, by rw [groundOf_out na]; exact f2, g3⟩
theorem loc_drop {l n : Nat} {a : Addr} (h : ρ'[l]? = some a) (hn : n ≤ l) : a ∈ ρ'.drop n := by
  refine List.mem_of_getElem? (i := l - n) ?_
  rw [List.getElem?_drop, show n + (l - n) = l by omega]
  exact h
section
variable (s' : Sim K G B' ρ' S' H') (n : Nat)
include s'
mutual
/-- what is handed back, its own objects let go -/
theorem fz_rep : ∀ {u : V} {d d' : D}, Rep K G B' ρ' u d → fz n S' d = some d' → Rep K G (groundOf B' H' (ρ'.drop n)) (ρ'.take n) u d'
  | _, _, _, .non, e => by cases e; exact .non
  | _, _, _, .bl b, e => by cases e; exact .bl b
  | _, _, _, .int b, e => by cases e; exact .int b
  | _, _, _, .str b, e => by cases e; exact .str b
  | _, _, _, .fn b, e => by cases e; exact .fn b
  | _, _, _, .cls b, e => by cases e; exact .cls b
  | _, _, _, .ty b, e => by cases e; exact .ty b
  | _, _, _, .scr h r, e => by
    simp only [fz] at e
    split at e
    · rename_i hc; cases e
      exact .scr (sqL_up (Le.ground2 s' n).sub h) ((r.cut hc).up (Le.ground2 s' n))
    · cases e
  | _, _, _, .tup h r, e => by
    simp only [fz, Option.map_eq_some_iff] at e
    obtain ⟨xs, e, rfl⟩ := e
    exact .tup (h.up (Le.ground2 s' n).sub) (fzs_rep r e)
  | _, _, _, .lst h r, e => by
    simp only [fz, Option.map_eq_some_iff] at e
    obtain ⟨xs, e, rfl⟩ := e
    exact .lst ((Le.ground2 s' n).sub _ _ h) (fzs_rep r e)
  | _, _, _, .ins h r, e => by
    simp only [fz] at e
    split at e
    · rename_i hc; cases e
      exact .ins ((Le.ground2 s' n).sub _ _ h) ((r.cut hc).up (Le.ground2 s' n))
    · cases e
  | _, _, _, .dct h r, e => by
    simp only [fz] at e
    split at e
    · rename_i hc; cases e
      exact .dct ((Le.ground2 s' n).sub _ _ h) ((r.cut hc).up (Le.ground2 s' n))
    · cases e
  | _, _, d', .loc (a := a) (l := l) h, e => by
    simp only [fz] at e
    split at e
    · rename_i hl; cases e
      exact .loc (by rw [List.getElem?_take, if_pos hl]; exact h)
    · rename_i hl
      have hd : a ∈ ρ'.drop n := loc_drop h (by omega)
      split at e
      · rename_i xs hx
        split at e
        · rename_i hc; cases e
          obtain ⟨a2, ea, vs, hv, rr⟩ := s'.obj _ _ hx
          rw [h] at ea; cases ea
          exact .lst (by rw [groundOf_in hd]; exact hv) ((rr.cut hc).up (Le.ground2 s' n))
        · cases e
      · rename_i c fs hx
        split at e
        · rename_i hc; cases e
          obtain ⟨a2, ea, dx, fv, hv, rr⟩ := s'.obj _ _ hx
          rw [h] at ea; cases ea
          exact .ins (by rw [groundOf_in hd]; exact hv) ((rr.cut hc).up (Le.ground2 s' n))
        · cases e
      · rename_i kd hx
        split at e
        · rename_i hc; cases e
          obtain ⟨a2, ea, kv, hv, rr⟩ := s'.obj _ _ hx
          rw [h] at ea; cases ea
          exact .dct (by rw [groundOf_in hd]; exact hv) ((rr.cut hc).up (Le.ground2 s' n))
        · cases e
      · cases e
theorem fzs_rep : ∀ {us : List V} {ds ds' : List D}, Reps K G B' ρ' us ds → fzs n S' ds = some ds' → Reps K G (groundOf B' H' (ρ'.drop n)) (ρ'.take n) us ds'
  | _, _, _, .nil, e => by cases e; exact .nil
  | _, _, _, .cons h r, e => by
    unfold fzs at e
    split at e
    · rename_i x xs h1 h2
      cases e
      exact .cons (fz_rep h h1) (fzs_rep r h2)
    · cases e
end
theorem fzF_ex3 {fv : List (Str × V)} {P : Nat → Prop} : ∀ {r xs : List (Nat × D)}, (∀ i d, P i → lookF i r = some d → ∃ v, fv.lookup (G.nm i) = some v ∧ Rep K G B' ρ' v d) → fzF n S' r = some xs → ∀ i d, P i → lookF i xs = some d → ∃ v, fv.lookup (G.nm i) = some v ∧ Rep K G (groundOf B' H' (ρ'.drop n)) (ρ'.take n) v d
  | [], _, _, e, i, d, _, z => by cases e; cases z
  | (k, d0) :: r, xs, h, e, i, d, ne, z => by
    unfold fzF at e
    split at e
    · rename_i x ys h1 h2
      cases e
      by_cases hk : k = i
      · subst hk
        simp only [lookF, decide_true, if_true] at z
        cases z
        obtain ⟨v, g1, g2⟩ := h k d0 ne (by simp [lookF])
        exact ⟨v, g1, fz_rep s' n g2 h1⟩
      · simp only [lookF, decide_eq_false hk] at z
        refine fzF_ex3 (P := fun i => P i ∧ i ≠ k) (fun i d ne q => h i d ne.1 ?_) h2 i d ⟨ne, Ne.symm hk⟩ (by simpa using z)
        simp only [lookF, decide_eq_false (Ne.symm ne.2)]; exact q
    · cases e
theorem fzF_ex {fv : List (Str × V)} {fs fs' : List (Nat × D)} (h : ExF K G B' ρ' fv fs) (e : fzF n S' fs = some fs') : ExF K G (groundOf B' H' (ρ'.drop n)) (ρ'.take n) fv fs' := fun i d z =>
  fzF_ex3 s' n (P := fun _ => True) (fun i d _ q => h i d q) e i d trivial z
end
/-- a def's result, handed on -/
theorem fin_post {W : XK} {Q : VK} {keep : Bool} {d : D} {u : V} (s : Sim K G B ρ S H) (s' : Sim K G B' ρ' S' H') (le : Le B ρ B' ρ') (r : Rep K G B' ρ' u d) (h : Aft K G W B ρ (fin keep S d S') Q) : Q u H' := by
  have hl := s.len
  have hl' := s'.len
  have tk := take_of le
  unfold fin at h
  split at h
  · exact Post.here (Post.up h le) s' r
  · split at h
    · rename_i ok
      have so := s.out s' le ok
      split at h
      · split at h
        · rename_i l
          split at h
          · rename_i m hm
            split at h
            · rename_i hc
              simp only [Bool.and_eq_true, decide_eq_true_eq] at hc
              obtain ⟨a, ea, hh⟩ := s'.obj _ _ hm
              cases r with
              | loc h2 =>
                rw [ea] at h2; cases h2
                have hd : a ∈ ρ'.drop ρ.length := loc_drop ea (by omega)
                have hcut := hh.cut hc.2
                rw [← hl, tk] at hcut
                -- the object itself stays in the store
                have na : a ∉ ρ := fun z => drop_out s' (n := ρ.length) (by rw [tk]; exact z) hd
                let B2 : Hp := groundOf B' H' ((ρ'.drop ρ.length).filter fun b => decide (b ≠ a))
                have nf : ∀ b, b ∉ ρ'.drop ρ.length → b ∉ (ρ'.drop ρ.length).filter fun b => decide (b ≠ a) := fun b z q => z (List.mem_filter.mp q).1
                have lk : ∀ b o, B' b = some o → B2 b = some o := fun b o e => by
                  have nb : b ∉ ρ'.drop ρ.length := fun z => by
                    rw [s'.off b (List.mem_of_mem_drop z)] at e; cases e
                  show groundOf _ _ _ b = _
                  rw [groundOf_out (nf b nb)]; exact e
                have leB : Le B ρ B2 (ρ ++ [a]) := ⟨fun b o e => lk b o (le.sub b o e), List.prefix_append _ _⟩
                have s2 : Sim K G B2 (ρ ++ [a]) (S'.take S.length ++ [m]) H' := by
                  refine ⟨fun b o e => ?_, by rw [List.length_append, List.length_append, List.length_take]; simp; have := le.pre.length_le; omega, ?_, fun b hb => ?_, fun j m' e => ?_, fun b o e => ?_, so.tab, ⟨fun b ps e => ?_, so.ntb.2⟩⟩
                  rotate_right
                  · have e : groundOf _ _ _ b = some (.tbl ps) := e
                    by_cases q : b ∈ (ρ'.drop ρ.length).filter fun b => decide (b ≠ a)
                    · rw [groundOf_in q] at e; exact s'.notb (List.mem_of_mem_drop (List.mem_filter.mp q).1) ps e
                    · rw [groundOf_out q] at e; exact s'.ntb.1 b ps e
                  · have e : groundOf _ _ _ b = some o := e
                    by_cases q : b ∈ (ρ'.drop ρ.length).filter fun b => decide (b ≠ a)
                    · rw [groundOf_in q] at e; exact e
                    · rw [groundOf_out q] at e; exact s'.sub b o e
                  · rw [List.nodup_append]
                    exact ⟨s.nd, by simp, fun x hx y hy z => na (by simp at hy; rw [← hy, ← z]; exact hx)⟩
                  · show groundOf _ _ _ b = none
                    rcases List.mem_append.mp hb with hb | hb
                    · have hb' : b ∈ ρ'.take ρ.length := by rw [tk]; exact hb
                      rw [groundOf_out (nf b (drop_out s' hb'))]
                      exact s'.off b (List.mem_of_mem_take hb')
                    · simp at hb
                      subst hb
                      rw [groundOf_out (by simp)]
                      exact s'.off b (List.mem_of_getElem? ea)
                  · have hlen : (S'.take S.length).length = S.length := by rw [List.length_take]; have := le.pre.length_le; omega
                    by_cases hj : j < S.length
                    · rw [List.getElem?_append_left (by rw [hlen]; exact hj)] at e
                      have hS := e
                      rw [List.getElem?_take, if_pos hj] at e
                      obtain ⟨b, eb, hmm⟩ := s'.obj j m' e
                      have hcl : lfM S.length m' = true := by
                        rcases okT_at ok (List.getElem?_eq_getElem hj) e with h | h
                        · obtain ⟨a2, ea2, hm2⟩ := s.obj j _ (List.getElem?_eq_getElem hj)
                          rw [h] at hm2
                          have := hm2.lf
                          rw [hl] at this; exact this
                        · exact h
                      have hm2 := hmm.cut hcl
                      rw [← hl, tk] at hm2
                      refine ⟨b, ?_, hm2.up ⟨lk, List.prefix_append _ _⟩ rfl⟩
                      rw [List.getElem?_append_left (by omega), ← tk, List.getElem?_take, if_pos (by omega)]; exact eb
                    · have ej : j = S.length := by
                        have := (List.getElem?_eq_some_iff.mp e).1
                        rw [List.length_append, hlen] at this
                        simp at this; omega
                      subst ej
                      rw [List.getElem?_append_right (by omega), hlen] at e
                      simp at e
                      subst e
                      exact ⟨a, by rw [← hl]; simp, hcut.up ⟨lk, List.prefix_append _ _⟩ rfl⟩
                  · obtain ⟨f1, f2, f3⟩ := s'.frm b o e
                    obtain ⟨_, _, g3⟩ := s.frm b o e
                    refine ⟨f1, ?_, fun z => ?_, fun z => List.mem_append_left _ (g3.mpr z)⟩
                    · show groundOf _ _ _ b = none
                      rw [groundOf_out (nf b fun z => drop_out s' (n := ρ.length) (by rw [tk]; exact g3.mpr (f3.mp (List.mem_of_mem_drop z))) z)]; exact f2
                    · rcases List.mem_append.mp z with z | z
                      · exact g3.mp z
                      · simp at z
                        subst z
                        exact f3.mp (List.mem_of_getElem? ea)
                exact h (.ref a) H' B2 (ρ ++ [a]) leB s2 (.loc (by rw [← hl]; simp))
            · exact h.elim
          · exact h.elim
        · exact h.elim
      · split at h
        · rename_i d' hf
          have rr := fz_rep s' S.length r hf
          rw [← hl, tk] at rr
          exact h u H' _ ρ (Le.ground s' le) so rr
        · exact h.elim
    · exact h.elim
theorem finX_post {W : XK} {c : Nat} {fs : List (Nat × D)} {Q : VK} {dd : Addr} {fv : List (Str × V)} (s : Sim K G B ρ S H) (s' : Sim K G B' ρ' S' H') (le : Le B ρ B' ρ') (hd : H' dd = some (.xd fv)) (hf : ExF K G B' ρ' fv fs) (h : Aft K G W B ρ (finX S c fs S') Q) : W (.ref (G.cl c)) (some dd) H' := by
  have hl := s.len
  have tk := take_of le
  unfold finX at h
  split at h
  · exact h dd fv H' B' ρ' le s' hd hf
  · split at h
    · rename_i ok
      have so := s.out s' le ok
      split at h
      · rename_i fs' e
        have rr := fzF_ex s' S.length hf e
        rw [← hl, tk] at rr
        exact h dd fv H' _ ρ (Le.ground s' le) so hd rr
      · exact h.elim
    · exact h.elim
end
end Mi
end
section
set_option autoImplicit false
set_option linter.all false
set_option maxRecDepth 100000
/-! Mi21: chains of comparisons -/
namespace Mi
open PySem PySem.Spec PyProof.Rows L2

def rC (K : PySem.W.Frag) (G : Ga) (o : CmpOp) : R2 := fun x y H Q => ∃ B ρ S a b k, Sim K G B ρ S H ∧ Rep K G B ρ x a ∧ Rep K G B ρ y b ∧ cmpD S o a b = some k ∧ Post K G B ρ S (.bl k) Q
section
variable {P : Pg} {F : Fo} {G : Ga} {X : Cx} {W : WX} {a b c : Expr} {ma mb mc : ME} {pos : Pos} {o o' : CmpOp}
theorem op_C (hw : G.w = X.w) (hu : X.A.units + 100 < cLine) : OpR X (compareOp o) (rC X.K G o) := fun pins s σ H x y v u Q I rx ry ⟨B, ρ, S, a, b, k, sim, ra, rb, e, q⟩ => o_cmp hw hu I sim rx ry ra rb e q
theorem chn_read {σ : L2.St} {H : Hp} {Q : VK} {K : PySem.W.Frag} (h : tE K P F G W (.chn o o' ma mb mc) σ H Q) : tChain (rC K G o) (rC K G o') (tE K P F G W ma) (tE K P F G W mb) (tE K P F G W mc) σ H Q := by
  obtain ⟨B, ρ, v, S, sim, er, af⟩ := h
  have af : Aft K G (fun c d => W c d σ) B ρ (bind1 (ev P F ma v S) fun x S1 => bind1 (ev P F mb v S1) fun y S2 => (match cmpD S2 o x y with
    | some true => bind1 (ev P F mc v S2) fun z S3 => ofB (cmpD S3 o' y z) S3
    | some false => .ok (.bl false) S2
    | none => .bad)) Q := af
  refine ⟨B, ρ, v, S, sim, er, ?_⟩
  cases e1 : ev P F ma v S with
  | ex c fs S1 => rw [e1] at af; exact af
  | bad => rw [e1] at af; exact af
  | ok d1 S1 =>
    rw [e1] at af
    simp only [bind1] at af
    intro x H1 B1 ρ1 le1 s1 r1
    refine ⟨B1, ρ1, v, S1, s1, er.up le1, ?_⟩
    cases e2 : ev P F mb v S1 with
    | ex c fs S2 => rw [e2] at af; exact Aft.up (show Aft K G (fun c d => W c d σ) B ρ (.ex c fs S2) Q from af) le1
    | bad => rw [e2] at af; exact af
    | ok d2 S2 =>
      rw [e2] at af
      simp only at af
      intro y H2 B2 ρ2 le2 s2 r2
      have af := Aft.up af (le1.trans le2)
      cases hq : cmpD S2 o d1 d2 with
      | none => rw [hq] at af; exact af.elim
      | some k =>
        rw [hq] at af
        refine ⟨B2, ρ2, S2, d1, d2, k, s2, r1.up le2, r2, hq, fun u H3 B3 ρ3 le3 s3 r3 => ⟨k, r3.bl_inv, ?_⟩⟩
        cases k with
        | false =>
          rw [if_neg Bool.false_ne_true]
          exact (show Post K G B2 ρ2 S2 (.bl false) Q from af) _ H3 B3 ρ3 le3 s3 (.bl false)
        | true =>
          rw [if_pos rfl]
          refine ⟨B3, ρ3, v, S2, s3, ((er.up le1).up le2).up le3, ?_⟩
          have af := Aft.up af le3
          simp only at af
          cases e3 : ev P F mc v S2 with
          | ex c fs S3 => rw [e3] at af; exact af
          | bad => rw [e3] at af; exact af
          | ok d3 S3 =>
            rw [e3] at af
            simp only [bind1] at af
            intro z H4 B4 ρ4 le4 s4 r4
            cases hq2 : cmpD S3 o' d2 d3 with
            | none => rw [hq2] at af; exact af.elim
            | some k2 =>
              rw [hq2] at af
              exact ⟨B4, ρ4, S3, d2, d3, k2, s4, (r2.up le3).up le4, r4, hq2, Post.up (show Post K G B3 ρ3 S3 (.bl k2) Q from af) le4⟩
theorem s_chn (hw : G.w = X.w) (hu : X.A.units + 100 < cLine) (ha : PE X a (tE X.K P F G W ma)) (hb : PE X b (tE X.K P F G W mb)) (hc : PE X c (tE X.K P F G W mc)) (hm : lastMarks [o, o'] [b, c] = false) : PE X (.Compare a [o, o'] [b, c] pos) (tE X.K P F G W (.chn o o' ma mb mc)) :=
  (pe_chain (op_C hw hu) (op_C hw hu) ha hb hc hm).imp fun σ H Q h => chn_read h
/-- a value that is a bool, as a test -/
theorem chn_bl {v : Env} {S S' : Sto} {d : D} (e : ev P F (.chn o o' ma mb mc) v S = .ok d S') : ∃ k, d = .bl k := by
  have e : (bind1 (ev P F ma v S) fun x S1 => bind1 (ev P F mb v S1) fun y S2 => (match cmpD S2 o x y with
    | some true => bind1 (ev P F mc v S2) fun z S3 => ofB (cmpD S3 o' y z) S3
    | some false => .ok (.bl false) S2
    | none => .bad)) = .ok d S' := e
  cases e1 : ev P F ma v S with
  | ok d1 S1 =>
    rw [e1] at e
    simp only [bind1] at e
    cases e2 : ev P F mb v S1 with
    | ok d2 S2 =>
      rw [e2] at e
      simp only at e
      split at e
      · cases e3 : ev P F mc v S2 with
        | ok d3 S3 =>
          rw [e3] at e
          simp only [bind1] at e
          unfold ofB at e
          split at e
          · cases e; exact ⟨_, rfl⟩
          · cases e
        | ex c fs S3 => rw [e3] at e; cases e
        | bad => rw [e3] at e; cases e
      · cases e; exact ⟨_, rfl⟩
      · cases e
    | ex c fs S2 => rw [e2] at e; cases e
    | bad => rw [e2] at e; cases e
  | ex c fs S1 => rw [e1] at e; cases e
  | bad => rw [e1] at e; cases e
theorem q_chn (hw : G.w = X.w) (hu : X.A.units + 100 < cLine) (ha : PE X a (tE X.K P F G W ma)) (hb : PE X b (tE X.K P F G W mb)) (hc : PE X c (tE X.K P F G W mc)) (hm : lastMarks [o, o'] [b, c] = false) : PT X (.Compare a [o, o'] [b, c] pos) (tQ X.K P F G W (.v (.chn o o' ma mb mc))) :=
  (pt_chain (op_C hw hu) (op_C hw hu) ha hb hc hm).imp fun σ H Q ⟨B, ρ, v, S, sim, er, af⟩ => by
    have af : AftT X.K G (fun c d => W c d σ) B ρ (match ev P F (.chn o o' ma mb mc) v S with
      | .ok d S1 => (match tru S1 d with
        | some b => .ok b S1
        | none => .bad)
      | .ex c fs S1 => .ex c fs S1
      | .bad => .bad) Q := af
    show tChain _ _ _ _ _ σ H _
    refine chn_read ⟨B, ρ, v, S, sim, er, ?_⟩
    cases e : ev P F (.chn o o' ma mb mc) v S with
    | ex c fs S1 => rw [e] at af; exact af
    | bad => rw [e] at af; exact af
    | ok d S1 =>
      rw [e] at af
      obtain ⟨k, rfl⟩ := chn_bl e
      exact fun u H' B' ρ' le s r => ⟨k, r.bl_inv, af H' B' ρ' le s⟩
end
end Mi
end
section
set_option autoImplicit false
set_option linter.all false
set_option maxRecDepth 100000
/-! Mi23: the check that a term of Mini tells a piece of syntax -/
namespace Mi
open PySem PySem.Spec PyProof.Rows L2

structure Ck where
  P : Pg
  gn : List Str
  nm : List Str
structure Cs where
  sc : Scope
  N : List Str
  top : Bool
  tbl : Bool
def Cs.blk (c : Cs) (scope : Scope) : Cs := ⟨relS scope c.sc, c.N, false, false⟩
def nmOf (k : Ck) (i : Nat) : Str := (k.nm[i]?).getD ⟨#[2000000 + i]⟩
def okName (x : Str) : Bool := !(x == ("__debug__" : Str)) && !(x == ("__classdict__" : Str))
def visB (sc : Scope) (x : Str) : Bool := decide (sc.names.lookup x = some .local) || decide (sc.names.lookup x = some .cell) || decide (sc.names.lookup x = some .free)
def stB (c : Cs) (x : Str) : Bool := decide (c.sc.names.lookup x = some .local) || (c.top && decide (c.sc.names.lookup x = some .cell))
def glB (sc : Scope) (x : Str) : Bool := decide (sc.names.lookup x = some .globalImplicit)
def bnames : List Str := ["len", "abs", "int", "str", "sum", "any", "all", "min", "max", "sorted", "list", "tuple", "repr", "isinstance", "range", "zip", "enumerate", "dict", "bool"]
def glAt (k : Ck) (g : Nat) (x : Str) : Bool := decide (k.gn[g]? = some x)
def fnAt (k : Ck) (f : Nat) (x : Str) : Bool := (k.gn.zip k.P.glb).any fun q => decide (q.1 = x) && (match q.2 with | .fn g => decide (g = f) | _ => false)
def clAt (k : Ck) (f : Nat) (x : Str) : Bool := (k.gn.zip k.P.glb).any fun q => decide (q.1 = x) && (match q.2 with | .cls g => decide (g = f) | _ => false)
def mkOk (k : Ck) (c : Nat) : Bool := match k.P.cls[c]? with
  | some i => i.exf.isNone && i.ini.isSome
  | none => false
def ownOf (c : Cs) (ws : List Nat) : List (Str × Nat) := ws.map fun i => ((c.N[i]?).getD "", i)
def inSlots (ws vs : List Nat) : Bool := ws.all fun i => decide (i ∈ vs)
def cstOk (c : Cs) (d : D) (e : Expr) : Bool := match e with
  | .Constant (.int i) _ _ => (match d with | .int j => decide (i = j) | _ => false)
  | .Constant (.bool i) _ _ => (match d with | .bl j => i == j | _ => false)
  | .Constant (.str i) _ _ => (match d with | .str j => decide (i = j) | _ => false)
  | .Constant .none _ _ => (match d with | .non => true | _ => false)
  | .Name x _ => (match d with | .ty n => glB c.sc x && (okName x && (tyOk n && decide (x = (n : Str)))) | _ => false)
  | _ => false
mutual
def chkT (c : Cs) : MT → Expr → Bool
  | .nm i, e => (match e with
    | .Name x _ => decide (c.N[i]? = some x) && stB c x
    | _ => false)
  | .tp ts, e => (match e with
    | .Tuple es _ _ => es.all notStar && chkTs c ts es
    | _ => false)
def chkTs (c : Cs) : List MT → List Expr → Bool
  | [], [] => true
  | t :: ts, e :: es => chkT c t e && chkTs c ts es
  | _, _ => false
end
def noPar (p : Arguments) : Bool := p.posonlyargs.isEmpty && (p.args.isEmpty && (p.vararg.isNone && (p.kwonlyargs.isEmpty && (p.kw_defaults.isEmpty && (p.kwarg.isNone && p.defaults.isEmpty)))))
mutual
def chkE (k : Ck) : ME → Cs → Expr → Bool
  | .cst d, c, e => cstOk c d e
  | .var i, c, e => (match e with
    | .Name x _ => decide (c.N[i]? = some x) && (visB c.sc x && okName x)
    | _ => false)
  | .glb g, c, e => (match e with
    | .Name x _ => glAt k g x && (glB c.sc x && (okName x && (k.P.glb[g]?).isSome))
    | _ => false)
  | .bin o a b, c, e => (match e with
    | .BinOp x p y _ => decide (o = p) && (chkE k a c x && chkE k b c y)
    | _ => false)
  | .neg a, c, e => (match e with
    | .UnaryOp .USub x _ => chkE k a c x
    | _ => false)
  | .cmp o a b, c, e => (match e with
    | .Compare x [p] [y] _ => decide (o = p) && (notSet y && (chkE k a c x && chkE k b c y))
    | _ => false)
  | .chn o o' a b d, c, e => (match e with
    | .Compare x [p, p'] [y, z] _ => decide (o = p) && (decide (o' = p') && (notSet z && (chkE k a c x && (chkE k b c y && chkE k d c z))))
    | _ => false)
  | .and ms, c, e => (match e with
    | .BoolOp .And es _ => chkN k ms c es
    | _ => false)
  | .or ms, c, e => (match e with
    | .BoolOp .Or es _ => chkN k ms c es
    | _ => false)
  | .not q, c, e => (match e with
    | .UnaryOp .Not x _ => chkV k q c x
    | _ => false)
  | .ite q a b, c, e => (match e with
    | .IfExp t x y _ => chkQ k q c t && (chkE k a c x && chkE k b c y)
    | _ => false)
  | .tup ms, c, e => (match e with
    | .Tuple es _ _ => chkL k ms c es
    | _ => false)
  | .lst ms, c, e => (match e with
    | .List es _ => chkL k ms c es
    | _ => false)
  | .dct ks ms, c, e => (match e with
    | .Dict keys values _ => chkK k ks ms c keys values && (decide (keys.length ≤ 15) && (decide (ks.length = ms.length) && !keys.isEmpty))
    | _ => false)
  | .idx a b, c, e => (match e with
    | .Subscript x y _ => notSlice y && (chkE k a c x && chkE k b c y)
    | _ => false)
  | .slc a lo hi, c, e => (match e with
    | .Subscript x (.Slice l h none _) _ => chkE k a c x && (chkP k lo c l && chkP k hi c h)
    | _ => false)
  | .att a f, c, e => (match e with
    | .Attribute x y _ => notSup x && (decide (nmOf k f = y) && chkE k a c x)
    | _ => false)
  | .call f ms, c, e => (match e with
    | .Call (.Name x _) es [] _ => glB c.sc x && (okName x && (fnAt k f x && chkL k ms c es))
    | _ => false)
  | .mk fz cl ms, c, e => (match e with
    | .Call (.Name x _) (a :: es) [] _ => glB c.sc x && (okName x && (clAt k cl x && (mkOk k cl && chkL k ms c (a :: es))))
    | _ => false)
  | .mth m o ms, c, e => (match e with
    | .Call (.Attribute x y p) es [] pos => notSup x && (decide (nmOf k m = y) && (decide (es.length < 30) && ((p.endLine == pos.line) && (chkE k o c x && chkL k ms c es))))
    | _ => false)
  | .blt b ms, c, e => (match e with
    | .Call (.Name x _) (a :: es) [] _ => glB c.sc x && (decide (x = bltN b) && chkL k ms c (a :: es))
    | _ => false)
  | .isc ms, c, e => (match e with
    | .Call (.Name x _) (a :: es) [] _ => glB c.sc x && (decide (x = "isinstance") && chkL k ms c (a :: es))
    | _ => false)
  | .bmt m o ms, c, e => (match e with
    | .Call (.Attribute x y p) es [] pos => notSup x && (decide (bmN m = y) && (decide (es.length < 30) && ((p.endLine == pos.line) && (chkE k o c x && chkL k ms c es))))
    | _ => false)
  | .lc m t it q ws, c, e => (match e with
    | .ListComp elt [⟨tg, iter, ifs, 0⟩] scope _ => blkC c.N c.sc scope (ownOf c ws) && (inSlots (slots t) ws && (notSet iter && (chkI k it c tg iter &&
        (chkT (c.blk scope) t tg && (chkC k q (c.blk scope) ifs && chkE k m (c.blk scope) elt)))))
    | _ => false)
  | .lc2 m t it q t1 it1 q1 ws ws1, c, e => (match e with
    | .ListComp elt [⟨tg, iter, ifs, 0⟩, ⟨tg1, iter1, ifs1, 0⟩] scope _ => blkC c.N c.sc scope (ownOf c ws) && (inSlots (slots t) ws && (inSlots (slots t1) ws1 && (inSlots ws1 ws && (notSet iter && (notSet iter1 && (chkI k it c tg iter &&
        (chkT (c.blk scope) t tg && (chkC k q (c.blk scope) ifs && (chkI k it1 (c.blk scope) tg1 iter1 &&
        (chkT (c.blk scope) t1 tg1 && (chkC k q1 (c.blk scope) ifs1 && chkE k m (c.blk scope) elt)))))))))))
    | _ => false)
  | .alc m, c, e => chkA k m c e
  | .cal i ms, c, e => (match e with
    | .Call (.Name x _) (a :: es) [] _ => decide (c.N[i]? = some x) && (visB c.sc x && (okName x && chkL k ms c (a :: es)))
    | _ => false)
  | .why w m, c, e => (match e with
    | .Call (.Name x _) [.Lambda params body scope _] [] _ => c.tbl && (glB c.sc x && (okName x && ((match k.P.whys[w]? with
      | some W => fnAt k W.f x
      | none => false) && (noPar params && (LamX.lamSB c.sc scope && chkE k m ⟨scope, c.N, false, false⟩ body)))))
    | _ => false)
  | .rev a, c, e => (match e with
    | .Subscript x (.Slice none none (some (.UnaryOp .USub (.Constant (.int 1) _ _) _)) _) _ => chkE k a c x
    | _ => false)
  | .eqo m a b, c, e => (match e with
    | .Compare x [.Eq] [y] _ => decide (nmOf k m = "__eq__") && (notSet y && (chkE k a c x && chkE k b c y))
    | _ => false)
  | .dnw, _, e => (match e with
    | .Dict [] [] _ => true
    | _ => false)
  | .thw _ m, c, e => (match e with
    | .ListComp elt gs scope pos => chkE k m c (.ListComp elt gs scope pos)
    | _ => false)
/-- what .alc may stand ahead of -/
def chkA (k : Ck) : ME → Cs → Expr → Bool
  | .lst ms, c, e => (match e with
    | .List es _ => chkL k ms c es
    | _ => false)
  | .dct ks ms, c, e => (match e with
    | .Dict keys values _ => (keys.isEmpty && (values.isEmpty && (ks.isEmpty && ms.isEmpty))) || (chkK k ks ms c keys values && (decide (keys.length ≤ 15) && (decide (ks.length = ms.length) && !keys.isEmpty)))
    | _ => false)
  | .bin o a b, c, e => (match e with
    | .BinOp x p y _ => decide (o = .Mult) && (decide (p = .Mult) && (chkE k a c x && chkE k b c y))
    | _ => false)
  | .blt b ms, c, e => (match e with
    | .Call (.Name x _) (a :: es) [] _ => glB c.sc x && (decide (b = .list) && (decide (x = "list") && (decide (ms.length = 1) && chkL k ms c (a :: es))))
    | _ => false)
  | .lc m t it q ws, c, e => (match e with
    | .ListComp elt [⟨tg, iter, ifs, 0⟩] scope _ => blkC c.N c.sc scope (ownOf c ws) && (inSlots (slots t) ws && (notSet iter && (chkI k it c tg iter &&
        (chkT (c.blk scope) t tg && (chkC k q (c.blk scope) ifs && chkE k m (c.blk scope) elt)))))
    | _ => false)
  | .lc2 m t it q t1 it1 q1 ws ws1, c, e => (match e with
    | .ListComp elt [⟨tg, iter, ifs, 0⟩, ⟨tg1, iter1, ifs1, 0⟩] scope _ => blkC c.N c.sc scope (ownOf c ws) && (inSlots (slots t) ws && (inSlots (slots t1) ws1 && (inSlots ws1 ws && (notSet iter && (notSet iter1 && (chkI k it c tg iter &&
        (chkT (c.blk scope) t tg && (chkC k q (c.blk scope) ifs && (chkI k it1 (c.blk scope) tg1 iter1 &&
        (chkT (c.blk scope) t1 tg1 && (chkC k q1 (c.blk scope) ifs1 && chkE k m (c.blk scope) elt)))))))))))
    | _ => false)
  | _, _, _ => false
/-- a test whose own value is asked -/
def chkV (k : Ck) : MQ → Cs → Expr → Bool
  | .v m, c, e => chkE k m c e
  | _, _, _ => false
/-- arguments: no star -/
def chkL (k : Ck) : List ME → Cs → List Expr → Bool
  | [], _, es => es.isEmpty
  | m :: ms, c, es => (match es with
    | e :: es => notStar e && (chkE k m c e && chkL k ms c es)
    | [] => false)
/-- one or more -/
def chkN (k : Ck) : List ME → Cs → List Expr → Bool
  | [], _, _ => false
  | m :: ms, c, es => (match es with
    | [] => false
    | e :: es => chkE k m c e && ((ms.isEmpty && es.isEmpty) || chkN k ms c es))
/-- pairs of a display -/
def chkK (k : Ck) (ks : List Key) : List ME → Cs → List (Option Expr) → List Expr → Bool
  | [], _, keys, values => ks.isEmpty && (keys.isEmpty && values.isEmpty)
  | m :: ms, c, keys, values => (match ks, keys, values with
    | q :: ks, some (.Constant x _ _) :: keys, v :: values => decide (keyE q = x) && (chkE k m c v && chkK k ks ms c keys values)
    | _, _, _ => false)
def chkP (k : Ck) : Option ME → Cs → Option Expr → Bool
  | none, _, e => e.isNone
  | some m, c, e => (match e with
    | some e => chkE k m c e
    | none => false)
def chkQ (k : Ck) : MQ → Cs → Expr → Bool
  | .v m, c, e => (match e with
    | .Compare _ [_] [y] _ => notSet y && chkE k m c e
    | .Compare _ [_, _] [_, z] _ => notSet z && chkE k m c e
    | e => asVal e && chkE k m c e)
  | .and qs, c, e => (match e with
    | .BoolOp .And es _ => chkQs k qs c es
    | _ => false)
  | .or qs, c, e => (match e with
    | .BoolOp .Or es _ => chkQs k qs c es
    | _ => false)
  | .not q, c, e => (match e with
    | .UnaryOp .Not x _ => chkQ k q c x
    | _ => false)
  | .ite q a b, c, e => (match e with
    | .IfExp t x y _ => chkQ k q c t && (chkQ k a c x && chkQ k b c y)
    | _ => false)
def chkQs (k : Ck) : List MQ → Cs → List Expr → Bool
  | [], _, es => es.isEmpty
  | q :: qs, c, es => (match es with
    | e :: es => chkQ k q c e && chkQs k qs c es
    | [] => false)
/-- a comprehension's tests -/
def chkC (k : Ck) : Option MQ → Cs → List Expr → Bool
  | none, _, es => es.isEmpty
  | some q, c, es => (match es with
    | [e] => chkQ k q c e
    | _ => false)
/-- what is walked, by a target -/
def chkI (k : Ck) : MI → Cs → Expr → Expr → Bool
  | .seq m, c, _, e => chkE k m c e
  | .rg1 m, c, _, e => (match e with
    | .Call (.Name x _) [a] [] _ => decide (x = "range") && (glB c.sc x && (notStar a && chkE k m c a))
    | _ => false)
  | .rg2 m m', c, _, e => (match e with
    | .Call (.Name x _) [a, b] [] _ => decide (x = "range") && (glB c.sc x && (notStar a && (notStar b && (chkE k m c a && chkE k m' c b))))
    | _ => false)
  | .zip m m', c, t, e => (match t, e with
    | .Tuple _ _ _, .Call (.Name x _) [a, b] [] _ => decide (x = "zip") && (glB c.sc x && (notStar a && (notStar b && (chkE k m c a && chkE k m' c b))))
    | _, _ => false)
  | .enm m, c, t, e => (match t, e with
    | .Tuple _ _ _, .Call (.Name x _) [a] [] _ => decide (x = "enumerate") && (glB c.sc x && (notStar a && chkE k m c a))
    | _, _ => false)
  | .dky i, c, _, e => (match e with
    | .Name x _ => decide (c.N[i]? = some x) && (visB c.sc x && okName x)
    | _ => false)
end
end Mi
end
section
set_option autoImplicit false
set_option linter.all false
set_option maxRecDepth 100000
set_option maxHeartbeats 4000000
/-! MiX6: the defs that tell what is raised -/
namespace Mi
open PySem PySem.Spec PyProof.Rows L2 LamX
def flOf (c : ClI) : List Nat := if c.rs then c.exf.getD [] else []
def hdsB (k : Ck) (N : List Str) (sc : Scope) (ex : Nat) (fd : Option Nat) : List (Nat × List WI) → List ExceptHandler → Bool
  | [], [] => true
  | (h, is) :: r, .ExceptHandler (some (.Name x _)) nm [st] _ :: hs => (glB sc x && (okName x && (clAt k h x && (match k.P.cls[h]? with
      | some c => c.leaf && wSt N fd (nmOf k) sc nm (flOf c) is st
      | none => false)))) && ((match nm with
      | none => true
      | some n => decide (N[ex]? = some n) && (decide (sc.names.lookup n = some .local) && okName n)) && hdsB k N sc ex fd r hs)
  | _, _ => false
def whyB (k : Ck) (W : WhyI) (N : List Str) (sc : Scope) (a : Str) : List Stmt → Bool
  | [.Try [.Expr (.Call (.Name a' _) [] [] _) _] (h0 :: hds) [] [] _, .Return (some (.Constant .none _ _)) _] => W.fd.isNone && (W.els.isNone && (decide (a' = a) && hdsB k N sc W.ex W.fd W.hds (h0 :: hds)))
  | [.Assign [.Name y _] (.Tuple [.Constant (.str x') _ _] _ _) _, .Try [.Expr (.Call (.Name a' _) [] [] _) _] (h0 :: hds) [] [] _, .Return (some (.Name y' _)) _] => (match W.fd, W.els with
      | some j, some x => decide (a' = a) && (decide (N[j]? = some y) && (decide (sc.names.lookup y = some .local) && (decide (y' = y) && (decide (x' = x) && (okName y && (decide (j ≠ W.ex) && (decide (j ≠ 0) && hdsB k N sc W.ex W.fd W.hds (h0 :: hds))))))))
      | _, _ => false)
  | _ => false
/-- a def of the text that gets a lambda -/
structure WhyW (k : Ck) (K : PySem.W.Frag) (G : Ga) (W : WhyI) : Prop where
  ex : ∃ (x a : Str) (pg : Arguments) (bg : List Stmt) (sg : Scope) (dV kV doc pm cdv ct oc : Value) (an od : Option Addr) (osl : Array (Option Value)) (N : List Str),
    K.lookup (G.fn W.f) = some ⟨oc, od, .func (PySem.W.fnOf x x pg bg sg dV kV doc pm an cdv ct), osl⟩ ∧ PySem.W.codeIn K cdv x = true ∧ Binds K (PySem.W.fnOf x x pg bg sg dV kV doc pm an cdv ct) [a] [] ∧ FnScope N [a] sg ∧ okName a = true ∧ W.ex < N.length ∧ W.ex ≠ 0 ∧
    whyB k W N sg a bg = true ∧ ∀ y, fnAt k W.f y = true → y = x
theorem wis_none {nm : Nat → Str} {sc : Scope} {fl : List Nat} : ∀ {is : List WI} {es : List Expr}, wisE nm sc none fl is es = true → is.all isCst = true
  | [], _, _ => rfl
  | i :: is, [], h => by cases h
  | i :: is, e :: es, h => by
    unfold wisE at h
    simp only [Bool.and_eq_true] at h
    rw [List.all_cons, wis_none h.2]
    cases i with
    | cst x => rfl
    | fld f =>
      have := h.1
      unfold wiE at this
      split at this
      · rename_i z; cases z
      · rename_i z; cases z; simp at this
      · rename_i z; cases z
      · cases this
    | rep f =>
      have := h.1
      unfold wiE at this
      split at this
      · rename_i z; cases z
      · rename_i z; cases z
      · rename_i z; cases z; simp at this
      · cases this
theorem wst_none {N : List Str} {fd : Option Nat} {nm : Nat → Str} {sc : Scope} {fl : List Nat} {is : List WI} {st : Stmt} (h : wSt N fd nm sc none fl is st = true) : is.all isCst = true := by
  unfold wSt at h
  split at h
  · simp only [Bool.and_eq_true] at h
    exact wis_none h.2.2
  · cases fd with
    | none => cases h
    | some j =>
      simp only [Bool.and_eq_true] at h
      exact wis_none h.2.2.2
  · cases h
/-- the clauses' readings -/
def clL (K : PySem.W.Frag) (G : Ga) (ex : Nat) (fd : Option Nat) : List (Nat × List WI) → List ExceptHandler → List Cl
  | (h, is) :: r, .ExceptHandler _ nm _ _ :: hs => (.ref (G.cl h), nm.map fun _ => ex, tWS K G ex h fd is) :: clL K G ex fd r hs
  | _, _ => []
/-- what follows a telling -/
def finR (D : Ends) (σ : L2.St) (ex : Nat) (v : V) (H' : Hp) : Option Nat → Prop
  | none => D.rt v H'
  | some j => D.nx (σ.set j (some v)) H' ∧ ∀ x, D.nx (((σ.set ex x).set j (some v)).set ex none) H'
section
variable {k : Ck} {K : PySem.W.Frag} {G : Ga} {B : Hp} {ρ : List Addr} {S : Sto} {H : Hp} {N : List Str} {sc : Scope} {ex : Nat} {fd : Option Nat} {c : Nat} {fs : List (Nat × D)} {t : D} {σ : L2.St} {D : Ends} {W0 : WX} {Q : VK} {dd : Addr} {fv : List (Str × V)}
theorem mix_ok (hx : ∀ h k', k.P.cls[h]? = some k' → k'.leaf = true → PySem.W.exmOne K (.ref (G.cl c)) (.ref (G.cl h)) = some (decide (h = c))) (sim : Sim K G B ρ S H) (hd : H dd = some (.xd fv)) (ef : ExF K G B ρ fv fs) (hl : ex < σ.length) (q : Post K G B ρ S t Q)
    (fin : ∀ v H', Q v H' → finR D σ ex v H' fd) : ∀ {hds : List (Nat × List WI)} {hs : List ExceptHandler}, hdsB k N sc ex fd hds hs = true → hdsD S c fs hds = some t →
    wMix K W0 D (clL K G ex fd hds hs) (.ref (G.cl c)) (some dd) σ H
  | [], _, _, h => by cases h
  | (h, is) :: r, [], hb, _ => by cases hb
  | (h, is) :: r, .ExceptHandler ty nm body p :: hs, hb, ht => by
    unfold hdsB at hb
    split at hb
    · rename_i heq1 heq2; cases heq1
    · rename_i heq1 heq2
      cases heq1; cases heq2
      simp only [Bool.and_eq_true] at hb
      obtain ⟨⟨b1, b2, b3, b4⟩, b5, b6⟩ := hb
      cases hk : k.P.cls[h]? with
      | none => rw [hk] at b4; cases b4
      | some k' =>
        rw [hk] at b4
        simp only [Bool.and_eq_true] at b4
        have e := hx h k' hk b4.1
        unfold hdsD at ht
        have tell : ∀ (a : Addr) (σ1 : L2.St) (D1 : Ends), (h = c) → (is.all isCst = true ∨ σ1[ex]? = some (some (.ref a))) → (∀ v H', Q v H' → match fd with
            | none => D1.rt v H'
            | some j => D1.nx (σ1.set j (some v)) H') → tWS K G ex h fd is a (.ref (G.cl c)) (some dd) D1 σ1 H := fun a σ1 D1 hc g f1 => by
          rw [if_pos (decide_eq_true hc)] at ht
          obtain ⟨ts, h1, rfl⟩ := Option.map_eq_some_iff.mp ht
          refine ⟨B, ρ, S, fs, ts, sim, g.imp id fun z => ⟨z, by rw [hc], dd, fv, rfl, hd, ef⟩, h1, fun u H' B' ρ' l s r => ?_⟩
          have := f1 _ _ (q u H' B' ρ' l s r)
          cases fd <;> exact this
        have next : h ≠ c → wMix K W0 D (clL K G ex fd r hs) (.ref (G.cl c)) (some dd) σ H := fun hn => by
          rw [if_neg (by simpa using hn)] at ht
          exact mix_ok hx sim hd ef hl q fin b6 ht
        cases nm with
        | none =>
          refine ⟨_, e, fun hc a ha => tell a σ D (of_decide_eq_true hc) (.inl (wst_none b4.2)) fun v H' z => ?_, fun hc => next (of_decide_eq_false hc)⟩
          have := fin v H' z
          cases fd with
          | none => exact this
          | some j => exact this.1
        | some n =>
          refine ⟨_, e, fun hc a ha => tell a _ (gone D ex) (of_decide_eq_true hc) (.inr (by rw [List.getElem?_set_self hl])) fun v H' z => ?_, fun hc => next (of_decide_eq_false hc)⟩
          have := fin v H' z
          cases fd with
          | none => exact this
          | some j => exact this.2 _
    · cases hb
end
end Mi
end
section
set_option autoImplicit false
set_option linter.all false
set_option maxRecDepth 100000
set_option maxHeartbeats 4000000
/-! Mi24: the check is sound for expressions -/
namespace Mi
open PySem PySem.Spec PyProof.Rows L2

structure CnX (k : Ck) (c : Cs) (G : Ga) (n : Nat) (X : Cx) (W : WX) : Prop extends Cn k.P G n X W where
  scp : X.env.scope = c.sc
  nms : X.N = c.N
  fnT : c.top = true → ∀ x, X.fn x = true
  nmE : ∀ i, G.nm i = nmOf k i
  glb : ∀ (g : Nat) (d : D) (x : Str), k.P.glb[g]? = some d → k.gn[g]? = some x → ∃ u v, X.mg x = some u ∧ RelV v u ∧ ∀ B ρ, Rep X.K G B ρ v d
  bn : ∀ x ∈ bnames, X.mg x = none
  smb : ∃ o, X.base.get? sysModules = some o
  fnl : ∀ (f : Nat) (x : Str), fnAt k f x = true → X.mg x = some (.ref (G.fn f)) ∧ PySem.W.keepIn X.K (.ref (G.fn f)) = true
  cll : ∀ (f : Nat) (x : Str), clAt k f x = true → X.mg x = some (.ref (G.cl f))
  why : ∀ (w : Nat) (W : WhyI), k.P.whys[w]? = some W → WhyW k X.K G W
  rm2 : c.tbl = true → Room (4 * n + 4) X.A
  tab : c.tbl = true → ∃ cc Pt, X.env.code = .ref cc ∧ LamX.TabB X.base X.mg cc Pt ∧ (Pt, X.env.qual ++ "<lambda>") ∈ G.tb ∧ ∀ p ∈ G.tb, p.1 = Pt → p.2 = X.env.qual ++ "<lambda>"
section
variable {k : Ck} {c : Cs} {G : Ga} {n : Nat} {X : Cx} {W : WX}
theorem CnX.put (C : CnX k c G n X W) (φ : Hp) : CnX k c (G.put φ) n X W := ⟨⟨⟨C.wd.inj, C.wd.exc, C.wd.fnk, C.wd.cls, C.wd.mak, C.wd.fld, C.wd.mth, C.wd.exm, C.wd.isa, C.wd.isk, C.wd.isb, C.wd.exi⟩, C.gw, C.fns, C.gd, C.rm, C.calm, C.nd, C.tk⟩, C.scp, C.nms, C.fnT, C.nmE, C.glb, C.bn, C.smb, C.fnl, C.cll, (fun w W e => let ⟨ex⟩ := C.why w W e; ⟨ex⟩), C.rm2, C.tab⟩
theorem CnX.wf (C : CnX k c G n X W) : CnX k c G n X WF := ⟨⟨C.wd, C.gw, C.fns, C.gd, C.rm, C.calm, C.nd, takes0⟩, C.scp, C.nms, C.fnT, C.nmE, C.glb, C.bn, C.smb, C.fnl, C.cll, C.why, C.rm2, C.tab⟩
theorem CnX.blk (C : CnX k c G n X W) {scope : Scope} (s : Shared) (H : Hp) (Cc : Addr) (cl : List (Str × Addr)) (fp : List Addr) : CnX k (c.blk scope) G n (X.blk s H scope (compEnvC scope cl Cc X.env) fp) WF := by
  refine ⟨⟨C.wd, C.gw, C.fns, C.gd, C.rm, C.calm, C.nd, takes0⟩, ?_, C.nms, (fun z => nomatch z), C.nmE, C.glb, C.bn, C.smb, C.fnl, C.cll, C.why, (fun z => nomatch z), (fun z => nomatch z)⟩
  have e : (relabel scope X.env) = relS scope X.env.scope := rfl
  show relabel scope X.env = relS scope c.sc
  rw [e, C.scp]
theorem CnX.sm (C : CnX k c G n X W) {pins : List (Addr × Obj)} {s : Shared} {σ : L2.St} {H : Hp} (I : Inv X pins σ H s) : H sysModules = none := by
  obtain ⟨o, ho⟩ := C.smb
  obtain ⟨h1, h2⟩ := I.ok.bs _ _ ho
  exact I.base.free _ o h1 h2 (I.ok.noex _ _ ho)
theorem gl_of (C : CnX k c G n X W) {x : Str} (h : glB c.sc x = true) : Gl X x := by
  unfold glB at h
  have := of_decide_eq_true h
  rw [← C.scp] at this
  exact this
theorem vis_of (C : CnX k c G n X W) {x : Str} (h : visB c.sc x = true) : Vis X.env.scope x := by
  unfold visB at h
  simp only [Bool.or_eq_true, decide_eq_true_eq] at h
  rw [C.scp]
  rcases h with (h | h) | h
  · exact .inl h
  · exact .inr (.inl h)
  · exact .inr (.inr h)
theorem name_of {x : Str} (h : okName x = true) : (x == ("__debug__" : Str)) = false ∧ (x == ("__classdict__" : Str)) = false := by
  unfold okName at h
  simpa using h
theorem st_of (C : CnX k c G n X W) {x : Str} (h : stB c x = true) : Loc X.env.scope x ∧ (X.fn x = true ∨ X.env.scope.names.lookup x = some .local) := by
  unfold stB at h
  simp only [Bool.or_eq_true, Bool.and_eq_true, decide_eq_true_eq] at h
  rw [L2.Loc, C.scp]
  rcases h with h | ⟨h1, h2⟩
  · exact ⟨.inl h, .inr h⟩
  · exact ⟨.inr h2, .inl (C.fnT h1 x)⟩
theorem nx_of (C : CnX k c G n X W) {i : Nat} {x : Str} (h : c.N[i]? = some x) : X.N[i]? = some x := by rw [C.nms]; exact h
theorem ty_of {n : String} (h : tyOk n = true) : bootBuiltins (n : Str) = some (.type n) ∧ (n : Str) ≠ "__name__" ∧ (n : Str) ∈ bnames := by
  unfold tyOk at h
  simp only [Bool.or_eq_true, beq_iff_eq] at h
  rcases h with ((((rfl | rfl) | rfl) | rfl) | rfl) | rfl <;> exact ⟨by decide +kernel, by decide +kernel, by decide +kernel⟩
theorem blt_in (b : Blt) : bltN b ∈ bnames := by cases b <;> decide +kernel
theorem s_cst (C : CnX k c G n X W) {F : Fo} {d : D} {e : Expr} (h : cstOk c d e = true) : PE X e (tE X.K k.P F G W (.cst d)) := by
  unfold cstOk at h
  split at h
  · split at h
    · rw [of_decide_eq_true h]; exact s_int
    · cases h
  · split at h
    · rw [eq_of_beq h]; exact s_bl
    · cases h
  · split at h
    · rw [of_decide_eq_true h]; exact s_str
    · cases h
  · split at h
    · exact s_non
    · cases h
  · split at h
    · simp only [Bool.and_eq_true, decide_eq_true_eq] at h
      obtain ⟨h1, h2, h3, rfl⟩ := h
      obtain ⟨b1, b2, b3⟩ := ty_of h3
      exact s_ty (gl_of C h1) (name_of h2).1 (C.bn _ b3) b1 b2
    · cases h
  · cases h
mutual
theorem chkT_ok (C : CnX k c G n X W) : ∀ (m : MT) (e : Expr), chkT c m e = true → PG X e (tG X.K G m)
  | .nm i, e, h => by
    unfold chkT at h
    split at h
    · simp only [Bool.and_eq_true, decide_eq_true_eq] at h
      obtain ⟨h1, h2⟩ := st_of C h.2
      exact g_name C.nd (nx_of C h.1) h1 h2
    · cases h
  | .tp ts, e, h => by
    unfold chkT at h
    split at h
    · simp only [Bool.and_eq_true] at h
      exact g_tup C.calm (chkTs_ok C ts _ h.1 h.2) (by rw [asg_len]; exact chkTs_len ts _ h.2) (asg_star h.1)
    · cases h
theorem chkTs_ok (C : CnX k c G n X W) : ∀ (ms : List MT) (es : List Expr), es.all notStar = true → chkTs c ms es = true → PGs X es (tGs X.K G ms)
  | [], [], _, _ => gs_nil
  | [], _ :: _, _, h => by cases h
  | _ :: _, [], _, h => by cases h
  | m :: ms, e :: es, hs, h => by
    unfold chkTs at h
    simp only [List.all_cons, Bool.and_eq_true] at h hs
    exact gs_cons (chkT_ok C m e h.1) (chkTs_ok C ms es hs.2 h.2) (asgs hs.1)
theorem chkTs_len : ∀ (ms : List MT) (es : List Expr), chkTs c ms es = true → es.length = ms.length
  | [], [], _ => rfl
  | [], _ :: _, h => by cases h
  | _ :: _, [], h => by cases h
  | m :: ms, e :: es, h => by
    unfold chkTs at h
    simp only [Bool.and_eq_true] at h
    exact congrArg (· + 1) (chkTs_len ms es h.2)
end
theorem own_map (c : Cs) (ws : List Nat) : (ownOf c ws).map (·.2) = ws := by
  unfold ownOf
  rw [List.map_map]
  conv => rhs; rw [← List.map_id ws]
  rfl
theorem slots_in {ws vs : List Nat} (h : inSlots ws vs = true) : ∀ i ∈ ws, i ∈ vs := fun i hi => of_decide_eq_true (List.all_eq_true.mp h i hi)
theorem chkL_star : ∀ (ms : List ME) (c : Cs) (es : List Expr), chkL k ms c es = true → es.all notStar = true
  | [], c, es, h => by
    unfold chkL at h
    cases es with
    | nil => rfl
    | cons e es => cases h
  | m :: ms, c, es, h => by
    unfold chkL at h
    cases es with
    | nil => cases h
    | cons e es =>
      simp only [Bool.and_eq_true] at h
      simp only [List.all_cons, Bool.and_eq_true]
      exact ⟨h.1, chkL_star ms c es h.2.2⟩
theorem chkL_len : ∀ (ms : List ME) (c : Cs) (es : List Expr), chkL k ms c es = true → es.length = ms.length
  | [], c, es, h => by
    unfold chkL at h
    cases es with
    | nil => rfl
    | cons e es => cases h
  | m :: ms, c, es, h => by
    unfold chkL at h
    cases es with
    | nil => cases h
    | cons e es =>
      simp only [Bool.and_eq_true] at h
      exact congrArg (· + 1) (chkL_len ms c es h.2.2)
theorem chkK_len : ∀ (ms : List ME) (ks : List Key) (c : Cs) (keys : List (Option Expr)) (values : List Expr), chkK k ks ms c keys values = true → keys.length = ms.length ∧ values.length = ms.length ∧ ks.length = ms.length ∧ keys.all (·.isSome) = true
  | [], ks, c, keys, values, h => by
    unfold chkK at h
    simp only [Bool.and_eq_true, List.isEmpty_iff] at h
    obtain ⟨rfl, rfl, rfl⟩ := h
    exact ⟨rfl, rfl, rfl, rfl⟩
  | m :: ms, ks, c, keys, values, h => by
    unfold chkK at h
    split at h
    · simp only [Bool.and_eq_true] at h
      obtain ⟨h1, h2, h3, h4⟩ := chkK_len ms _ c _ _ h.2.2
      exact ⟨congrArg (· + 1) h1, congrArg (· + 1) h2, congrArg (· + 1) h3, by simp [h4]⟩
    · cases h
theorem zip_fst : ∀ {ks : List Key} {ms : List ME}, ks.length = ms.length → (ks.zip ms).map (·.1) = ks
  | [], [], _ => rfl
  | [], _ :: _, h => by cases h
  | _ :: _, [], h => by cases h
  | a :: ks, b :: ms, h => by
    show a :: (ks.zip ms).map (·.1) = _
    rw [zip_fst (by simpa using h)]
theorem zip_snd : ∀ {ks : List Key} {ms : List ME}, ks.length = ms.length → (ks.zip ms).map (·.2) = ms
  | [], [], _ => rfl
  | [], _ :: _, h => by cases h
  | _ :: _, [], h => by cases h
  | a :: ks, b :: ms, h => by
    show b :: (ks.zip ms).map (·.2) = _
    rw [zip_snd (by simpa using h)]
end
end Mi
end
section
set_option autoImplicit false
set_option linter.all false
set_option maxRecDepth 100000
set_option maxHeartbeats 4000000
/-! MiX7: calls of what a name holds; x(lambda: e) -/
namespace Mi
open PySem PySem.Spec PyProof.Rows L2 LamX
section
variable {P : Pg} {G : Ga} {n : Nat} {X : Cx} {W : WX} {a : Expr} {es : List Expr} {ms : List ME} {p pos : Pos}
theorem s_cal (C : Cn P G n X W) {i : Nat} {x : Str} (hN : X.N[i]? = some x) (hv : Vis X.env.scope x) (hd : (x == ("__debug__" : Str)) = false) (hcd : (x == ("__classdict__" : Str)) = false) (ha : PA X (a :: es) (tL X.K P (run P n) G W ms))
    (he : starEach (a :: es) X.env = (false, eval a X.env) :: starEach es X.env) (hpl : (backTo pos (starEach es X.env)).any (·.1) = false) : PE X (.Call (.Name x p) (a :: es) [] pos) (tE X.K P (run P n) G W (.cal i ms)) := by
  refine ⟨fun pins s σ H Q I ⟨B, ρ, v, S, sim, er, af⟩ => ?_⟩
  have af : Aft X.K G (fun c d => W c d σ) B ρ (match v[i]? with
    | some (some (.fn f)) => if decide (f < P.fns.length) then bindL (evs P (run P n) ms v S) fun ds S1 => run P n f ds S1 else .bad
    | _ => .bad) Q := af
  split at af
  · rename_i f hf
    by_cases hl : f < P.fns.length
    · rw [if_pos (decide_eq_true hl)] at af
      obtain ⟨u, hu, hr⟩ := er.2 i _ hf
      cases hr
      refine wpAny_Call_Name_kw (thn ((pe_var (pos := p) hN hv hd hcd).run pins s σ H (fun v H1 => v = .ref (G.fn f) ∧ H1 = H) I ⟨_, hu, rfl, rfl⟩) fun u s1 ⟨v1, H1, I1, r1, q1, q2⟩ => ?_)
      subst q1 q2
      cases r1
      exact PySem.W.callWith_K (h₀ := X.base) I1.ok.mod.kin (C.wd.fnk f hl) (ha.mid (f := fun ds S1 => run P n f ds S1) I1 sim er af fun us s1 xs H1 B1 ρ1 S1 ds I1 r1 le sm er1 rp af1 => ⟨I1.kIn, run_m C I1 r1 sm rp af1⟩) he hpl
    · rw [if_neg (by simpa using hl)] at af; exact af.elim
  · exact af.elim
end
theorem Sim.past {K : PySem.W.Frag} {G : Ga} {B : Hp} {ρ : List Addr} {S : Sto} {H H1 : Hp} (s : Sim K G B ρ S H) (e : ExtN H H1) (t : Tabs G.tb H1) : Sim K G B ρ S H1 :=
  ⟨fun a o z => e a o (s.sub a o z) fun ps q => s.ntb.1 a ps (by rw [z, q]), s.len, s.nd, s.off, fun l m z => by
    obtain ⟨a, ea, hm⟩ := s.obj l m z
    obtain ⟨o, ho⟩ := hm.there
    exact ⟨a, ea, hm.up Le.refl ((e a o ho fun ps q => hm.notbl ps (by rw [ho, q])).trans ho.symm)⟩,
    fun a o z => let ⟨f1, f2, f3⟩ := s.frm a o z; ⟨e a o f1 fun ps q => s.ntb.2 a ps (by rw [z, q]), f2, f3⟩, t, s.ntb⟩
section
variable {k : Ck} {c : Cs} {G : Ga} {n : Nat} {X : Cx} {W : WX}
/-- the clauses of the def that tells -/
theorem hdsx_ok (C : CnX k c G n X W) {Ng : List Str} {x : Str} {sg : Scope} {g : Addr} {cdv : Value} {s1 : Shared} {H1 : Hp} {ex : Nat} {fd : Option Nat} (nd : Ng.Nodup) (hr : Room (4 * n + 3) (X.A.deeper (gEnv X x sg s1 g cdv))) :
    ∀ {hds : List (Nat × List WI)} {hs : List ExceptHandler}, hdsB k Ng sg ex fd hds hs = true → HdsX (gCx X Ng x sg g cdv s1 H1).nox hs (clL X.K G ex fd hds hs)
  | [], [], _ => .nil
  | [], _ :: _, hb => by cases hb
  | (h, is) :: r, [], hb => by cases hb
  | (h, is) :: r, .ExceptHandler ty nm body p :: hs, hb => by
    unfold hdsB at hb
    split at hb
    · rename_i heq1 heq2; cases heq1
    · rename_i heq1 heq2
      cases heq1; cases heq2
      simp only [Bool.and_eq_true] at hb
      obtain ⟨⟨b1, b2, b3, b4⟩, b5, b6⟩ := hb
      cases hk : k.P.cls[h]? with
      | none => rw [hk] at b4; cases b4
      | some k' =>
        rw [hk] at b4
        simp only [Bool.and_eq_true] at b4
        have rest := hdsx_ok (H1 := H1) C nd hr b6
        unfold glB at b1
        have gl := of_decide_eq_true b1
        have nms : Names (gCx X Ng x sg g cdv s1 H1).nox _ (.ref (G.cl h)) := ⟨gl, (name_of b2).1, .inl (C.cll h _ b3)⟩
        have wic : WiC (gCx X Ng x sg g cdv s1 H1).nox G ex h (flOf k') nm := by
          have ei : ∀ f, f ∈ flOf k' → ∃ ns, k'.exf = some ns ∧ k'.rs = true ∧ f ∈ ns := fun f hf => by
            unfold flOf at hf
            split at hf
            · rename_i hrs
              cases hx : k'.exf with
              | none => rw [hx] at hf; cases hf
              | some ns => rw [hx] at hf; exact ⟨ns, rfl, hrs, hf⟩
            · cases hf
          refine ⟨C.gd, ?_, fun I => ?_, C.bn _ (by decide +kernel), fun hne => ?_, fun f hf => ?_, fun y hy => ?_⟩
          · have := hr.un
            show (X.A.deeper (gEnv X x sg s1 g cdv)).units + 100 < cLine
            omega
          · obtain ⟨o, ho⟩ := C.smb
            obtain ⟨h1, h2⟩ := I.ok.bs _ _ ho
            exact I.base.free _ o h1 h2 (I.ok.noex _ _ ho)
          · obtain ⟨f, hf⟩ : ∃ f, f ∈ flOf k' := by
              cases e : flOf k' with
              | nil => exact absurd e hne
              | cons f _ => exact ⟨f, List.mem_cons_self ..⟩
            obtain ⟨ns, h1, h2, _⟩ := ei f hf
            exact (C.wd.exi h k' ns hk h1 h2).2.xf
          · obtain ⟨ns, h1, h2, h3⟩ := ei f hf
            exact (C.wd.exi h k' ns hk h1 h2).2.no _ (List.mem_map.mpr ⟨f, h3, rfl⟩)
          · subst hy
            simp only [Bool.and_eq_true, decide_eq_true_eq] at b5
            obtain ⟨c1, c2, c3⟩ := b5
            exact ⟨c1, .inl c2, (name_of c3).1, (name_of c3).2⟩
        have e1 : nmOf k = G.nm := funext fun i => (C.nmE i).symm
        rw [e1] at b4
        have su := fun (a : Addr) (oe : Obj) (cls : Value) (d : Option Addr) (pn : List (Addr × Obj)) (hz : Zc cls d oe) (hf : ∃ vs, oe.data = .fields vs) => w_suite (X := (gCx X Ng x sg g cdv s1 H1).nox) (a := a) (pn := pn) (cls := cls) (d := d) wic nd C.smb b4.2 hz hf
        cases nm with
        | none => exact .plain nms su rest
        | some n' =>
          simp only [Bool.and_eq_true, decide_eq_true_eq] at b5
          exact .named b5.1 b5.2.1 nms su rest
    · cases hb
theorem noPar_ok {p : Arguments} (h : noPar p = true) : p = ⟨[], [], none, [], [], none, []⟩ := by
  obtain ⟨a, b, c, d, e, f, g⟩ := p
  unfold noPar at h
  simp only [Bool.and_eq_true, List.isEmpty_iff, Option.isNone_iff_eq_none] at h
  obtain ⟨rfl, rfl, rfl, rfl, rfl, rfl, rfl⟩ := h
  rfl
/-- x(lambda: e) -/
theorem s_why (C : CnX k c G n X W) (ht : c.tbl = true) {w : Nat} {Wy : WhyI} {x : Str} {p lpos pos : Pos} {params : Arguments} {body : Expr} {scope : Scope} {m : ME} (hw : k.P.whys[w]? = some Wy) (hg : glB c.sc x = true) (hok : okName x = true) (hfn : fnAt k Wy.f x = true)
    (hp : noPar params = true) (hL : lamSB c.sc scope = true) (hm : ∀ (X' : Cx) (W' : WX), CnX k ⟨scope, c.N, false, false⟩ G n X' W' → PE X' body (tE X'.K k.P (run k.P n) G W' m)) :
    PE X (.Call (.Name x p) [.Lambda params body scope lpos] [] pos) (tE X.K k.P (run k.P n) G W (.why w m)) := by
  obtain ⟨x', a, pg, bg, sg, dV, kV, doc, pm, cdv, ct, oc, an, od, osl, N, lk, hcd, hb, Sg, oka, hex, hex0, hB, hx⟩ := (C.why w Wy hw).ex
  have := hx x hfn
  subst this
  obtain ⟨cc, Pt, hcode, TB, hmT, hu⟩ := C.tab ht
  have L : LamS X.env.scope scope := lamS_by (by rw [C.scp]; exact hL)
  have ep := noPar_ok hp
  subst ep
  obtain ⟨m1, m2⟩ := C.fnl Wy.f x hfn
  refine ⟨fun pins s σ H Q I ⟨B, ρ, v, S, sim, er, af⟩ => ?_⟩
  have af : Aft X.K G (fun c d => W c d σ) B ρ (match k.P.whys[w]? with
    | some W => (match ev k.P (run k.P n) m v S with
      | .ok _ S1 => .ok (elsD W.els) S1
      | .ex c fs S1 => ofO (whyD k.P S1 c fs W.hds) S1
      | .bad => .bad)
    | none => .bad) Q := af
  rw [hw] at af
  simp only at af
  refine lam_call (T := G.tb) (k := 4 * n + 3) I (gl_of C hg) m1 m2 (name_of hok).1 lk hcd hb Sg TB hcode hmT hu sim.tab (C.rm2 ht) L rfl (fun _ _ _ _ _ => rfl) fun f c' pm' ctv H1 s1 eN T1 Th hco hr' => ?_
  have sim1 := sim.past eN T1
  have hbody : ∀ (E : XK) (s2 : Shared) (H2 : Hp), Room (4 * n + 2) ((X.A.deeper (gEnv X x sg s1 (G.fn Wy.f) cdv)).deeper (lamEnv X scope s2.heap.objs.size f c')) →
      PE (lamCx X (X.A.deeper (gEnv X x sg s1 (G.fn Wy.f) cdv)) (gEnv X x sg s1 (G.fn Wy.f) cdv :: X.stack) s2 H2 E scope f c') body (tE X.K k.P (run k.P n) G (fun cls d _ H' => E cls d H') m) := fun E s2 H2 hr2 =>
    hm _ _ ⟨⟨C.wd, C.gw, C.fns, C.gd, hr2, rfl, C.nd, takes_of rfl rfl rfl rfl⟩, rfl, C.nms, (fun z => nomatch z), C.nmE, C.glb, C.bn, C.smb, C.fnl, C.cll, C.why, (fun z => nomatch z), (fun z => nomatch z)⟩
  have N0 : N[0]? = some a := by
    have := Sg.pre
    cases N with
    | nil => cases this
    | cons y r => simp at this; simp [this]
  have va : Vis sg a := by
    rcases Sg.par a (List.mem_cons_self ..) with h | h
    · exact .inl h
    · exact .inr (.inl h)
  have st0 : (L2.start N [V.ref f])[0]? = some (some (V.ref f)) := rfl
  have len0 : (L2.start N [V.ref f]).length = N.length := by
    have : 0 < N.length := (List.getElem?_eq_some_iff.mp N0).1
    unfold L2.start; simp; omega
  -- what the clauses come to
  have told : ∀ {c' : Nat} {fs : List (Nat × D)} {S1 : Sto} {E : XK} {D' : Ends} {fd : Option Nat} {hs : List ExceptHandler} {σ0 : L2.St} {B : Hp} {ρ : List Addr}, Aft X.K G E B ρ (ofO (whyD k.P S1 c' fs Wy.hds) S1) Q → hdsB k N sg Wy.ex fd Wy.hds hs = true → Wy.ex < σ0.length →
      (∀ v H', Q v H' → finR D' σ0 Wy.ex v H' fd) →
      ExC X.K G (fun cls d H' => wMix X.K (fun _ _ _ _ => False) D' (clL X.K G Wy.ex fd Wy.hds hs) cls d σ0 H') B ρ c' fs S1 := fun {c' fs S1 E D' fd hs σ0 B ρ} af hh hl fin => by
    unfold whyD at af
    split at af
    · rename_i hrs
      cases ht : hdsD S1 c' fs Wy.hds with
      | none => rw [ht] at af; exact af.elim
      | some t =>
        rw [ht] at af
        intro dd fv H' B' ρ' le s hd ef
        obtain ⟨k0, h1, h2⟩ : ∃ k0, k.P.cls[c']? = some k0 ∧ k0.rs = true := by
          cases hc : k.P.cls[c']? with
          | none => rw [hc] at hrs; cases hrs
          | some k0 => rw [hc] at hrs; exact ⟨k0, rfl, hrs⟩
        exact mix_ok (k := k) (fun h k' h3 h4 => C.wd.exm c' h k0 k' h1 h2 h3 h4) s hd ef hl (Post.up (show Post X.K G B ρ S1 t Q from af) le) fin hh ht
    · exact af.elim
  have call := fun (W' : WX) (pn : List (Addr × Obj)) (xe : Value → Shared → Prop) (tk : Takes ((gCx X N x sg (G.fn Wy.f) cdv s1 H1).tr pn xe) W') (p1 p2 : Pos) =>
    pe_thunk (Ng := N) (x := x) (a := a) (sg := sg) (g := G.fn Wy.f) (cdg := cdv) (i := 0) (p1 := p1) (p2 := p2) (k := 4 * n + 2) Th tk hr' hbody N0 va (name_of oka).1 (name_of oka).2
  unfold whyB at hB
  split at hB
  · rename_i a' q1 q2 q3 h0 hds q4 q5 q6 q7
    simp only [Bool.and_eq_true, decide_eq_true_eq, Option.isNone_iff_eq_none] at hB
    obtain ⟨e1, e2, e3, hh⟩ := hB
    subst e3
    rw [e1] at hh
    refine ⟨_, pss_cons (ps_try_mix (X := (gCx X N x sg (G.fn Wy.f) cdv s1 H1).nox) Sg.nd rfl rfl LamX.takes0 (fun W' pn xe tk _ => pss_one (ps_expr (call W' pn xe tk _ _) (by rfl))) (hdsx_ok C Sg.nd hr' hh)) (pss_one (ps_ret pe_non)), ?_⟩
    refine ⟨st0, hco, fun cls d H' => wMix X.K (fun _ _ _ _ => False) _ (clL X.K G Wy.ex none Wy.hds (h0 :: hds)) cls d (L2.start N [V.ref f]) H', fun cls d H' z => z, B, ρ, v, S, sim1, er, ?_⟩
    cases e : ev k.P (run k.P n) m v S with
    | ok d S1 =>
      rw [e] at af
      have af : Post X.K G B ρ S1 (elsD Wy.els) Q := af
      rw [e2] at af
      exact fun u H' B' ρ' le s r => af .non H' B' ρ' le s .non
    | ex c' fs S1 =>
      rw [e] at af
      exact told af hh (by rw [len0]; exact hex) fun v H' z => z
    | bad => rw [e] at af; exact af
  · rename_i y q1 tx q2 q3 q4 q5 q6 a' q7 q8 q9 h0 hds q10 y' q11 q12
    split at hB
    · rename_i j tx' e1 e2
      simp only [Bool.and_eq_true, decide_eq_true_eq] at hB
      obtain ⟨b1, b2, b3, b4, b5, b6, b7, b8, hh⟩ := hB
      subst b1 b4 b5
      rw [e1] at hh
      have jl : j < N.length := (List.getElem?_eq_some_iff.mp b2).1
      refine ⟨_, pss_cons (ps_set (X := (gCx X N x sg (G.fn Wy.f) cdv s1 H1).nox) Sg.nd b2 (.inl b3) (pe_tup (pa_cons pe_str pa_nil)) (by rfl) (.inr b3))
        (pss_cons (ps_try_mix (X := (gCx X N x sg (G.fn Wy.f) cdv s1 H1).nox) Sg.nd rfl rfl LamX.takes0 (fun W' pn xe tk _ => pss_one (ps_expr (call W' pn xe tk _ _) (by rfl))) (hdsx_ok C Sg.nd hr' hh)) (pss_one (ps_ret (pe_var (i := j) b2 (.inl b3) (name_of b6).1 (name_of b6).2)))), ?_⟩
      refine ⟨by simp [sizeLine_eq], fun q hq => ?_⟩
      obtain ⟨sim2, le2⟩ := sim1.lay (o := .tup [.str tx]) hq
      have lj : j < (L2.start N [V.ref f]).length := by rw [len0]; exact jl
      refine ⟨by rw [List.getElem?_set_ne b8]; exact st0, (upd_ne (ne_of_none hco hq)).trans hco, fun cls d H' => wMix X.K (fun _ _ _ _ => False) _ (clL X.K G Wy.ex (some j) Wy.hds (h0 :: hds)) cls d ((L2.start N [V.ref f]).set j (some (V.ref q))) H', fun cls d H' z => z, _, ρ, v, S, sim2, er.up le2, ?_⟩
      cases e : ev k.P (run k.P n) m v S with
      | ok d S1 =>
        rw [e] at af
        have af : Post X.K G B ρ S1 (elsD Wy.els) Q := af
        rw [e2] at af
        exact fun u H' B' ρ' le s r => ⟨.ref q, by rw [List.getElem?_set_self lj], af (.ref q) H' B' ρ' (le2.trans le) s (.tup (.inl (le.sub _ _ upd_same)) (.cons (.str _) .nil))⟩
      | ex c' fs S1 =>
        rw [e] at af
        refine told (Aft.up (show Aft X.K G _ B ρ (ofO (whyD k.P S1 c' fs Wy.hds) S1) Q from af) le2) hh (by rw [List.length_set, len0]; exact hex) fun v H' z => ⟨⟨v, ?_, z⟩, fun x => ⟨v, ?_, z⟩⟩
        · rw [List.getElem?_set_self (by rw [List.length_set]; exact lj)]
        · rw [List.getElem?_set_ne (Ne.symm b7), List.getElem?_set_self (by rw [List.length_set, List.length_set]; exact lj)]
      | bad => rw [e] at af; exact af
    · cases hB
  · cases hB
end
end Mi
end
section
set_option autoImplicit false
set_option linter.all false
set_option maxRecDepth 100000
set_option maxHeartbeats 4000000
/-! Mi25: the check is sound for expressions, the theorem -/
namespace Mi
open PySem PySem.Spec PyProof.Rows L2

/-- a term of Mini tells this expression -/
def EOk (k : Ck) (m : ME) : Prop := ∀ (c : Cs) (e : Expr) (G : Ga) (n : Nat) (X : Cx) (W : WX), CnX k c G n X W → chkE k m c e = true → PE X e (tE X.K k.P (run k.P n) G W m)
def AOk (k : Ck) (m : ME) : Prop := ∀ (c : Cs) (e : Expr) (G : Ga) (n : Nat) (X : Cx) (W : WX), CnX k c G n X W → chkA k m c e = true → PE X e (tE X.K k.P (run k.P n) G W (.alc m))
def LOk (k : Ck) (ms : List ME) : Prop := ∀ (c : Cs) (es : List Expr) (G : Ga) (n : Nat) (X : Cx) (W : WX), CnX k c G n X W → chkL k ms c es = true → PA X es (tL X.K k.P (run k.P n) G W ms)
def QOk (k : Ck) (q : MQ) : Prop := ∀ (c : Cs) (e : Expr) (G : Ga) (n : Nat) (X : Cx) (W : WX), CnX k c G n X W → chkQ k q c e = true → PT X e (tQ X.K k.P (run k.P n) G W q)
def COk (k : Ck) (q : Option MQ) : Prop := ∀ (c : Cs) (es : List Expr) (G : Ga) (n : Nat) (X : Cx) (W : WX), CnX k c G n X W → chkC k q c es = true → PTs X es (tC X.K k.P (run k.P n) G q)
def IOk (k : Ck) (m : MI) : Prop := ∀ (c : Cs) (t e : Expr) (G : Ga) (n : Nat) (X : Cx) (W : WX), CnX k c G n X W → chkI k m c t e = true → PI X t e (tI X.K k.P (run k.P n) G W m)
def POk (k : Ck) (m : Option ME) : Prop := ∀ (c : Cs) (e : Option Expr) (G : Ga) (n : Nat) (X : Cx) (W : WX), CnX k c G n X W → chkP k m c e = true → PO X e (tP X.K k.P (run k.P n) G W m)
section
variable {k : Ck} {c : Cs} {G : Ga} {n : Nat} {X : Cx} {W : WX}
/-- the parts of a comprehension -/
theorem lc_parts {m : ME} {t : MT} {it : MI} {q : Option MQ} {ws : List Nat} {elt tg iter : Expr} {ifs : List Expr} {scope : Scope} (C : CnX k c G n X W) (hm : EOk k m) (hI : IOk k it) (hq : COk k q)
    (h : (blkC c.N c.sc scope (ownOf c ws) && (inSlots (slots t) ws && (notSet iter && (chkI k it c tg iter && (chkT (c.blk scope) t tg && (chkC k q (c.blk scope) ifs && chkE k m (c.blk scope) elt)))))) = true) :
    PI X tg iter (tI X.K k.P (run k.P n) G W it) ∧ BlkOk X.N X.env.scope scope (ownOf c ws) ∧ (∀ i ∈ slots t, i ∈ (ownOf c ws).map (·.2)) ∧
    (∀ (s : Shared) (H : Hp) (C : Addr) (cl : List (Str × Addr)) (fp : List Addr), PG (X.blk s H scope (compEnvC scope cl C X.env) fp) tg (tG X.K G t)) ∧
    (∀ (s : Shared) (H : Hp) (C : Addr) (cl : List (Str × Addr)) (fp : List Addr), PTs (X.blk s H scope (compEnvC scope cl C X.env) fp) ifs (tC X.K k.P (run k.P n) G q)) ∧
    (∀ (s : Shared) (H : Hp) (C : Addr) (cl : List (Str × Addr)) (fp : List Addr), PE (X.blk s H scope (compEnvC scope cl C X.env) fp) elt (tEx X.K k.P (run k.P n) G m)) ∧ (∀ x, foldedSetIterable iter X.env x = pure x) := by
  simp only [Bool.and_eq_true] at h
  obtain ⟨h1, h2, h3, h4, h5, h6, h7⟩ := h
  refine ⟨hI c tg iter G n X W C h4, ?_, ?_, fun s H Cc cl fp => chkT_ok (C.blk s H Cc cl fp) t tg h5, fun s H Cc cl fp => hq _ ifs G n _ WF (C.blk s H Cc cl fp) h6, fun s H Cc cl fp => ex_e fun φ => hm _ elt (G.put φ) n _ WF ((C.blk s H Cc cl fp).put φ) h7, fold_ok h3⟩
  · rw [C.nms, C.scp]; exact blkOk_by h1
  · rw [own_map]; exact slots_in h2
theorem lc2_parts {m : ME} {t t1 : MT} {it it1 : MI} {q q1 : Option MQ} {ws ws1 : List Nat} {elt tg iter tg1 iter1 : Expr} {ifs ifs1 : List Expr} {scope : Scope} (C : CnX k c G n X W) (hm : EOk k m) (hI : IOk k it) (hq : COk k q) (hI1 : IOk k it1) (hq1 : COk k q1)
    (h : (blkC c.N c.sc scope (ownOf c ws) && (inSlots (slots t) ws && (inSlots (slots t1) ws1 && (inSlots ws1 ws && (notSet iter && (notSet iter1 && (chkI k it c tg iter &&
        (chkT (c.blk scope) t tg && (chkC k q (c.blk scope) ifs && (chkI k it1 (c.blk scope) tg1 iter1 &&
        (chkT (c.blk scope) t1 tg1 && (chkC k q1 (c.blk scope) ifs1 && chkE k m (c.blk scope) elt)))))))))))) = true) :
    (PI X tg iter (tI X.K k.P (run k.P n) G W it) ∧ BlkOk X.N X.env.scope scope (ownOf c ws) ∧ (∀ i ∈ ws1, i ∈ (ownOf c ws).map (·.2)) ∧ (∀ i ∈ slots t, i ∈ (ownOf c ws).map (·.2)) ∧ (∀ i ∈ slots t1, i ∈ ws1)) ∧
    (∀ (s : Shared) (H : Hp) (C : Addr) (cl : List (Str × Addr)) (fp : List Addr), PG (X.blk s H scope (compEnvC scope cl C X.env) fp) tg (tG X.K G t)) ∧
    (∀ (s : Shared) (H : Hp) (C : Addr) (cl : List (Str × Addr)) (fp : List Addr), PTs (X.blk s H scope (compEnvC scope cl C X.env) fp) ifs (tC X.K k.P (run k.P n) G q)) ∧
    (∀ (s : Shared) (H : Hp) (C : Addr) (cl : List (Str × Addr)) (fp : List Addr), PI (X.blk s H scope (compEnvC scope cl C X.env) fp) tg1 iter1 (tIx X.K k.P (run k.P n) G it1)) ∧
    (∀ (s : Shared) (H : Hp) (C : Addr) (cl : List (Str × Addr)) (fp : List Addr), PG (X.blk s H scope (compEnvC scope cl C X.env) fp) tg1 (tG X.K G t1)) ∧
    (∀ (s : Shared) (H : Hp) (C : Addr) (cl : List (Str × Addr)) (fp : List Addr), PTs (X.blk s H scope (compEnvC scope cl C X.env) fp) ifs1 (tC X.K k.P (run k.P n) G q1)) ∧
    (∀ (s : Shared) (H : Hp) (C : Addr) (cl : List (Str × Addr)) (fp : List Addr), PE (X.blk s H scope (compEnvC scope cl C X.env) fp) elt (tEx X.K k.P (run k.P n) G m)) ∧ (∀ x, foldedSetIterable iter X.env x = pure x) ∧ (∀ env x, foldedSetIterable iter1 env x = pure x) := by
  simp only [Bool.and_eq_true] at h
  obtain ⟨h1, h2, h2', h2'', h3, h3', h4, h5, h6, h4', h5', h6', h7⟩ := h
  refine ⟨⟨hI c tg iter G n X W C h4, ?_, ?_, ?_, slots_in h2'⟩, fun s H Cc cl fp => chkT_ok (C.blk s H Cc cl fp) t tg h5, fun s H Cc cl fp => hq _ ifs G n _ WF (C.blk s H Cc cl fp) h6,
    fun s H Cc cl fp => ex_i fun φ => hI1 _ tg1 iter1 (G.put φ) n _ WF ((C.blk s H Cc cl fp).put φ) h4', fun s H Cc cl fp => chkT_ok (C.blk s H Cc cl fp) t1 tg1 h5', fun s H Cc cl fp => hq1 _ ifs1 G n _ WF (C.blk s H Cc cl fp) h6',
    fun s H Cc cl fp => ex_e fun φ => hm _ elt (G.put φ) n _ WF ((C.blk s H Cc cl fp).put φ) h7, fold_ok h3, fun env => fold_ok h3'⟩
  · rw [C.nms, C.scp]; exact blkOk_by h1
  · rw [own_map]; exact slots_in h2''
  · rw [own_map]; exact slots_in h2
end
theorem chkA_cmp {k : Ck} {c : Cs} {x : Expr} {ops : List CmpOp} {ys : List Expr} {p : Pos} (m : ME) : chkA k m c (.Compare x ops ys p) = false := by
  cases m <;> (unfold chkA; rfl)
theorem qv_gen {k : Ck} {m : ME} (he : EOk k m) (hne : ∀ c x ops ys p, chkE k m c (.Compare x ops ys p) = false) : QOk k (.v m) := fun c e G n X W C h => by
  unfold chkQ at h
  split at h
  · rw [hne] at h; simp at h
  · rw [hne] at h; simp at h
  · simp only [Bool.and_eq_true] at h
    exact q_v (he c _ G n X W C h.2) (val_ok h.1)
mutual
theorem chkE_ok (k : Ck) : ∀ (m : ME), EOk k m
  | .cst d => fun c e G n X W C h => s_cst C (by unfold chkE at h; exact h)
  | .var i => fun c e G n X W C h => by
    unfold chkE at h
    split at h
    · simp only [Bool.and_eq_true, decide_eq_true_eq] at h
      exact s_var (nx_of C h.1) (vis_of C h.2.1) (name_of h.2.2).1 (name_of h.2.2).2
    · cases h
  | .glb g => fun c e G n X W C h => by
    unfold chkE at h
    split at h
    · simp only [Bool.and_eq_true] at h
      obtain ⟨h1, h2, h3, h4⟩ := h
      unfold glAt at h1
      obtain ⟨d, hd⟩ := Option.isSome_iff_exists.mp h4
      obtain ⟨u, v, e1, e2, e3⟩ := C.glb g d _ hd (of_decide_eq_true h1)
      exact s_glb (gl_of C h2) (name_of h3).1 hd e1 e2 e3
    · cases h
  | .bin o a b => fun c e G n X W C h => by
    unfold chkE at h
    split at h
    · simp only [Bool.and_eq_true, decide_eq_true_eq] at h
      obtain ⟨rfl, h1, h2⟩ := h
      exact s_bin (chkE_ok k a c _ G n X W C h1) (chkE_ok k b c _ G n X W C h2)
    · cases h
  | .neg a => fun c e G n X W C h => by
    unfold chkE at h
    split at h
    · exact s_neg (chkE_ok k a c _ G n X W C h)
    · cases h
  | .cmp o a b => fun c e G n X W C h => by
    unfold chkE at h
    split at h
    · simp only [Bool.and_eq_true, decide_eq_true_eq] at h
      obtain ⟨rfl, h0, h1, h2⟩ := h
      exact s_cmp C.gw C.hu (chkE_ok k a c _ G n X W C h1) (chkE_ok k b c _ G n X W C h2) (marks_no h0)
    · cases h
  | .chn o o' a b d => fun c e G n X W C h => by
    unfold chkE at h
    split at h
    · simp only [Bool.and_eq_true, decide_eq_true_eq] at h
      obtain ⟨rfl, rfl, h0, h1, h2, h3⟩ := h
      exact s_chn C.gw C.hu (chkE_ok k a c _ G n X W C h1) (chkE_ok k b c _ G n X W C h2) (chkE_ok k d c _ G n X W C h3) (marks2_no h0)
    · cases h
  | .and ms => fun c e G n X W C h => by
    unfold chkE at h
    split at h
    · exact s_and (chkN_and k ms c _ G n X W C h _)
    · cases h
  | .or ms => fun c e G n X W C h => by
    unfold chkE at h
    split at h
    · exact s_or (chkN_or k ms c _ G n X W C h _)
    · cases h
  | .not (.v m) => fun c e G n X W C h => by
    unfold chkE at h
    split at h
    · unfold chkV at h
      exact s_not (chkE_ok k m c _ G n X W C h)
    · cases h
  | .not (.and _) => fun c e G n X W C h => by
    unfold chkE at h
    split at h
    · unfold chkV at h; cases h
    · cases h
  | .not (.or _) => fun c e G n X W C h => by
    unfold chkE at h
    split at h
    · unfold chkV at h; cases h
    · cases h
  | .not (.not _) => fun c e G n X W C h => by
    unfold chkE at h
    split at h
    · unfold chkV at h; cases h
    · cases h
  | .not (.ite _ _ _) => fun c e G n X W C h => by
    unfold chkE at h
    split at h
    · unfold chkV at h; cases h
    · cases h
  | .ite q a b => fun c e G n X W C h => by
    unfold chkE at h
    split at h
    · simp only [Bool.and_eq_true] at h
      exact s_ite (chkQ_ok k q c _ G n X W C h.1) (chkE_ok k a c _ G n X W C h.2.1) (chkE_ok k b c _ G n X W C h.2.2)
    · cases h
  | .tup ms => fun c e G n X W C h => by
    unfold chkE at h
    split at h
    · exact s_tup (chkL_ok k ms c _ G n X W C h)
    · cases h
  | .lst ms => fun c e G n X W C h => by
    unfold chkE at h
    split at h
    · exact s_lst (chkL_ok k ms c _ G n X W C h)
    · cases h
  | .dct ks ms => fun c e G n X W C h => by
    unfold chkE at h
    split at h
    · rename_i pos
      simp only [Bool.and_eq_true, decide_eq_true_eq, Bool.not_eq_true', List.isEmpty_eq_false_iff] at h
      obtain ⟨h1, h2, h3, h4⟩ := h
      obtain ⟨l1, l2, l3, l4⟩ := chkK_len ms ks c _ _ h1
      have r := s_dct (G := G) (W := W) (chkK_ok k ms ks c _ _ G n X W C pos h1) l4 (l1.trans l2.symm) h4 h2 (kms := ks.zip ms) (by rw [List.length_zip]; omega)
      rw [zip_fst h3, zip_snd h3] at r
      exact r
    · cases h
  | .idx a b => fun c e G n X W C h => by
    unfold chkE at h
    split at h
    · simp only [Bool.and_eq_true] at h
      exact s_idx C.gw C.hu (chkE_ok k a c _ G n X W C h.2.1) (chkE_ok k b c _ G n X W C h.2.2) (sub_ok h.1)
    · cases h
  | .slc a lo hi => fun c e G n X W C h => by
    unfold chkE at h
    split at h
    · simp only [Bool.and_eq_true] at h
      exact s_slc (chkE_ok k a c _ G n X W C h.1) (chkP_ok k lo c _ G n X W C h.2.1) (chkP_ok k hi c _ G n X W C h.2.2)
    · cases h
  | .att a f => fun c e G n X W C h => by
    unfold chkE at h
    split at h
    · simp only [Bool.and_eq_true, decide_eq_true_eq] at h
      obtain ⟨h1, rfl, h3⟩ := h
      rw [← C.nmE]
      exact s_att C.wd (chkE_ok k a c _ G n X W C h3) (base_ok h1)
    · cases h
  | .call f ms => fun c e G n X W C h => by
    unfold chkE at h
    split at h
    · simp only [Bool.and_eq_true] at h
      obtain ⟨h1, h2, h3, h4⟩ := h
      obtain ⟨e1, e2⟩ := C.fnl f _ h3
      have hs := chkL_star ms c _ h4
      have hl := chkL_len ms c _ h4
      have ha := chkL_ok k ms c _ G n X W C h4
      rename_i x p es pos
      cases es with
      | nil =>
        cases ms with
        | nil => exact s_call0 C.toCn (gl_of C h1) e1 e2 (name_of h2).1
        | cons m ms => cases hl
      | cons a es =>
        simp only [List.all_cons, Bool.and_eq_true] at hs
        exact s_call C.toCn (gl_of C h1) e1 e2 (name_of h2).1 ha (star1 hs.1) (stars_any hs.2)
    · cases h
  | .mk fz cl ms => fun c e G n X W C h => by
    unfold chkE at h
    split at h
    · simp only [Bool.and_eq_true] at h
      obtain ⟨h1, h2, h3, h5, h4⟩ := h
      have e1 := C.cll cl _ h3
      have hs := chkL_star ms c _ h4
      simp only [List.all_cons, Bool.and_eq_true] at hs
      unfold mkOk at h5
      split at h5
      · rename_i i hi
        simp only [Bool.and_eq_true, Option.isNone_iff_eq_none] at h5
        obtain ⟨f, hf⟩ := Option.isSome_iff_exists.mp h5.2
        exact s_mk C.toCn (gl_of C h1) e1 hi h5.1 hf (name_of h2).1 (chkL_ok k ms c _ G n X W C h4) (star1 hs.1) (stars_any hs.2)
      · cases h5
    · cases h
  | .mth m o ms => fun c e G n X W C h => by
    unfold chkE at h
    split at h
    · simp only [Bool.and_eq_true, decide_eq_true_eq] at h
      obtain ⟨h1, rfl, h2, h3, h4, h5⟩ := h
      have hs := chkL_star ms c _ h5
      have hl := chkL_len ms c _ h5
      have ha := chkL_ok k ms c _ G n X W C h5
      have ho := chkE_ok k o c _ G n X W C h4
      rw [← C.nmE]
      rename_i x p es pos
      cases es with
      | nil =>
        cases ms with
        | nil => exact s_mth0 C.toCn ho (mth_form h1 rfl h2 h3)
        | cons m ms => cases hl
      | cons a es =>
        have hs' := hs
        simp only [List.all_cons, Bool.and_eq_true] at hs'
        exact s_mth C.toCn ho ha (star1 hs'.1) (stars_any hs'.2) (mth_form h1 hs h2 h3)
    · cases h
  | .blt b ms => fun c e G n X W C h => by
    unfold chkE at h
    split at h
    · simp only [Bool.and_eq_true, decide_eq_true_eq] at h
      obtain ⟨h1, rfl, h2⟩ := h
      have hs := chkL_star ms c _ h2
      simp only [List.all_cons, Bool.and_eq_true] at hs
      exact s_blt C.gw C.calm C.gd C.hu (fun I => C.sm I) (gl_of C h1) (C.bn _ (blt_in b)) (chkL_ok k ms c _ G n X W C h2) (star1 hs.1) (stars_any hs.2)
    · cases h
  | .isc ms => fun c e G n X W C h => by
    unfold chkE at h
    split at h
    · simp only [Bool.and_eq_true, decide_eq_true_eq] at h
      obtain ⟨h1, rfl, h2⟩ := h
      have hs := chkL_star ms c _ h2
      simp only [List.all_cons, Bool.and_eq_true] at hs
      exact s_isc C.toCn (gl_of C h1) (C.bn _ (blt_in .isinst)) (chkL_ok k ms c _ G n X W C h2) (star1 hs.1) (stars_any hs.2)
    · cases h
  | .bmt m o ms => fun c e G n X W C h => by
    unfold chkE at h
    split at h
    · simp only [Bool.and_eq_true, decide_eq_true_eq] at h
      obtain ⟨h1, rfl, h2, h3, h4, h5⟩ := h
      have hs := chkL_star ms c _ h5
      have hl := chkL_len ms c _ h5
      have ha := chkL_ok k ms c _ G n X W C h5
      have ho := chkE_ok k o c _ G n X W C h4
      rename_i x p es pos
      cases es with
      | nil =>
        cases ms with
        | nil => exact s_bmt0 C.gw C.hu ho (base_ok h1) h3
        | cons m ms => cases hl
      | cons a es =>
        have hs' := hs
        simp only [List.all_cons, Bool.and_eq_true] at hs'
        exact s_bmt C.gw C.hu ho ha (base_ok h1) (few_ok hs h2) h3 (star1 hs'.1) (stars_any hs'.2)
    · cases h
  | .lc m t it q ws => fun c e G n X W C h => by
    unfold chkE at h
    split at h
    · rename_i pos
      obtain ⟨p1, p2, p3, p4, p5, p6, p7⟩ := lc_parts C (chkE_ok k m) (chkI_ok k it) (chkC_ok k q) h
      have r := s_lc (pos := pos) C.calm C.nd p1 p2 p3 p4 p5 p6 p7
      rw [own_map] at r
      exact r
    · cases h
  | .lc2 m t it q t1 it1 q1 ws ws1 => fun c e G n X W C h => by
    unfold chkE at h
    split at h
    · rename_i pos
      obtain ⟨⟨p1, p2, p3, p3', p3''⟩, p4, p5, p6, p7, p8, p9, p10, p11⟩ := lc2_parts C (chkE_ok k m) (chkI_ok k it) (chkC_ok k q) (chkI_ok k it1) (chkC_ok k q1) h
      have r := s_lc2 (pos := pos) C.calm C.nd p1 p2 p3 p3' p3'' p4 p5 p6 p7 p8 p9 p10 p11
      rw [own_map] at r
      exact r
    · cases h
  | .alc m => fun c e G n X W C h => chkA_ok k m c e G n X W C (by unfold chkE at h; exact h)
  | .cal i ms => fun c e G n X W C h => by
    unfold chkE at h
    split at h
    · simp only [Bool.and_eq_true, decide_eq_true_eq] at h
      obtain ⟨h1, h2, h3, h4⟩ := h
      have hs := chkL_star ms c _ h4
      simp only [List.all_cons, Bool.and_eq_true] at hs
      exact s_cal C.toCn (nx_of C h1) (vis_of C h2) (name_of h3).1 (name_of h3).2 (chkL_ok k ms c _ G n X W C h4) (star1 hs.1) (stars_any hs.2)
    · cases h
  | .rev a => fun c e G n X W C h => by
    unfold chkE at h
    split at h
    · exact s_rev (chkE_ok k a c _ G n X W C h)
    · cases h
  | .eqo m a b => fun c e G n X W C h => by
    unfold chkE at h
    split at h
    · simp only [Bool.and_eq_true, decide_eq_true_eq] at h
      obtain ⟨hn, h0, h1, h2⟩ := h
      exact s_eqo C.toCn ((C.nmE m).trans hn) (chkE_ok k a c _ G n X W C h1) (chkE_ok k b c _ G n X W C h2) (marks_no h0)
    · cases h
  | .dnw => fun c e G n X W C h => by
    unfold chkE at h
    split at h
    · exact s_dnw C.gw
    · cases h
  | .thw i m => fun c e G n X W C h => by
    unfold chkE at h
    split at h
    · exact s_thw C.gw (ex_e fun φ => chkE_ok k m c _ (G.put φ) n X WF (C.wf.put φ) h)
    · cases h
  | .why w m => fun c e G n X W C h => by
    unfold chkE at h
    split at h
    · simp only [Bool.and_eq_true] at h
      obtain ⟨h1, h2, h3, h4, h5, h6, h7⟩ := h
      cases hw : k.P.whys[w]? with
      | none => rw [hw] at h4; cases h4
      | some Wy =>
        rw [hw] at h4
        exact s_why C h1 hw h2 h3 h4 h5 h6 fun X' W' C' => chkE_ok k m _ _ G n X' W' C' h7
    · cases h
theorem chkA_ok (k : Ck) : ∀ (m : ME), AOk k m
  | .lst ms => fun c e G n X W C h => by
    unfold chkA at h
    split at h
    · exact a_lst (chkL_ok k ms c _ G n X W C h)
    · cases h
  | .dct ks ms => fun c e G n X W C h => by
    unfold chkA at h
    split at h
    · rename_i pos
      simp only [Bool.or_eq_true, Bool.and_eq_true, decide_eq_true_eq, Bool.not_eq_true', List.isEmpty_eq_false_iff, List.isEmpty_iff] at h
      rcases h with ⟨rfl, rfl, rfl, rfl⟩ | h
      · exact a_dct0
      · obtain ⟨h1, h2, h3, h4⟩ := h
        obtain ⟨l1, l2, l3, l4⟩ := chkK_len ms ks c _ _ h1
        have r := a_dct (G := G) (W := W) (chkK_ok k ms ks c _ _ G n X W C pos h1) l4 (l1.trans l2.symm) h4 h2 (kms := ks.zip ms) (by rw [List.length_zip]; omega)
        rw [zip_fst h3, zip_snd h3] at r
        exact r
    · cases h
  | .bin o a b => fun c e G n X W C h => by
    unfold chkA at h
    split at h
    · simp only [Bool.and_eq_true, decide_eq_true_eq] at h
      obtain ⟨rfl, rfl, h1, h2⟩ := h
      exact a_mul (chkE_ok k a c _ G n X W C h1) (chkE_ok k b c _ G n X W C h2)
    · cases h
  | .blt b ms => fun c e G n X W C h => by
    unfold chkA at h
    split at h
    · simp only [Bool.and_eq_true, decide_eq_true_eq] at h
      obtain ⟨h1, rfl, rfl, h2, h3⟩ := h
      have hs := chkL_star ms c _ h3
      simp only [List.all_cons, Bool.and_eq_true] at hs
      have ha := chkL_ok k ms c _ G n X W C h3
      match ms, h2 with
      | [m], _ => exact a_list C.gw C.calm (gl_of C h1) (C.bn _ (blt_in .list)) ha (star1 hs.1) (stars_any hs.2)
    · cases h
  | .lc m t it q ws => fun c e G n X W C h => by
    unfold chkA at h
    split at h
    · rename_i pos
      obtain ⟨p1, p2, p3, p4, p5, p6, p7⟩ := lc_parts C (chkE_ok k m) (chkI_ok k it) (chkC_ok k q) h
      have r := a_lc (pos := pos) C.calm C.nd p1 p2 p3 p4 p5 p6 p7
      rw [own_map] at r
      exact r
    · cases h
  | .lc2 m t it q t1 it1 q1 ws ws1 => fun c e G n X W C h => by
    unfold chkA at h
    split at h
    · rename_i pos
      obtain ⟨⟨p1, p2, p3, p3', p3''⟩, p4, p5, p6, p7, p8, p9, p10, p11⟩ := lc2_parts C (chkE_ok k m) (chkI_ok k it) (chkC_ok k q) (chkI_ok k it1) (chkC_ok k q1) h
      have r := a_lc2 (pos := pos) C.calm C.nd p1 p2 p3 p3' p3'' p4 p5 p6 p7 p8 p9 p10 p11
      rw [own_map] at r
      exact r
    · cases h
  | .cst _ => fun c e G n X W C h => by unfold chkA at h; cases h
  | .var _ => fun c e G n X W C h => by unfold chkA at h; cases h
  | .glb _ => fun c e G n X W C h => by unfold chkA at h; cases h
  | .neg _ => fun c e G n X W C h => by unfold chkA at h; cases h
  | .cmp _ _ _ => fun c e G n X W C h => by unfold chkA at h; cases h
  | .chn _ _ _ _ _ => fun c e G n X W C h => by unfold chkA at h; cases h
  | .and _ => fun c e G n X W C h => by unfold chkA at h; cases h
  | .or _ => fun c e G n X W C h => by unfold chkA at h; cases h
  | .not _ => fun c e G n X W C h => by unfold chkA at h; cases h
  | .ite _ _ _ => fun c e G n X W C h => by unfold chkA at h; cases h
  | .tup _ => fun c e G n X W C h => by unfold chkA at h; cases h
  | .idx _ _ => fun c e G n X W C h => by unfold chkA at h; cases h
  | .slc _ _ _ => fun c e G n X W C h => by unfold chkA at h; cases h
  | .att _ _ => fun c e G n X W C h => by unfold chkA at h; cases h
  | .call _ _ => fun c e G n X W C h => by unfold chkA at h; cases h
  | .mk _ _ _ => fun c e G n X W C h => by unfold chkA at h; cases h
  | .mth _ _ _ => fun c e G n X W C h => by unfold chkA at h; cases h
  | .bmt _ _ _ => fun c e G n X W C h => by unfold chkA at h; cases h
  | .isc _ => fun c e G n X W C h => by unfold chkA at h; cases h
  | .alc _ => fun c e G n X W C h => by unfold chkA at h; cases h
  | .cal _ _ => fun c e G n X W C h => by unfold chkA at h; cases h
  | .why _ _ => fun c e G n X W C h => by unfold chkA at h; cases h
  | .dnw => fun c e G n X W C h => by unfold chkA at h; cases h
  | .eqo _ _ _ => fun c e G n X W C h => by unfold chkA at h; cases h
  | .rev _ => fun c e G n X W C h => by unfold chkA at h; cases h
  | .thw _ _ => fun c e G n X W C h => by unfold chkA at h; cases h
theorem chkL_ok (k : Ck) : ∀ (ms : List ME), LOk k ms
  | [] => fun c es G n X W C h => by
    unfold chkL at h
    cases es with
    | nil => exact l_nil
    | cons e es => cases h
  | m :: ms => fun c es G n X W C h => by
    unfold chkL at h
    cases es with
    | nil => cases h
    | cons e es =>
      simp only [Bool.and_eq_true] at h
      exact l_cons (chkE_ok k m c e G n X W C h.2.1) (chkL_ok k ms c es G n X W C h.2.2) (star1 h.1)
theorem chkN_and (k : Ck) : ∀ (ms : List ME) (c : Cs) (es : List Expr) (G : Ga) (n : Nat) (X : Cx) (W : WX), CnX k c G n X W → chkN k ms c es = true → ∀ (pos : Pos), PE X (.BoolOp .And es pos) (tEA X.K k.P (run k.P n) G W ms)
  | [], c, es, G, n, X, W, C, h, pos => by unfold chkN at h; cases h
  | m :: ms, c, es, G, n, X, W, C, h, pos => by
    unfold chkN at h
    cases es with
    | nil => cases h
    | cons e es =>
      simp only [Bool.and_eq_true, Bool.or_eq_true, List.isEmpty_iff] at h
      obtain ⟨h1, h2⟩ := h
      have he := chkE_ok k m c e G n X W C h1
      rcases h2 with ⟨rfl, rfl⟩ | h2
      · exact s_and1 he
      · have hr := chkN_and k ms c es G n X W C h2 pos
        cases ms with
        | nil => unfold chkN at h2; cases h2
        | cons m2 ms =>
          cases es with
          | nil => unfold chkN at h2; cases h2
          | cons e2 es => exact s_and2 he hr
theorem chkN_or (k : Ck) : ∀ (ms : List ME) (c : Cs) (es : List Expr) (G : Ga) (n : Nat) (X : Cx) (W : WX), CnX k c G n X W → chkN k ms c es = true → ∀ (pos : Pos), PE X (.BoolOp .Or es pos) (tEO X.K k.P (run k.P n) G W ms)
  | [], c, es, G, n, X, W, C, h, pos => by unfold chkN at h; cases h
  | m :: ms, c, es, G, n, X, W, C, h, pos => by
    unfold chkN at h
    cases es with
    | nil => cases h
    | cons e es =>
      simp only [Bool.and_eq_true, Bool.or_eq_true, List.isEmpty_iff] at h
      obtain ⟨h1, h2⟩ := h
      have he := chkE_ok k m c e G n X W C h1
      rcases h2 with ⟨rfl, rfl⟩ | h2
      · exact s_or1 he
      · have hr := chkN_or k ms c es G n X W C h2 pos
        cases ms with
        | nil => unfold chkN at h2; cases h2
        | cons m2 ms =>
          cases es with
          | nil => unfold chkN at h2; cases h2
          | cons e2 es => exact s_or2 he hr
theorem chkK_ok (k : Ck) : ∀ (ms : List ME) (ks : List Key) (c : Cs) (keys : List (Option Expr)) (values : List Expr) (G : Ga) (n : Nat) (X : Cx) (W : WX), CnX k c G n X W → ∀ (pos : Pos), chkK k ks ms c keys values = true → PPs X pos keys values (tKs X.K k.P (run k.P n) G (ks.zip ms))
  | [], ks, c, keys, values, G, n, X, W, C, pos, h => by
    unfold chkK at h
    simp only [Bool.and_eq_true, List.isEmpty_iff] at h
    obtain ⟨rfl, rfl, rfl⟩ := h
    exact pps_nil
  | m :: ms, ks, c, keys, values, G, n, X, W, C, pos, h => by
    unfold chkK at h
    split at h
    · simp only [Bool.and_eq_true, decide_eq_true_eq] at h
      obtain ⟨rfl, h2, h3⟩ := h
      exact pps_cons k_const (ex_e fun φ => chkE_ok k m c _ (G.put φ) n X WF (C.wf.put φ) h2) (chkK_ok k ms _ c _ _ G n X W C pos h3)
    · cases h
theorem chkP_ok (k : Ck) : ∀ (m : Option ME), POk k m
  | none => fun c e G n X W C h => by
    unfold chkP at h
    cases e with
    | none => exact p_none
    | some e => cases h
  | some m => fun c e G n X W C h => by
    unfold chkP at h
    cases e with
    | none => cases h
    | some e => exact p_some (chkE_ok k m c e G n X W C h)
theorem chkQ_ok (k : Ck) : ∀ (q : MQ), QOk k q
  | .v (.cmp o a b) => fun c e G n X W C h => by
    unfold chkQ at h
    split at h
    · simp only [Bool.and_eq_true] at h
      have h2 := h.2
      unfold chkE at h2
      simp only [Bool.and_eq_true, decide_eq_true_eq] at h2
      obtain ⟨rfl, h0, h1, h2⟩ := h2
      exact q_cmp C.gw C.hu (chkE_ok k a c _ G n X W C h1) (chkE_ok k b c _ G n X W C h2) (marks_no h0)
    · simp only [Bool.and_eq_true] at h
      have h2 := h.2
      unfold chkE at h2
      cases h2
    · simp only [Bool.and_eq_true] at h
      exact q_v (chkE_ok k (.cmp o a b) c _ G n X W C h.2) (val_ok h.1)
  | .v (.chn o o' a b d) => fun c e G n X W C h => by
    unfold chkQ at h
    split at h
    · simp only [Bool.and_eq_true] at h
      have h2 := h.2
      unfold chkE at h2
      cases h2
    · simp only [Bool.and_eq_true] at h
      have h2 := h.2
      unfold chkE at h2
      simp only [Bool.and_eq_true, decide_eq_true_eq] at h2
      obtain ⟨rfl, rfl, h0, h1, h2, h3⟩ := h2
      exact q_chn C.gw C.hu (chkE_ok k a c _ G n X W C h1) (chkE_ok k b c _ G n X W C h2) (chkE_ok k d c _ G n X W C h3) (marks2_no h0)
    · simp only [Bool.and_eq_true] at h
      exact q_v (chkE_ok k (.chn o o' a b d) c _ G n X W C h.2) (val_ok h.1)
  | .v (.cst d) => qv_gen (chkE_ok k (.cst d)) (by intros; unfold chkE; rfl)
  | .v (.var i) => qv_gen (chkE_ok k (.var i)) (by intros; unfold chkE; rfl)
  | .v (.glb g) => qv_gen (chkE_ok k (.glb g)) (by intros; unfold chkE; rfl)
  | .v (.bin o a b) => qv_gen (chkE_ok k (.bin o a b)) (by intros; unfold chkE; rfl)
  | .v (.neg a) => qv_gen (chkE_ok k (.neg a)) (by intros; unfold chkE; rfl)
  | .v (.and ms) => qv_gen (chkE_ok k (.and ms)) (by intros; unfold chkE; rfl)
  | .v (.or ms) => qv_gen (chkE_ok k (.or ms)) (by intros; unfold chkE; rfl)
  | .v (.not q) => qv_gen (chkE_ok k (.not q)) (by intros; unfold chkE; rfl)
  | .v (.ite q a b) => qv_gen (chkE_ok k (.ite q a b)) (by intros; unfold chkE; rfl)
  | .v (.tup ms) => qv_gen (chkE_ok k (.tup ms)) (by intros; unfold chkE; rfl)
  | .v (.lst ms) => qv_gen (chkE_ok k (.lst ms)) (by intros; unfold chkE; rfl)
  | .v (.dct ks ms) => qv_gen (chkE_ok k (.dct ks ms)) (by intros; unfold chkE; rfl)
  | .v (.idx a b) => qv_gen (chkE_ok k (.idx a b)) (by intros; unfold chkE; rfl)
  | .v (.slc a lo hi) => qv_gen (chkE_ok k (.slc a lo hi)) (by intros; unfold chkE; rfl)
  | .v (.att a f) => qv_gen (chkE_ok k (.att a f)) (by intros; unfold chkE; rfl)
  | .v (.call f ms) => qv_gen (chkE_ok k (.call f ms)) (by intros; unfold chkE; rfl)
  | .v (.mk fz cl ms) => qv_gen (chkE_ok k (.mk fz cl ms)) (by intros; unfold chkE; rfl)
  | .v (.mth m o ms) => qv_gen (chkE_ok k (.mth m o ms)) (by intros; unfold chkE; rfl)
  | .v (.blt b ms) => qv_gen (chkE_ok k (.blt b ms)) (by intros; unfold chkE; rfl)
  | .v (.isc ms) => qv_gen (chkE_ok k (.isc ms)) (by intros; unfold chkE; rfl)
  | .v (.bmt m o ms) => qv_gen (chkE_ok k (.bmt m o ms)) (by intros; unfold chkE; rfl)
  | .v (.lc m t it q ws) => qv_gen (chkE_ok k (.lc m t it q ws)) (by intros; unfold chkE; rfl)
  | .v (.lc2 m t it q t1 it1 q1 ws ws1) => qv_gen (chkE_ok k (.lc2 m t it q t1 it1 q1 ws ws1)) (by intros; unfold chkE; rfl)
  | .v (.cal i ms) => qv_gen (chkE_ok k (.cal i ms)) (by intros; unfold chkE; rfl)
  | .v (.why w m) => qv_gen (chkE_ok k (.why w m)) (by intros; unfold chkE; rfl)
  | .v (.eqo m a b) => fun c e G n X W C h => by
    unfold chkQ at h
    split at h
    · simp only [Bool.and_eq_true] at h
      have h2 := h.2
      unfold chkE at h2
      split at h2
      · rename_i heq
        cases heq
        simp only [Bool.and_eq_true, decide_eq_true_eq] at h2
        obtain ⟨hn, h0, h1, h2⟩ := h2
        exact q_eqo C.toCn ((C.nmE m).trans hn) (chkE_ok k a c _ G n X W C h1) (chkE_ok k b c _ G n X W C h2) (marks_no h0)
      · cases h2
    · simp only [Bool.and_eq_true] at h
      have h2 := h.2
      unfold chkE at h2
      simp at h2
    · simp only [Bool.and_eq_true] at h
      exact q_v (chkE_ok k (.eqo m a b) c _ G n X W C h.2) (val_ok h.1)
  | .v .dnw => qv_gen (chkE_ok k .dnw) (by intros; unfold chkE; rfl)
  | .v (.rev a) => qv_gen (chkE_ok k (.rev a)) (by intros; unfold chkE; rfl)
  | .v (.thw i m) => qv_gen (chkE_ok k (.thw i m)) (by intros; unfold chkE; rfl)
  | .v (.alc m) => qv_gen (chkE_ok k (.alc m)) (fun c x ops ys p => by unfold chkE; exact chkA_cmp m)
  | .and qs => fun c e G n X W C h => by
    unfold chkQ at h
    split at h
    · exact q_and (chkQs_and k qs c _ G n X W C h)
    · cases h
  | .or qs => fun c e G n X W C h => by
    unfold chkQ at h
    split at h
    · exact q_or (chkQs_or k qs c _ G n X W C h)
    · cases h
  | .not q => fun c e G n X W C h => by
    unfold chkQ at h
    split at h
    · exact q_not (chkQ_ok k q c _ G n X W C h)
    · cases h
  | .ite q a b => fun c e G n X W C h => by
    unfold chkQ at h
    split at h
    · simp only [Bool.and_eq_true] at h
      exact q_ite (chkQ_ok k q c _ G n X W C h.1) (chkQ_ok k a c _ G n X W C h.2.1) (chkQ_ok k b c _ G n X W C h.2.2)
    · cases h
theorem chkQs_and (k : Ck) : ∀ (qs : List MQ) (c : Cs) (es : List Expr) (G : Ga) (n : Nat) (X : Cx) (W : WX), CnX k c G n X W → chkQs k qs c es = true → ∀ {pos : Pos}, PW X (.BoolOp .And es pos) (tQA X.K k.P (run k.P n) G W qs)
  | [], c, es, G, n, X, W, C, h => by
    unfold chkQs at h
    cases es with
    | nil => exact q_and_nil
    | cons e es => cases h
  | q :: qs, c, es, G, n, X, W, C, h => by
    unfold chkQs at h
    cases es with
    | nil => cases h
    | cons e es =>
      simp only [Bool.and_eq_true] at h
      exact q_and_cons (chkQ_ok k q c e G n X W C h.1) (chkQs_and k qs c es G n X W C h.2)
theorem chkQs_or (k : Ck) : ∀ (qs : List MQ) (c : Cs) (es : List Expr) (G : Ga) (n : Nat) (X : Cx) (W : WX), CnX k c G n X W → chkQs k qs c es = true → ∀ {pos : Pos}, PW X (.BoolOp .Or es pos) (tQO X.K k.P (run k.P n) G W qs)
  | [], c, es, G, n, X, W, C, h => by
    unfold chkQs at h
    cases es with
    | nil => exact q_or_nil
    | cons e es => cases h
  | q :: qs, c, es, G, n, X, W, C, h => by
    unfold chkQs at h
    cases es with
    | nil => cases h
    | cons e es =>
      simp only [Bool.and_eq_true] at h
      exact q_or_cons (chkQ_ok k q c e G n X W C h.1) (chkQs_or k qs c es G n X W C h.2)
theorem chkC_ok (k : Ck) : ∀ (q : Option MQ), COk k q
  | none => fun c es G n X W C h => by
    unfold chkC at h
    cases es with
    | nil => exact c_none
    | cons e es => cases h
  | some q => fun c es G n X W C h => by
    unfold chkC at h
    split at h
    · exact c_some fun φ => chkQ_ok k q c _ (G.put φ) n X WF (C.wf.put φ) h
    · cases h
theorem chkI_ok (k : Ck) : ∀ (m : MI), IOk k m
  | .seq m => fun c t e G n X W C h => i_seq (chkE_ok k m c e G n X W C (by unfold chkI at h; exact h))
  | .rg1 m => fun c t e G n X W C h => by
    unfold chkI at h
    split at h
    · simp only [Bool.and_eq_true, decide_eq_true_eq] at h
      obtain ⟨rfl, h1, h2, h3⟩ := h
      exact i_rg1 (gl_of C h1) (C.bn _ (by decide)) (l_cons (chkE_ok k m c _ G n X W C h3) l_nil (star1 h2)) (by rw [star1 h2]; rfl)
    · cases h
  | .rg2 m m' => fun c t e G n X W C h => by
    unfold chkI at h
    split at h
    · simp only [Bool.and_eq_true, decide_eq_true_eq] at h
      obtain ⟨rfl, h1, h2, h2', h3, h4⟩ := h
      exact i_rg2 (gl_of C h1) (C.bn _ (by decide)) (l_cons (chkE_ok k m c _ G n X W C h3) (l_cons (chkE_ok k m' c _ G n X W C h4) l_nil (star1 h2')) (star1 h2)) (by rw [star1 h2, star1 h2']; rfl) (by rw [star1 h2']; rfl)
    · cases h
  | .zip m m' => fun c t e G n X W C h => by
    unfold chkI at h
    split at h
    · simp only [Bool.and_eq_true, decide_eq_true_eq] at h
      obtain ⟨rfl, h1, h2, h2', h3, h4⟩ := h
      exact i_zip (gl_of C h1) (C.bn _ (by decide)) (l_cons (chkE_ok k m c _ G n X W C h3) (l_cons (chkE_ok k m' c _ G n X W C h4) l_nil (star1 h2')) (star1 h2)) (star1 h2) (by rw [star1 h2']; rfl)
    · cases h
  | .enm m => fun c t e G n X W C h => by
    unfold chkI at h
    split at h
    · simp only [Bool.and_eq_true, decide_eq_true_eq] at h
      obtain ⟨rfl, h1, h2, h3⟩ := h
      exact i_enm (gl_of C h1) (C.bn _ (by decide)) (l_cons (chkE_ok k m c _ G n X W C h3) l_nil (star1 h2)) (by rw [star1 h2]; rfl)
    · cases h
  | .dky i => fun c t e G n X W C h => by
    unfold chkI at h
    split at h
    · simp only [Bool.and_eq_true, decide_eq_true_eq] at h
      exact i_dky C.gw (s_var (nx_of C h.1) (vis_of C h.2.1) (name_of h.2.2).1 (name_of h.2.2).2)
    · cases h
end
end Mi
end
section
set_option autoImplicit false
set_option linter.all false
set_option maxRecDepth 100000
set_option maxHeartbeats 4000000
/-! Mi26: the check of statements -/
namespace Mi
open PySem PySem.Spec PyProof.Rows L2

theorem swaps_sole {ts : List Expr} {kt : Nat} {pt : Pos} {e : Expr} {l : Nat} {env : PySem.Env} : swapsWithSole [.Tuple ts kt pt] e l env = pure false := by
  show swapsWith e (some (.Tuple ts kt pt)) l env = pure false
  exact swaps_tgt rfl
/-- a comprehension's list is stored from within -/
def swB (sc : Scope) (x : Str) (px : Pos) (scope : Scope) (p : Pos) : Bool := (decide (sc.names.lookup x = some .local) && (px.line == p.line)) && !(scope.names.any fun (n, k) => n == x && (k == .local || k == .cell))
def parB (k : Ck) (c : Cs) (t : MT) (m : ME) (ts vs : List Expr) : Bool := match t, m, ts, vs with
  | .tp [.nm i, .nm j], .tup ms, [.Name x _, .Name y _], [a, b] => decide (c.N[i]? = some x) && (decide (c.N[j]? = some y) && (decide (i ≠ j) && (decide (c.sc.names.lookup x = some .local) && (decide (c.sc.names.lookup y = some .local) && (decide (swapS c.sc ts vs = some (some [x, y])) && (decide (ms.length = 2) && chkL k ms c [a, b]))))))
  | _, _, _, _ => false
/-- name = a comprehension -/
def lcB (k : Ck) (c : Cs) (t : MT) (m : ME) (x : Str) (px : Pos) (v : Expr) : Bool := match v with
  | .ListComp _ gens scope p => if swB c.sc x px scope p then (match t with
      | .nm i => decide (c.N[i]? = some x) && ((match m with
        | .lc _ _ _ _ _ => true
        | .lc2 _ _ _ _ _ _ _ _ _ => true
        | .alc (.lc _ _ _ _ _) => true
        | .alc (.lc2 _ _ _ _ _ _ _ _ _) => true
        | .thw _ (.lc _ _ _ _ _) => true
        | .thw _ (.lc2 _ _ _ _ _ _ _ _ _) => true
        | _ => false) && chkE k m c v)
      | _ => false)
    else chkT c t (.Name x px) && chkE k m c v
  | v => !isLC v && (chkT c t (.Name x px) && chkE k m c v)
def chkXs (k : Ck) (c : Cs) : List MX → List Expr → Bool
  | [], [] => true
  | .t m :: ms, e :: es => notStar e && (chkT c m e && chkXs k c ms es)
  | .sub x i :: ms, .Subscript a b _ :: es => notSlice b && (chkE k x c a && (chkE k i c b && chkXs k c ms es))
  | _, _ => false
def noTup (v : Expr) : Bool := match v with | .Tuple _ _ _ => false | _ => true
def asgB (k : Ck) (c : Cs) (t : MT) (m : ME) (tg v : Expr) : Bool := match tg with
  | .Name x px => lcB k c t m x px v
  | .Tuple ts _ _ => (match v with
    | .Tuple vs _ _ => parB k c t m ts vs || (decide (swapS c.sc ts vs = some none) && (chkT c t tg && chkE k m c v))
    | v => noTup v && (chkT c t tg && chkE k m c v))
  | _ => false
mutual
def chkS (k : Ck) : MS → Cs → Stmt → Bool
  | .asg t m, c, s => (match s with
    | .Assign [tg] v _ => asgB k c t m tg v
    | _ => false)
  | .asgx ts m, c, s => (match s with
    | .Assign [.Tuple es _ _] v _ => es.all notStar && (chkXs k c ts es && (chkE k m c v && (match v with
      | .Tuple vs _ _ => decide (swapS c.sc es vs = some none)
      | v => noTup v)))
    | _ => false)
  | .aug i o m, c, s => (match s with
    | .AugAssign (.Name x _) .Add v _ => decide (o = .Add) && (decide (c.N[i]? = some x) && (stB c x && chkE k m c v))
    | _ => false)
  | .augI x i o m, c, s => (match s with
    | .AugAssign (.Subscript a b _) .Add v _ => decide (o = .Add) && (notSlice b && (chkE k x c a && (chkE k i c b && chkE k m c v)))
    | _ => false)
  | .setI x i m, c, s => (match s with
    | .Assign [.Subscript a b _] v _ => chkE k x c a && (chkE k i c b && chkE k m c v)
    | _ => false)
  | .setA x f m, c, s => (match s with
    | .Assign [.Attribute a y _] v _ => decide (nmOf k f = y) && (chkE k x c a && chkE k m c v)
    | _ => false)
  | .augA x f o m, c, s => (match s with
    | .AugAssign (.Attribute a y _) .Add v _ => decide (o = .Add) && (decide (nmOf k f = y) && (chkE k x c a && chkE k m c v))
    | _ => false)
  | .exp m, c, s => (match s with
    | .Expr v _ => !isLC v && chkE k m c v
    | _ => false)
  | .ret m, c, s => (match s with
    | .Return (some v) _ => chkE k m c v
    | _ => false)
  | .retN, c, s => (match s with
    | .Return none _ => true
    | _ => false)
  | .iff q a b, c, s => (match s with
    | .If t x y _ => chkQ k q c t && (chkB k a c x && chkB k b c y)
    | _ => false)
  | .whl q b, c, s => (match s with
    | .While t x [] _ => chkQ k q c t && chkB k b c x
    | _ => false)
  | .for t it b, c, s => (match s with
    | .For tg iter body [] _ => notSet iter && (chkI k it c tg iter && (chkT c t tg && chkB k b c body))
    | _ => false)
  | .pas, c, s => (match s with
    | .Pass _ => true
    | _ => false)
  | .brk, c, s => (match s with
    | .Break _ => true
    | _ => false)
  | .cnt, c, s => (match s with
    | .Continue _ => true
    | _ => false)
  | .rse cl ms, c, s => (match s with
    | .Raise (some (.Call (.Name x _) (a :: es) [] _)) none _ => glB c.sc x && (okName x && (clAt k cl x && ((match k.P.cls[cl]? with
      | some i => i.rs && i.exf.isSome
      | none => false) && chkL k ms c (a :: es))))
    | _ => false)
  | .never, _, _ => true
def chkB (k : Ck) : List MS → Cs → List Stmt → Bool
  | [], _, ss => ss.isEmpty
  | m :: ms, c, ss => (match ss with
    | s :: ss => chkS k m c s && chkB k ms c ss
    | [] => false)
end
structure CnS (k : Ck) (c : Cs) (G : Ga) (n : Nat) (X : Cx) (W : WX) : Prop extends CnX k c G n X W where
  po : PassesOwn (model X.prog X.w) X.A X.env X.xe
  kf : c.sc.kind = .function
def SOk (k : Ck) (m : MS) : Prop := ∀ (c : Cs) (s : Stmt) (G : Ga) (n : Nat) (X : Cx) (W : WX), CnS k c G n X W → chkS k m c s = true → PS X s (tS X.K k.P (run k.P n) G W m)
def BOk (k : Ck) (m : List MS) : Prop := ∀ (c : Cs) (s : List Stmt) (G : Ga) (n : Nat) (X : Cx) (W : WX), CnS k c G n X W → chkB k m c s = true → PSs X s (tB X.K k.P (run k.P n) G W m)
section
variable {k : Ck} {c : Cs} {G : Ga} {n : Nat} {X : Cx} {W : WX}
theorem CnS.bk (C : CnS k c G n X W) : X.env.blockKind = .function := by
  unfold Env.blockKind
  rw [C.scp, C.kf]; rfl
theorem chkXs_ok (C : CnS k c G n X W) : ∀ (ms : List MX) (es : List Expr), chkXs k c ms es = true → PGs X es (tXs X.K k.P (run k.P n) G ms) ∧ es.length = ms.length
  | [], [], _ => ⟨x_nil, rfl⟩
  | [], _ :: _, h => by simp [chkXs] at h
  | .t m :: ms, [], h => by simp [chkXs] at h
  | .sub _ _ :: ms, [], h => by simp [chkXs] at h
  | .t m :: ms, e :: es, h => by
    unfold chkXs at h
    simp only [Bool.and_eq_true] at h
    obtain ⟨h1, h2, h3⟩ := h
    obtain ⟨r1, r2⟩ := chkXs_ok C ms es h3
    exact ⟨x_t (chkT_ok C.toCnX m e h2) r1 (asgs h1), congrArg (· + 1) r2⟩
  | .sub x i :: ms, e :: es, h => by
    unfold chkXs at h
    split at h
    · rename_i heq1 heq2
      cases heq1
    · rename_i heq1 heq2
      cases heq1
    · rename_i heq1 heq2
      cases heq1; cases heq2
      simp only [Bool.and_eq_true] at h
      obtain ⟨h1, h2, h3, h4⟩ := h
      obtain ⟨r1, r2⟩ := chkXs_ok C _ _ h4
      exact ⟨x_sub C.gw C.hu (chkE_ok k _ c _ G n X WF C.toCnX.wf h2) (chkE_ok k _ c _ G n X WF C.toCnX.wf h3) r1 (sub_assign h1) (asgs rfl), congrArg (· + 1) r2⟩
    · cases h
theorem lcB_ok (C : CnS k c G n X W) {t : MT} {m : ME} {x : Str} {px pos : Pos} {v : Expr} (h : lcB k c t m x px v = true) : PS X (.Assign [.Name x px] v pos) (tS X.K k.P (run k.P n) G W (.asg t m)) := by
  have plain : swapsWith v (some (.Name x px)) pos.line X.env = pure false → chkT c t (.Name x px) = true → chkE k m c v = true → PS X (.Assign [.Name x px] v pos) (tS X.K k.P (run k.P n) G W (.asg t m)) := fun hs h1 h2 =>
    st_asg (chkE_ok k m c v G n X W C.toCnX h2) (chkT_ok C.toCnX t _ h1) hs swap_name (asg1 rfl)
  unfold lcB at h
  split at h
  · rename_i elt gens scope p
    split at h
    · rename_i hsw
      unfold swB at hsw
      simp only [Bool.and_eq_true, decide_eq_true_eq, Bool.not_eq_true'] at hsw
      obtain ⟨⟨s1, s2⟩, s3⟩ := hsw
      split at h
      · rename_i i
        simp only [Bool.and_eq_true, decide_eq_true_eq] at h
        obtain ⟨h1, h2, h3⟩ := h
        have hy : X.N[i]? = some x := nx_of C.toCnX h1
        have hyl : X.env.scope.names.lookup x = some .local := by rw [C.scp]; exact s1
        have hsw : swapsWith (.ListComp elt gens scope p) (some (.Name x px)) pos.line X.env = pure true := sw_true (by rw [C.scp]; exact C.kf) hyl s2 s3
        split at h2
        · unfold chkE at h3
          split at h3
          · rename_i heq
            cases heq
            obtain ⟨p1, p2, p3, p4, p5, p6, p7⟩ := lc_parts C.toCnX (chkE_ok k _) (chkI_ok k _) (chkC_ok k _) h3
            have r := st_setLc (pos := p) false C.calm C.nd hy hyl hsw p1 p2 p3 p4 p5 p6 p7
            rw [own_map] at r
            exact r
          · cases h3
        · unfold chkE at h3
          split at h3
          · rename_i heq
            cases heq
            obtain ⟨⟨p1, p2, p3, p3', p3''⟩, p4, p5, p6, p7, p8, p9, p10, p11⟩ := lc2_parts C.toCnX (chkE_ok k _) (chkI_ok k _) (chkC_ok k _) (chkI_ok k _) (chkC_ok k _) h3
            have r := st_setLc2 (pos := p) false C.calm C.nd hy hyl hsw p1 p2 p3 p3' p3'' p4 p5 p6 p7 p8 p9 p10 p11
            rw [own_map] at r
            exact r
          · cases h3
        · unfold chkE chkA at h3
          split at h3
          · rename_i heq
            cases heq
            obtain ⟨p1, p2, p3, p4, p5, p6, p7⟩ := lc_parts C.toCnX (chkE_ok k _) (chkI_ok k _) (chkC_ok k _) h3
            have r := st_setLc (pos := p) true C.calm C.nd hy hyl hsw p1 p2 p3 p4 p5 p6 p7
            rw [own_map] at r
            exact r
          · cases h3
        · unfold chkE chkA at h3
          split at h3
          · rename_i heq
            cases heq
            obtain ⟨⟨p1, p2, p3, p3', p3''⟩, p4, p5, p6, p7, p8, p9, p10, p11⟩ := lc2_parts C.toCnX (chkE_ok k _) (chkI_ok k _) (chkC_ok k _) (chkI_ok k _) (chkC_ok k _) h3
            have r := st_setLc2 (pos := p) true C.calm C.nd hy hyl hsw p1 p2 p3 p3' p3'' p4 p5 p6 p7 p8 p9 p10 p11
            rw [own_map] at r
            exact r
          · cases h3
        · unfold chkE at h3
          simp only at h3
          unfold chkE at h3
          split at h3
          · rename_i heq
            cases heq
            refine st_thw C.gw fun φ => ?_
            obtain ⟨p1, p2, p3, p4, p5, p6, p7⟩ := lc_parts (C.toCnX.wf.put φ) (chkE_ok k _) (chkI_ok k _) (chkC_ok k _) h3
            have r := st_setLc (pos := p) false C.calm C.nd hy hyl hsw p1 p2 p3 p4 p5 p6 p7
            rw [own_map] at r
            exact r
          · cases h3
        · unfold chkE at h3
          simp only at h3
          unfold chkE at h3
          split at h3
          · rename_i heq
            cases heq
            refine st_thw C.gw fun φ => ?_
            obtain ⟨⟨p1, p2, p3, p3', p3''⟩, p4, p5, p6, p7, p8, p9, p10, p11⟩ := lc2_parts (C.toCnX.wf.put φ) (chkE_ok k _) (chkI_ok k _) (chkC_ok k _) (chkI_ok k _) (chkC_ok k _) h3
            have r := st_setLc2 (pos := p) false C.calm C.nd hy hyl hsw p1 p2 p3 p3' p3'' p4 p5 p6 p7 p8 p9 p10 p11
            rw [own_map] at r
            exact r
          · cases h3
        · cases h2
      · cases h
    · rename_i hsw
      simp only [Bool.and_eq_true] at h
      refine plain ?_ h.1 h.2
      unfold swapsWith
      simp only [C.bk]
      have e : swB c.sc x px scope p = false := by simpa using hsw
      unfold swB at e
      have e2 : (Env.kindOf X.env x == some NameKind.local) = decide (c.sc.names.lookup x = some .local) := by
        unfold Env.kindOf
        rw [C.scp]
        by_cases z : c.sc.names.lookup x = some .local
        · rw [z]; rfl
        · rw [decide_eq_false z]
          exact beq_eq_false_iff_ne.mpr z
      rw [e2]
      show pure _ = _
      congr 1
  · rename_i hne
    simp only [Bool.and_eq_true, Bool.not_eq_true'] at h
    exact plain (swaps_no h.1) h.2.1 h.2.2
theorem asgB_ok (C : CnS k c G n X W) {t : MT} {m : ME} {tg v : Expr} {pos : Pos} (h : asgB k c t m tg v = true) : PS X (.Assign [tg] v pos) (tS X.K k.P (run k.P n) G W (.asg t m)) := by
  unfold asgB at h
  split at h
  · exact lcB_ok C h
  · rename_i ts kt pt
    split at h
    · rename_i vs kv pv
      simp only [Bool.or_eq_true, Bool.and_eq_true, decide_eq_true_eq] at h
      rcases h with h | ⟨h1, h2, h3⟩
      · unfold parB at h
        split at h
        · simp only [Bool.and_eq_true, decide_eq_true_eq] at h
          obtain ⟨h1, h2, h3, h4, h5, h6, h7, h8⟩ := h
          rename_i i j ms x _ y _ a b
          match ms, h7 with
          | [ma, mb], _ =>
            exact st_par C.calm C.nd (nx_of C.toCnX h1) (nx_of C.toCnX h2) h3 (by rw [C.scp]; exact h4) (by rw [C.scp]; exact h5) (chkL_ok k [ma, mb] c _ G n X W C.toCnX h8) (swap_ok (by rw [C.scp]; exact C.kf) (by rw [C.scp]; exact h6)) swaps_sole
        · cases h
      · exact st_asg (chkE_ok k m c _ G n X W C.toCnX h3) (chkT_ok C.toCnX t _ h2) swaps_sole (swap_ok (by rw [C.scp]; exact C.kf) (by rw [C.scp]; exact h1)) (asg1 rfl)
    · simp only [Bool.and_eq_true] at h
      exact st_asg (chkE_ok k m c _ G n X W C.toCnX h.2.2) (chkT_ok C.toCnX t _ h.2.1) swaps_sole (swap_none h.1) (asg1 rfl)
  · cases h
end
mutual
theorem chkS_ok (k : Ck) : ∀ (m : MS), SOk k m
  | .asg t m => fun c s G n X W C h => by
    unfold chkS at h
    split at h
    · exact asgB_ok C h
    · cases h
  | .asgx ts m => fun c s G n X W C h => by
    unfold chkS at h
    split at h
    · simp only [Bool.and_eq_true] at h
      obtain ⟨h1, h2, h3, h4⟩ := h
      obtain ⟨r1, r2⟩ := chkXs_ok C _ _ h2
      refine st_asgx C.calm (chkE_ok k m c _ G n X W C.toCnX h3) r1 (by rw [asg_len]; exact r2) (asg_star h1) swaps_sole ?_ (asg1 rfl)
      split at h4
      · exact swap_ok (by rw [C.scp]; exact C.kf) (by rw [C.scp]; exact of_decide_eq_true h4)
      · exact swap_none h4
    · cases h
  | .aug i o m => fun c s G n X W C h => by
    unfold chkS at h
    split at h
    · simp only [Bool.and_eq_true, decide_eq_true_eq] at h
      obtain ⟨rfl, h1, h2, h3⟩ := h
      obtain ⟨s1, s2⟩ := st_of C.toCnX h2
      exact st_aug C.nd (nx_of C.toCnX h1) s1 (chkE_ok k m c _ G n X W C.toCnX h3) s2
    · cases h
  | .augI x i o m => fun c s G n X W C h => by
    unfold chkS at h
    split at h
    · simp only [Bool.and_eq_true, decide_eq_true_eq] at h
      obtain ⟨rfl, h1, h2, h3, h4⟩ := h
      exact st_augI (chkE_ok k x c _ G n X W C.toCnX h2) (chkE_ok k i c _ G n X W C.toCnX h3) (chkE_ok k m c _ G n X W C.toCnX h4) (aug_ok h1)
    · cases h
  | .setI x i m => fun c s G n X W C h => by
    unfold chkS at h
    split at h
    · simp only [Bool.and_eq_true] at h
      exact st_setI C.gw C.hu (chkE_ok k m c _ G n X W C.toCnX h.2.2) (chkE_ok k x c _ G n X W C.toCnX h.1) (chkE_ok k i c _ G n X W C.toCnX h.2.1) (swaps_tgt rfl)
    · cases h
  | .setA x f m => fun c s G n X W C h => by
    unfold chkS at h
    split at h
    · simp only [Bool.and_eq_true, decide_eq_true_eq] at h
      obtain ⟨rfl, h2, h3⟩ := h
      rw [← C.nmE]
      exact st_setA C.wd (chkE_ok k m c _ G n X W C.toCnX h3) (chkE_ok k x c _ G n X W C.toCnX h2) (swaps_tgt rfl)
    · cases h
  | .augA x f o m => fun c s G n X W C h => by
    unfold chkS at h
    split at h
    · simp only [Bool.and_eq_true, decide_eq_true_eq] at h
      obtain ⟨rfl, rfl, h2, h3⟩ := h
      rw [← C.nmE]
      exact st_augA C.wd (chkE_ok k m c _ G n X W C.toCnX h3) (chkE_ok k x c _ G n X W C.toCnX h2)
    · cases h
  | .exp m => fun c s G n X W C h => by
    unfold chkS at h
    split at h
    · simp only [Bool.and_eq_true, Bool.not_eq_true'] at h
      exact st_exp (chkE_ok k m c _ G n X W C.toCnX h.2) (swaps_no h.1)
    · cases h
  | .ret m => fun c s G n X W C h => by
    unfold chkS at h
    split at h
    · exact st_ret (chkE_ok k m c _ G n X W C.toCnX h)
    · cases h
  | .retN => fun c s G n X W C h => by
    unfold chkS at h
    split at h
    · exact st_retN
    · cases h
  | .iff q a b => fun c s G n X W C h => by
    unfold chkS at h
    split at h
    · simp only [Bool.and_eq_true] at h
      exact st_if (chkQ_ok k q c _ G n X W C.toCnX h.1) (chkB_ok k a c _ G n X W C h.2.1) (chkB_ok k b c _ G n X W C h.2.2)
    · cases h
  | .whl q b => fun c s G n X W C h => by
    unfold chkS at h
    split at h
    · simp only [Bool.and_eq_true] at h
      exact st_whl C.po (chkQ_ok k q c _ G n X W C.toCnX h.1) (chkB_ok k b c _ G n X W C h.2)
    · cases h
  | .for t it b => fun c s G n X W C h => by
    unfold chkS at h
    split at h
    · simp only [Bool.and_eq_true] at h
      obtain ⟨h1, h2, h3, h4⟩ := h
      exact st_for C.po C.calm (chkI_ok k it c _ _ G n X W C.toCnX h2) (chkT_ok C.toCnX t _ h3) (chkB_ok k b c _ G n X W C h4) (fold_ok h1)
    · cases h
  | .pas => fun c s G n X W C h => by
    unfold chkS at h
    split at h
    · exact st_pass
    · cases h
  | .brk => fun c s G n X W C h => by
    unfold chkS at h
    split at h
    · exact st_brk
    · cases h
  | .cnt => fun c s G n X W C h => by
    unfold chkS at h
    split at h
    · exact st_cnt
    · cases h
  | .rse cl ms => fun c s G n X W C h => by
    unfold chkS at h
    split at h
    · simp only [Bool.and_eq_true] at h
      obtain ⟨h1, h2, h3, h4, h5⟩ := h
      cases hc : k.P.cls[cl]? with
      | none => rw [hc] at h4; cases h4
      | some i =>
        rw [hc] at h4
        simp only [Bool.and_eq_true] at h4
        obtain ⟨ns, hn⟩ := Option.isSome_iff_exists.mp h4.2
        have hs := chkL_star ms c _ h5
        simp only [List.all_cons, Bool.and_eq_true] at hs
        exact st_rse C.toCn (gl_of C.toCnX h1) (C.cll cl _ h3) hc hn h4.1 (name_of h2).1 (chkL_ok k ms c _ G n X W C.toCnX h5) (star1 hs.1) (stars_any hs.2)
    · cases h
  | .never => fun c s G n X W C h => ps_never.imp fun D σ H ⟨B, ρ, v, S, sim, er, af⟩ => af
theorem chkB_ok (k : Ck) : ∀ (m : List MS), BOk k m
  | [] => fun c s G n X W C h => by
    unfold chkB at h
    cases s with
    | nil => exact ss_nil
    | cons e es => cases h
  | m :: ms => fun c s G n X W C h => by
    unfold chkB at h
    cases s with
    | nil => cases h
    | cons s ss =>
      simp only [Bool.and_eq_true] at h
      exact ss_cons (chkS_ok k m c s G n X W C h.1) (chkB_ok k ms c ss G n X W C h.2)
end
end Mi
end
section
set_option autoImplicit false
set_option linter.all false
set_option maxRecDepth 100000
set_option maxHeartbeats 4000000
/-! Mi27: defs keep what the evaluator says -/
namespace Mi
open PySem PySem.Spec PyProof.Rows L2

/-- how a lambda of the def is called -/
def lamQ (qual : Str) (scope : Scope) : Str := (envOfC qual scope 0 0 .none).qual ++ "<lambda>"
/-- a def of the text as it stands behind the top, and its term -/
structure Df (k : Ck) (K : PySem.W.Frag) (G : Ga) (cs : List (Addr × Addr)) (f : Nat) (i : FnI) : Prop where
  ex : ∃ (name qual : Str) (params : Arguments) (body : List Stmt) (scope : Scope) (dV kV doc pm cdv ct oc : Value) (an od : Option Addr) (osl : Array (Option Value)) (N ps : List Str),
    K.lookup (G.fn f) = some ⟨oc, od, .func (PySem.W.fnOf name qual params body scope dV kV doc pm an cdv ct), osl⟩ ∧ PySem.W.codeIn K cdv qual = true ∧ FnScope N ps scope ∧
    Binds K (PySem.W.fnOf name qual params body scope dV kV doc pm an cdv ct) ps [] ∧ N.length = i.ns ∧ ps.length = i.np ∧ chkB k i.body ⟨scope, N, true, i.tbl⟩ body = true ∧
    (i.tbl = true → ∃ cc Pt, cdv = .ref cc ∧ (cc, Pt) ∈ cs ∧ (Pt, lamQ qual scope) ∈ G.tb ∧ ∀ p ∈ G.tb, p.1 = Pt → p.2 = lamQ qual scope)
/-- the world behind the top -/
structure Wx (k : Ck) (K : PySem.W.Frag) (mg : Str → Option Value) (G : Ga) (cs : List (Addr × Addr)) : Prop extends Wd k.P K mg G where
  nmE : ∀ i, G.nm i = nmOf k i
  glb : ∀ (g : Nat) (d : D) (x : Str), k.P.glb[g]? = some d → k.gn[g]? = some x → ∃ u v, mg x = some u ∧ RelV v u ∧ ∀ B ρ, Rep K G B ρ v d
  bn : ∀ x ∈ bnames, mg x = none
  fnl : ∀ (f : Nat) (x : Str), fnAt k f x = true → mg x = some (.ref (G.fn f)) ∧ PySem.W.keepIn K (.ref (G.fn f)) = true
  cll : ∀ (f : Nat) (x : Str), clAt k f x = true → mg x = some (.ref (G.cl f))
  df : ∀ f i, k.P.fns[f]? = some i → i.ok = true → Df k K G cs f i
  why : ∀ (w : Nat) (W : WhyI), k.P.whys[w]? = some W → WhyW k K G W
theorem env_start {K : PySem.W.Frag} {G : Ga0} {B : Hp} {ρ : List Addr} {N : List Str} {vs : List V} {ds : List D} (r : Reps K G B ρ vs ds) : EnvR K G B ρ (L2.start N vs) (env0 N.length ds) := by
  unfold L2.start env0
  rw [r.length]
  refine ⟨by simp [r.length], fun i d e => ?_⟩
  by_cases hi : i < ds.length
  · rw [List.getElem?_append_left (by simpa using hi), List.getElem?_map] at e
    cases e2 : ds[i]? with
    | none => rw [e2] at e; cases e
    | some d' =>
      rw [e2] at e
      cases e
      obtain ⟨v, h1, h2⟩ := r.get e2
      refine ⟨v, ?_, h2⟩
      rw [List.getElem?_append_left (by rw [List.length_map, r.length]; exact hi), List.getElem?_map, h1]; rfl
  · rw [List.getElem?_append_right (by simpa using hi), List.getElem?_replicate] at e
    split at e <;> cases e
theorem fnM {k : Ck} {prog : Program} {w : World} {K : PySem.W.Frag} {mg : Str → Option Value} {base : Heap} {G : Ga} {cs : List (Addr × Addr)} (wx : Wx k K mg G cs) (tbs : ∀ p ∈ cs, LamX.TabB base mg p.1 p.2) (smb : ∃ o, base.get? sysModules = some o) (gw : G.w = w) : ∀ n f, FnM k.P prog w K mg base G n f
  | 0, f => fun A outer s H us vs Q E hg hr e0 rv ⟨φ, B, ρ, S, ds, sim, rp, af⟩ => False.elim af
  | n + 1, f => fun A outer s H us vs Q E hg hr e0 rv ⟨φ, B, ρ, S, ds, sim, rp, af⟩ => by
    have ih := fnM wx tbs smb gw (prog := prog) (w := w) n
    have af : Aft K (G.put φ) E B ρ (match k.P.fns[f]? with
      | some i => if i.ok = true ∧ ds.length = i.np then (match evB k.P (run k.P n) i.body (env0 i.ns ds) S with
        | .nx _ S' => fin i.keep S .non S'
        | .rt d S' => fin i.keep S d S'
        | .ex c fs _ S' => finX S c fs S'
        | _ => .bad) else .bad
      | none => .bad) Q := af
    cases hf : k.P.fns[f]? with
    | none => rw [hf] at af; exact af.elim
    | some i =>
      rw [hf] at af
      simp only at af
      by_cases hok : i.ok = true ∧ ds.length = i.np
      · rw [if_pos hok] at af
        obtain ⟨name, qual, params, body, scope, dV, kV, doc, pm, cdv, ct, oc, an, od, osl, N, ps, lk, hcd, Sc, hb, hN, hps, hck, htb⟩ := (wx.df f i hf hok.1).ex
        have KX : K.In s.heap := e0.mod.kin.keeps fun b o e => (e0.bs b o e).1
        have hl : vs.length = ps.length := by rw [rp.length, hok.2, hps]
        have hlu : us.length = ps.length := by rw [← hl]; exact (Vals.length rv).symm
        have hbt := hb s us KX (by simpa using hlu)
        rw [List.append_nil] at hbt
        refine LamX.run_ofS (k := 4 * n + 4) lk hcd Sc hr e0 hbt rv hl fun hr' => ?_
        refine ⟨_, chkB_ok k i.body ⟨scope, N, true, i.tbl⟩ body (G.put φ) n _ (fun cls d _ H => E cls d H) ?_ hck, B, ρ, env0 i.ns ds, S, sim, ?_, ?_⟩
        · refine ⟨⟨⟨⟨wx.inj, wx.exc, wx.fnk, wx.cls, wx.mak, wx.fld, wx.mth, wx.exm, wx.isa, wx.isk, wx.isb, wx.exi⟩, gw, ih, hg, hr'.mono (by omega), rfl, Sc.nd, takes_of rfl rfl rfl rfl⟩, rfl, rfl, fun _ _ => rfl, wx.nmE, wx.glb, wx.bn, smb, wx.fnl, wx.cll, (fun w W e => let ⟨ex⟩ := wx.why w W e; ⟨ex⟩), fun _ => hr', fun ht => ?_⟩, passes_of rfl, Sc.kind⟩
          obtain ⟨cc, Pt, e1, e2, e3, e4⟩ := htb ht
          exact ⟨cc, Pt, e1, tbs _ e2, e3, e4⟩
        · rw [← hN]; exact env_start rp
        · cases e : evB k.P (run k.P n) i.body (env0 i.ns ds) S with
          | nx v S' =>
            rw [e] at af
            exact fun σ' H' B' ρ' le s' er => fin_post sim s' le (Rep.non (G := G)) af
          | rt d S' =>
            rw [e] at af
            exact fun u H' B' ρ' le s' r => fin_post sim s' le r af
          | bk v S' => rw [e] at af; exact af.elim
          | ct v S' => rw [e] at af; exact af.elim
          | ex c fs v S' =>
            rw [e] at af
            exact fun dd fv σ' H' B' ρ' le s' er hd hx => finX_post (W := E) sim s' le hd hx af
          | bad => rw [e] at af; exact af.elim
      · rw [if_neg hok] at af; exact af.elim
end Mi
end
section
set_option autoImplicit false
set_option linter.all false
set_option maxRecDepth 100000
set_option maxHeartbeats 4000000
/-! Mi28: what the top has left, checked; the end -/
namespace Mi
open PySem PySem.Spec PyProof.Rows L2
def plainA (p : Arguments) : Bool := p.posonlyargs.isEmpty && (p.vararg.isNone && (p.kwonlyargs.isEmpty && p.kwarg.isNone))
theorem zipLook : ∀ {ps : List Str} {us : List Value}, ps.Nodup → us.length = ps.length → ps.filterMap (fun n => ((ps.zip us).lookup n).map (n, ·)) = ps.zip us := by
  intro ps us nd hl
  have key : ∀ (qs : List Str) (ws : List Value) (f : Str → Option Value), qs.Nodup → ws.length = qs.length → (∀ n ∈ qs, f n = (qs.zip ws).lookup n) → qs.filterMap (fun n => (f n).map (n, ·)) = qs.zip ws := by
    intro qs
    induction qs with
    | nil => intro ws f _ _ _; rfl
    | cons q qs ih =>
      intro ws f nd hl hf
      cases ws with
      | nil => simp at hl
      | cons w ws =>
        have h1 : f q = some w := by
          rw [hf q (by simp)]
          simp [List.lookup]
        rw [List.filterMap_cons, h1]
        show (q, w) :: _ = (q, w) :: _
        have hf2 : ∀ n ∈ qs, f n = (qs.zip ws).lookup n := fun n hn => by
          rw [hf n (List.mem_cons_of_mem _ hn)]
          have ne : n ≠ q := fun e => (List.nodup_cons.mp nd).1 (e ▸ hn)
          simp [List.zip_cons_cons, List.lookup, beq_eq_false_iff_ne.mpr ne]
        rw [ih ws f (List.nodup_cons.mp nd).2 (by simpa using hl) hf2]
        rfl
  exact key ps us _ nd hl fun n _ => rfl
theorem lookSome : ∀ {ps : List Str} {us : List Value} {n : Str}, us.length = ps.length → n ∈ ps → ((ps.zip us).lookup n).isNone = false := by
  intro ps
  induction ps with
  | nil => intro us n _ h; cases h
  | cons p ps ih =>
    intro us n hl h
    cases us with
    | nil => simp at hl
    | cons u us =>
      by_cases e : n = p
      · subst e; simp [List.lookup]
      · have hm : n ∈ ps := (List.mem_cons.mp h).resolve_left e
        have := ih (us := us) (by simpa using hl) hm
        simpa [List.zip_cons_cons, List.lookup, beq_eq_false_iff_ne.mpr e] using this
theorem bind_plain {x qual : Str} {params : Arguments} {body : List Stmt} {scope : Scope} (hp : plainA params = true) (nd : (params.args.map (·.arg)).Nodup) (kV doc pm : Value) (an : Option Addr) (cdv ct : Value) (us : List Value) (hl : us.length = (params.args.map (·.arg)).length) :
    bindArgs (PySem.W.fnOf x qual params body scope .none kV doc pm an cdv ct) ⟨us, []⟩ = pure ((params.args.map (·.arg)).zip us) := by
  obtain ⟨po, ar, va, ko, kd, kw, df⟩ := params
  unfold plainA at hp
  simp only [Bool.and_eq_true, List.isEmpty_iff, Option.isNone_iff_eq_none] at hp
  obtain ⟨rfl, rfl, rfl, rfl⟩ := hp
  unfold bindArgs PySem.W.fnOf
  dsimp only at nd hl ⊢
  simp only [List.map_nil, List.nil_append, seqItems?]
  have e0 : notAStandIn Value.none = pure () := rfl
  have hl' : us.length = ar.length := by simpa using hl
  have e1 : ¬ (ar.length < us.length) := by omega
  have e2 : (ar.map (·.arg)).filter (fun n => (((ar.map (·.arg)).zip us).lookup n).isNone) = [] := by
    rw [List.filter_eq_nil_iff]
    intro n hn
    rw [lookSome hl hn]; simp
  have e3 : ar.filterMap ((fun n => (((ar.map (·.arg)).zip us).lookup n).map (n, ·)) ∘ fun x => x.arg) = (ar.map (·.arg)).zip us := by
    rw [← List.filterMap_map]; exact zipLook nd hl
  have e4 : List.take ar.length (ar.map (·.arg)) = ar.map (·.arg) := List.take_of_length_le (by simp)
  simp [e0, e1, e2, e3, e4]

/-! ### the facts behind the top -/
structure Hd where
  k : Ck
  /-- the defs, in the order of the table -/
  fn : List He.DefD
  /-- their names of places -/
  ns : List (List Str)
  /-- the classes' names -/
  cl : List Str
  /-- own exceptions that are raised: the class, where its __init__ stands in the table, its base's name -/
  xi : List (Nat × Nat × Str) := []
def Hd.at_ (h : Hd) (K : PySem.W.Frag) (f : Nat) : Addr := match h.fn[f]? with
  | some d => He.fAd K d.at_
  | none => 0
def Hd.ca (h : Hd) (K : PySem.W.Frag) (c : Nat) : Addr := match h.cl[c]? with
  | some x => He.ga K x
  | none => 0
/-- the defs that make lambdas -/
def Hd.tf (h : Hd) : List He.DefD := ((h.fn.zip h.k.P.fns).filter (·.2.tbl)).map (·.1)
def Hd.cs (h : Hd) (K : PySem.W.Frag) : List (Addr × Addr) := h.tf.map fun d => He.cT K d.at_
def Hd.tb (h : Hd) (K : PySem.W.Frag) : List (Addr × Str) := h.tf.map fun d => ((He.cT K d.at_).2, lamQ d.qual d.scope)
def Hd.G (h : Hd) (K : PySem.W.Frag) (w0 : World) : Ga := { fn := h.at_ K, cl := h.ca K, nm := nmOf h.k, tb := h.tb K, fr := fun _ => none, w := w0 }
variable {w0 : World}
mutual
/-- a global's value -/
def gvB (h : Hd) (K : PySem.W.Frag) : D → Value → Bool
  | .non, .none => true
  | .bl b, .bool c => b == c
  | .int i, .int j _ => decide (i = j)
  | .str x, .str y _ => decide (x = y)
  | .fn f, .ref a => decide (a = h.at_ K f) && decide (f < h.fn.length)
  | .cls c, .ref a => decide (a = h.ca K c)
  | .tup ds, .ref a => (match K.lookup a with
    | some ⟨.type c, _, .seq its _, _⟩ => decide (c = "tuple") && (decide (its.size ≤ sizeLine) && gvsB h K ds its.toList)
    | _ => false)
  | _, _ => false
def gvsB (h : Hd) (K : PySem.W.Frag) : List D → List Value → Bool
  | [], [] => true
  | d :: ds, u :: us => gvB h K d u && gvsB h K ds us
  | _, _ => false
end
mutual
theorem gvB_ok {h : Hd} {K : PySem.W.Frag} : ∀ {d : D} {u : Value}, gvB h K d u = true → ∃ v, RelV v u ∧ ∀ B ρ, Rep K (h.G K w0) B ρ v d
  | .non, u, e => by cases u <;> first | exact ⟨.non, rfl, fun _ _ => .non⟩ | cases e
  | .bl b, u, e => by
    cases u <;> first | cases e | skip
    rename_i c
    unfold gvB at e
    rw [eq_of_beq e]
    exact ⟨.bl c, rfl, fun _ _ => .bl c⟩
  | .int i, u, e => by
    cases u <;> first | cases e | skip
    rename_i j t
    unfold gvB at e
    rw [of_decide_eq_true e]
    exact ⟨.int j, ⟨t, rfl⟩, fun _ _ => .int j⟩
  | .str x, u, e => by
    cases u <;> first | cases e | skip
    rename_i y t
    unfold gvB at e
    rw [of_decide_eq_true e]
    exact ⟨.str y, ⟨t, rfl⟩, fun _ _ => .str y⟩
  | .fn f, u, e => by
    cases u <;> first | cases e | skip
    rename_i a
    unfold gvB at e
    rw [of_decide_eq_true (Bool.and_eq_true_iff.mp e).1]
    exact ⟨.ref _, rfl, fun _ _ => .fn f⟩
  | .cls c, u, e => by
    cases u <;> first | cases e | skip
    rename_i a
    unfold gvB at e
    rw [of_decide_eq_true e]
    exact ⟨.ref _, rfl, fun _ _ => .cls c⟩
  | .tup ds, u, e => by
    cases u <;> first | cases e | skip
    rename_i a
    unfold gvB at e
    split at e
    · rename_i c od its n osl hlk
      simp only [Bool.and_eq_true, decide_eq_true_eq] at e
      obtain ⟨h1, h2, h3⟩ := e
      obtain ⟨vs, r1, r2⟩ := gvsB_ok h3
      exact ⟨.ref a, rfl, fun B ρ => .tup (.inr (.inr ⟨_, its, n, hlk, congrArg Value.type h1, rfl, h2, r1⟩)) (r2 B ρ)⟩
    · cases e
  | .lst _, u, e => by cases u <;> cases e
  | .scr _, u, e => by cases u <;> cases e
  | .ins _ _, u, e => by cases u <;> cases e
  | .dct _, u, e => by cases u <;> cases e
  | .ty _, u, e => by cases u <;> cases e
  | .loc _, u, e => by cases u <;> cases e
theorem gvsB_ok {h : Hd} {K : PySem.W.Frag} : ∀ {ds : List D} {us : List Value}, gvsB h K ds us = true → ∃ vs, Vals vs us ∧ ∀ B ρ, Reps K (h.G K w0) B ρ vs ds
  | [], [], _ => ⟨[], .nil, fun _ _ => .nil⟩
  | [], _ :: _, e => by cases e
  | _ :: _, [], e => by cases e
  | d :: ds, u :: us, e => by
    unfold gvsB at e
    simp only [Bool.and_eq_true] at e
    obtain ⟨v, h1, h2⟩ := gvB_ok e.1
    obtain ⟨vs, h3, h4⟩ := gvsB_ok e.2
    exact ⟨v :: vs, .cons h1 h3, fun B ρ => .cons (h2 B ρ) (h4 B ρ)⟩
end
def gB (h : Hd) (K : PySem.W.Frag) (x : Str) (d : D) : Bool := match PySem.W.nsIn K mainGlobals x with
  | some (some u) => gvB h K d u
  | _ => false
/-- the class's object: over ValueError by own classes -/
def oexB (K : PySem.W.Frag) (C : Addr) : Bool := (match K.lookup C with
  | some ⟨.type "type", _, .cls cd, sl⟩ => (match cd.mro, sl.toList with
    | .ref C' :: bm, [_, _, _, _, some (.builtin n), _] => decide (C' = C) && (decide (n = "ValueError.__new__") && (!cd.hasDel && (cd.hasDict && PySem.HandSPX.refsVE bm)))
    | _, _ => false)
  | _ => false) && (He.eqO (PySem.W.findIn K (.ref C) "__setattr__") (some (some (.builtin "object.__setattr__"))) && (decide (PySem.W.subIn K (.ref C) (.type "BaseException") = some true) && (decide (PySem.W.typeIn K (.ref C) = some (.type "type")) && PySem.W.keepIn K (.ref C))))
theorem oexB_ok {K : PySem.W.Frag} {C : Addr} (h : oexB K C = true) : OexC K C := by
  unfold oexB at h
  simp only [Bool.and_eq_true, decide_eq_true_eq] at h
  obtain ⟨h1, h2, h3, h4, h5⟩ := h
  refine ⟨?_, He.eqO_ok h2, h3, h4, h5⟩
  split at h1
  · rename_i dd cd sl ho
    split at h1
    · rename_i C' bm k0 k1 k2 k3 n k5 hm hs
      simp only [Bool.and_eq_true, decide_eq_true_eq, Bool.not_eq_true'] at h1
      obtain ⟨rfl, rfl, hdel, hdc, hv⟩ := h1
      obtain ⟨nm, bs, mro, ns, qn, hd, sn, sub, ab, col, del⟩ := cd
      dsimp only at hm hdel hdc
      subst hm hdel hdc
      have hsl : sl = #[k0, k1, k2, k3, some (.builtin "ValueError.__new__"), k5] := by
        obtain ⟨l⟩ := sl
        simp only at hs
        rw [hs]
      subst hsl
      exact ⟨nm, qn, ns, bs, bm, sn, sub, ab, col, dd, k0, k1, k2, k3, k5, ho, hv⟩
    · cases h1
  · cases h1
/-- what stands behind B.__init__ -/
def baiB (K : PySem.W.Frag) (B : Addr) : Bool := He.eqO (PySem.W.specialIn K (.ref B) "__getattribute__") (some (some (.builtin "type.__getattribute__"))) && (PySem.W.readsIn K B (.type "type") && (match PySem.W.findCls K (.ref B) (.type "type") "__init__" with
  | some (.val (.builtin n)) => decide (n = "ValueError.__init__")
  | _ => false))
theorem baiB_ok {K : PySem.W.Frag} {B : Addr} (h : baiB K B = true) : BaI K B := by
  unfold baiB at h
  simp only [Bool.and_eq_true] at h
  obtain ⟨h1, h2, h3⟩ := h
  refine ⟨He.eqO_ok h1, h2, ?_⟩
  split at h3
  · rename_i n e; rw [e, of_decide_eq_true h3]
  · cases h3
/-- names: the parameters first -/
def fsB (N ps : List Str) (sc : Scope) : Bool := decide (sc.kind = .function) && (!sc.isCoroutine && (!sc.isGenerator && (decide N.Nodup && (decide (N.take ps.length = ps) && (ps.all (fun x => decide (sc.names.lookup x = some .local) || decide (sc.names.lookup x = some .cell)) && sc.names.all fun y => decide (y.2 ≠ .free))))))
theorem fsB_ok {N ps : List Str} {sc : Scope} (h : fsB N ps sc = true) : FnScope N ps sc := by
  unfold fsB at h
  simp only [Bool.and_eq_true, decide_eq_true_eq, Bool.not_eq_true'] at h
  obtain ⟨b1, b2, b3, b4, b5, b6, b7⟩ := h
  exact ⟨b1, b2, b3, b4, b5, fun x hx => by simpa using List.all_eq_true.mp b6 x hx, fun y hy => of_decide_eq_true (List.all_eq_true.mp b7 y hy)⟩
/-- an own exception that is raised -/
def exiB (h : Hd) (K : PySem.W.Frag) (c : Nat) (x : Str) (ns : List Nat) : Bool := (match h.xi.find? (fun q => decide (q.1 = c)) with
  | some (_, f, b) => (match h.fn[f]? with
    | some d => (match d.params.args.map (·.arg) with
      | self :: fs => decide (d.at_ = (x, some ("__init__" : Str))) && (decide (fs = ns.map (nmOf h.k)) && (d.dfl.isEmpty && (d.kwd.isEmpty && (plainA d.params && (fsB (self :: fs) (self :: fs) d.scope && (decide (self :: fs).Nodup && (iniB b self fs d.body &&
          (decide (d.scope.names.lookup b = some .globalImplicit) && (okN b && ((self :: fs).all okN && ((He.Fa.glo b).ok K && (baiB K (He.ga K b) && (He.eqO (PySem.W.findIn K (.ref (He.ga K x)) "__init__") (some (some (.ref (He.fAd K d.at_)))) &&
          decide (PySem.W.typeIn K (.ref (He.fAd K d.at_)) = some (.type "function")))))))))))))))
      | [] => false)
    | none => false)
  | none => false) && (oexB K (He.ga K x) && (xfB K (He.ga K x) && (!ns.isEmpty && (decide (ns.length < 100) && (decide ns.Nodup && (decide (ns.map (nmOf h.k)).Nodup && ns.all fun i => He.eqO (PySem.W.findIn K (.ref (He.ga K x)) (nmOf h.k i)) (some none)))))))
def clB (h : Hd) (K : PySem.W.Frag) (c : Nat) (x : Str) (i : ClI) : Bool := match i.exf with
  | none => (He.Fa.cls x).ok K && ((i.flds.all fun f => (He.Fa.noat x (nmOf h.k f)).ok K) &&
      ((i.mths.all fun q => (He.Fa.meth x (nmOf h.k q.1)).ok K && decide (He.ma K (He.ga K x) (nmOf h.k q.1) = h.at_ K q.2)) &&
      (match i.ini with
        | some f => (He.Fa.mkr x).ok K && decide (He.ma K (He.ga K x) "__init__" = h.at_ K f)
        | none => true)))
  | some ns => i.flds.isEmpty && (i.mths.isEmpty && (i.ini.isNone && (!i.rs || exiB h K c x ns)))
def clsB (h : Hd) (K : PySem.W.Frag) : Nat → List Str → List ClI → Bool
  | _, [], [] => true
  | c, x :: xs, i :: is => clB h K c x i && clsB h K (c + 1) xs is
  | _, _, _ => false
/-- the table of the modules is a dict -/
def modsB (K : PySem.W.Frag) : Bool := match K.lookup sysModules with
  | some ⟨_, _, .dict _ _, _⟩ => true
  | _ => false
/-- which exceptions the clauses take -/
def exmB (h : Hd) (K : PySem.W.Frag) : Bool := h.k.P.cls.zipIdx.all fun p => !p.1.rs || h.k.P.cls.zipIdx.all fun q => !q.1.leaf || decide (PySem.W.exmOne K (.ref (h.ca K p.2)) (.ref (h.ca K q.2)) = some (decide (q.2 = p.2)))
/-- what isinstance asks of the own classes -/
def isaC (K : PySem.W.Frag) (C : Addr) : Bool := He.eqO (PySem.W.findIn K (.ref C) "__class__") (some (some (.builtin "object.__class__"))) && (He.eqO (PySem.W.specialIn K (.builtin "object.__class__") "__get__") (some (some (.builtin "getset_descriptor.__get__"))) &&
  (decide (PySem.W.takesIn K (.builtin "object.__class__") = some true) && decide (PySem.W.mroIn K C (.type "object") = some true)))
theorem isaC_ok {K : PySem.W.Frag} {C : Addr} (h : isaC K C = true) : IsaC K C := by
  unfold isaC at h
  simp only [Bool.and_eq_true, decide_eq_true_eq] at h
  obtain ⟨h1, h2, h3, h4⟩ := h
  exact ⟨He.eqO_ok h1, He.eqO_ok h2, h3, h4⟩
def isaB (h : Hd) (K : PySem.W.Frag) : Bool := h.k.P.cls.zipIdx.all fun p => p.1.exf.isSome || (isaC K (h.ca K p.2) && (tyNames.all (fun t => decide (PySem.W.kitOne K (.type t) (.ref (h.ca K p.2)) = some false)) &&
  h.k.P.cls.zipIdx.all fun q => q.1.exf.isSome || decide (PySem.W.kitOne K (.ref (h.ca K q.2)) (.ref (h.ca K p.2)) = some (decide (q.2 = p.2)))))
/-- all that is asked of the part of the heap -/
def Hd.chk (h : Hd) (K : PySem.W.Frag) : Bool := (isaB h K && exmB h K && (decide (((h.tb K).map (·.1)).Nodup) && h.fn.all fun d => d.dfl.isEmpty)) && ((h.k.gn.zip h.k.P.glb).all fun q => gB h K q.1 q.2) && ((bnames.all fun x => (He.Fa.free x).ok K) && (clsB h K 0 h.cl h.k.P.cls && ((h.fn.all fun d => d.at_.2.isSome || (He.Fa.glo d.at_.1).ok K) && modsB K)))
/-- the text's own checks -/
def fnB (k : Ck) (d : He.DefD) (N : List Str) (i : FnI) : Bool := d.dfl.isEmpty && (d.kwd.isEmpty && (plainA d.params && (decide (d.params.args.map (·.arg)).Nodup &&
  (decide (d.scope.kind = .function) && (!d.scope.isCoroutine && (!d.scope.isGenerator && (decide N.Nodup && (decide (N.take (d.params.args.map (·.arg)).length = d.params.args.map (·.arg)) &&
  ((d.params.args.map (·.arg)).all (fun x => decide (d.scope.names.lookup x = some .local) || decide (d.scope.names.lookup x = some .cell)) && (d.scope.names.all (fun y => decide (y.2 ≠ .free)) &&
  (decide (N.length = i.ns) && (decide ((d.params.args.map (·.arg)).length = i.np) && chkB k i.body ⟨d.scope, N, true, i.tbl⟩ d.body))))))))))))
def fnsB (k : Ck) : List He.DefD → List (List Str) → List FnI → Bool
  | [], [], [] => true
  | d :: ds, N :: Ns, i :: is => (!i.ok || fnB k d N i) && fnsB k ds Ns is
  | _, _, _ => false
def smallB (x : Str) : Bool := match x.cps.toList with
  | [c] => decide (c < 2000000)
  | _ => true
/-- a def that gets a lambda -/
def whyN (h : Hd) (W : WhyI) (x : Str) : Bool := (h.k.gn.zip h.k.P.glb).all fun q => match q.2 with
  | .fn g => !decide (g = W.f) || decide (q.1 = x)
  | _ => true
def whyT (h : Hd) (W : WhyI) : Bool := match h.fn[W.f]?, h.ns[W.f]? with
  | some d, some N => (match d.params.args.map (·.arg) with
    | [a] => decide (d.at_ = (d.name, none)) && (decide (d.qual = d.name) && (d.dfl.isEmpty && (d.kwd.isEmpty && (plainA d.params && (fsB N [a] d.scope && (okName a && (decide (W.ex < N.length) && (decide (W.ex ≠ 0) && (whyB h.k W N d.scope a d.body && whyN h W d.name)))))))))
    | _ => false)
  | _, _ => false
def Hd.txt (h : Hd) : Bool := fnsB h.k h.fn h.ns h.k.P.fns && (decide h.k.nm.Nodup && (h.k.nm.all smallB && h.k.P.whys.all (whyT h)))

theorem fnsB_at {k : Ck} : ∀ {ds : List He.DefD} {Ns : List (List Str)} {is : List FnI}, fnsB k ds Ns is = true → ∀ {f : Nat} {i : FnI}, is[f]? = some i → ∃ d N, ds[f]? = some d ∧ Ns[f]? = some N ∧ (!i.ok || fnB k d N i) = true
  | [], [], [], _, f, i, e => by simp at e
  | d :: ds, N :: Ns, j :: is, h, f, i, e => by
    unfold fnsB at h
    rw [Bool.and_eq_true] at h
    cases f with
    | zero => simp at e; subst e; exact ⟨d, N, rfl, rfl, h.1⟩
    | succ f => exact fnsB_at h.2 (f := f) (by simpa using e)
  | [], [], _ :: _, h, _, _, _ => by cases h
  | [], _ :: _, _, h, _, _, _ => by cases h
  | _ :: _, [], _, h, _, _, _ => by cases h
  | _ :: _, _ :: _, [], h, _, _, _ => by cases h
theorem clsB_at {h : Hd} {K : PySem.W.Frag} : ∀ {n : Nat} {xs : List Str} {is : List ClI}, clsB h K n xs is = true → ∀ {c : Nat} {i : ClI}, is[c]? = some i → ∃ x, xs[c]? = some x ∧ ∃ m, clB h K m x i = true
  | _, [], [], _, c, i, e => by simp at e
  | n, x :: xs, j :: is, q, c, i, e => by
    unfold clsB at q
    rw [Bool.and_eq_true] at q
    cases c with
    | zero => simp at e; subst e; exact ⟨x, rfl, _, q.1⟩
    | succ c => exact clsB_at q.2 (c := c) (by simpa using e)
  | _, [], _ :: _, q, _, _, _ => by cases q
  | _, _ :: _, [], q, _, _, _ => by cases q
theorem nmOf_inj {k : Ck} (h1 : k.nm.Nodup) (h2 : k.nm.all smallB = true) : ∀ i j, nmOf k i = nmOf k j → i = j := by
  have big : ∀ i j, i < k.nm.length → ¬ j < k.nm.length → nmOf k i = nmOf k j → False := fun i j hi hj e => by
    unfold nmOf at e
    rw [List.getElem?_eq_getElem hi, List.getElem?_eq_none (by omega)] at e
    have := List.all_eq_true.mp h2 _ (List.getElem_mem hi)
    simp only [Option.getD_some, Option.getD_none] at e
    rw [e] at this
    unfold smallB at this
    simp at this
    omega
  intro i j e
  by_cases hi : i < k.nm.length
  · by_cases hj : j < k.nm.length
    · unfold nmOf at e
      rw [List.getElem?_eq_getElem hi, List.getElem?_eq_getElem hj] at e
      exact (List.getElem_inj h1).mp e
    · exact (big i j hi hj e).elim
  · by_cases hj : j < k.nm.length
    · exact (big j i hj hi e.symm).elim
    · unfold nmOf at e
      rw [List.getElem?_eq_none (by omega), List.getElem?_eq_none (by omega)] at e
      simp only [Option.getD_none] at e
      have := congrArg (fun x : Str => x.cps.toList) e
      simp at this
      exact this
/-! ### the Hook -/
def Hd.obs (h : Hd) (K : PySem.W.Frag) : He.AlD := (h.chk K && h.fn.all fun d => d.ok K, h.fn.map fun d => He.fnW K d.at_)
def Hd.says (h : Hd) (K : PySem.W.Frag) : Prop := h.obs K = He.valD h.fn
/-- the tables of those that make lambdas: empty, and not in K -/
structure Hd.tabs (h : Hd) (K : PySem.W.Frag) (hp : Heap) : Prop where
  hd : ∀ d ∈ h.tf, PySem.W.codeHdIn K (He.cT K d.at_).1 (He.cT K d.at_).2 = true
  out : ∀ d ∈ h.tf, K.lookup (He.cT K d.at_).2 = none
  empty : ∀ d ∈ h.tf, hp.get? (He.cT K d.at_).2 = some { cls := .none, data := .fields #[] }
def Hd.frag (_h : Hd) (n : Nat) (g : Addr → Option Obj) : PySem.W.Frag := He.frT g (sysModules :: cStatics :: He.asD g n)
def Hd.obsG (h : Hd) (n : Nat) (g : Addr → Option Obj) : He.AlD × Bool := (h.obs (h.frag n g), He.tabsB g (h.tf.map (·.at_)) (h.frag n g))
theorem Hd.tabs_of {h : Hd} {n : Nat} {hp : Heap} (e : He.tabsB hp.get? (h.tf.map (·.at_)) (h.frag n hp.get?) = true) : h.tabs (h.frag n hp.get?) hp := by
  have key : ∀ d ∈ h.tf, PySem.W.codeHdIn (h.frag n hp.get?) (He.cT (h.frag n hp.get?) d.at_).1 (He.cT (h.frag n hp.get?) d.at_).2 = true ∧ ∃ o, hp.get? (He.cT (h.frag n hp.get?) d.at_).2 = some o ∧ He.emptyTab o = true := fun d hd => by
    have := List.all_eq_true.mp e d.at_ (List.mem_map.mpr ⟨d, hd, rfl⟩)
    simp only [Bool.and_eq_true] at this
    refine ⟨this.1, ?_⟩
    have h2 := this.2
    split at h2
    · rename_i o ho; exact ⟨o, ho, h2⟩
    · cases h2
  exact ⟨fun d hd => (key d hd).1, fun d hd => let ⟨_, o, q, z⟩ := key d hd; He.frT_none q z, fun d hd => by
    obtain ⟨_, o, q, z⟩ := key d hd
    rw [q, He.emptyTab_eq z]⟩
def Hd.hook (h : Hd) (n : Nat) : PySem.W.Hook where
  α := He.AlD × Bool
  obs := fun s => h.obsG n s.heap.get?
  val := fun _ => (He.valD h.fn, true)
  says := fun _ hp => ∃ K : PySem.W.Frag, K.In hp ∧ h.says K ∧ h.tabs K hp
  of := fun _ _ e => ⟨_, He.frT_in, congrArg (fun z : He.AlD × Bool => z.1) e, Hd.tabs_of (congrArg (fun z : He.AlD × Bool => z.2) e)⟩
  keeps := fun _ _ _ ⟨K, hK, c, t⟩ k => ⟨K, PySem.W.Frag.In.keeps hK k, c, ⟨t.hd, t.out, fun d hd => k _ _ (t.empty d hd)⟩⟩
theorem Hd.obsG_eq {h : Hd} {n : Nat} {g : Addr → Option Obj} {s : Shared} (e : ∀ a, g a = s.heap.get? a) : h.obsG n g = (h.hook n).obs s := by
  have e : g = s.heap.get? := funext e
  rw [e] <;> rfl
theorem Hd.says.chk {h : Hd} {K : PySem.W.Frag} (c : h.says K) : h.chk K = true := (Bool.and_eq_true_iff.mp (show (h.chk K && h.fn.all fun d => d.ok K) = true from congrArg (fun z : He.AlD => z.1) c)).1
theorem Hd.says.def_ {h : Hd} {K : PySem.W.Frag} (c : h.says K) {f : Nat} {d : He.DefD} (e : h.fn[f]? = some d) : ∃ fd, FunD K d.name d.qual d.params d.body d.scope (d.dvs K) (d.kws K) (He.fAd K d.at_) fd := by
  have c2 := (Bool.and_eq_true_iff.mp (show (h.chk K && h.fn.all fun d => d.ok K) = true from congrArg (fun z : He.AlD => z.1) c)).2
  have e1 : h.fn.map (fun d => He.fnW K d.at_) = h.fn.map He.DefD.val := congrArg (fun z : He.AlD => z.2) c
  have e2 : (h.fn.map fun d => He.fnW K d.at_)[f]? = (h.fn.map He.DefD.val)[f]? := by rw [e1]
  rw [List.getElem?_map, List.getElem?_map, e] at e2
  exact He.DefD.funD (Option.some.inj e2) (List.all_eq_true.mp c2 d (List.mem_of_getElem? e))
theorem Hd.df {h : Hd} {K : PySem.W.Frag} (c : h.says K) (t : h.txt = true) (f : Nat) (i : FnI) (hf : h.k.P.fns[f]? = some i) (hok : i.ok = true) : Df h.k K (h.G K w0) (h.cs K) f i := by
  have ck := c.chk
  unfold Hd.chk at ck
  simp only [Bool.and_eq_true, decide_eq_true_eq] at ck
  have ndt := ck.1.1.2.1
  unfold Hd.txt at t
  simp only [Bool.and_eq_true] at t
  obtain ⟨d, N, hd, hN, hb⟩ := fnsB_at t.1 hf
  rw [hok] at hb
  have hb : fnB h.k d N i = true := by simpa using hb
  unfold fnB at hb
  simp only [Bool.and_eq_true, decide_eq_true_eq, Bool.not_eq_true', List.isEmpty_iff] at hb
  obtain ⟨b1, b2, b3, b4, b5, b6, b7, b8, b9, b10, b11, b12, b13, b14⟩ := hb
  obtain ⟨fd, F⟩ := c.def_ hd
  have e1 : d.dvs K = [] := by unfold He.DefD.dvs; rw [b1]; rfl
  rw [e1] at F
  have hBn := F.bindsN (ps := d.params.args.map (·.arg)) fun kV doc pm an cdv ct us hl => bind_plain b3 b4 kV doc pm an cdv ct us hl
  obtain ⟨oc, od, dV, kV, doc, pm, an, cdv, ct, osl, rfl, lk, hcd, _, _⟩ := F.ex
  have ea : (h.G K w0).fn f = He.fAd K d.at_ := by
    show h.at_ K f = _
    unfold Hd.at_
    rw [hd]
  refine ⟨d.name, d.qual, d.params, d.body, d.scope, dV, kV, doc, pm, cdv, ct, oc, an, od, osl, N, d.params.args.map (·.arg), by rw [ea]; exact lk, hcd, ⟨b5, b6, b7, b8, b9, fun x hx => ?_, fun y hy => ?_⟩, hBn, b12, b13, b14, fun ht => ?_⟩
  · have := List.all_eq_true.mp b10 x hx
    simpa using this
  · exact of_decide_eq_true (List.all_eq_true.mp b11 y hy)
  · obtain ⟨cc, rfl⟩ := He.codeIn_ref hcd
    have ec : He.codeOf K d.at_ = cc := He.codeOf_eq lk rfl
    have mem : d ∈ h.tf := by
      unfold Hd.tf
      refine List.mem_map.mpr ⟨(d, i), List.mem_filter.mpr ⟨?_, ht⟩, rfl⟩
      refine List.mem_of_getElem? (i := f) ?_
      rw [List.getElem?_zip_eq_some]
      exact ⟨hd, hf⟩
    have mt : ((He.cT K d.at_).2, lamQ d.qual d.scope) ∈ (h.G K w0).tb := List.mem_map.mpr ⟨d, mem, rfl⟩
    refine ⟨cc, (He.cT K d.at_).2, rfl, List.mem_map.mpr ⟨d, mem, ?_⟩, mt, fun p hp e => ?_⟩
    · show (He.codeOf K d.at_, He.tabOf K (He.codeOf K d.at_)) = _
      rw [ec]; unfold He.cT; rw [ec]
    · have : ∀ {l : List (Addr × Str)} {p q : Addr × Str}, (l.map (·.1)).Nodup → p ∈ l → q ∈ l → p.1 = q.1 → p = q := by
        intro l
        induction l with
        | nil => intro p q _ hp; cases hp
        | cons r l ih =>
          intro p q nd hp hq e
          simp only [List.map_cons, List.nodup_cons] at nd
          rcases List.mem_cons.mp hp with e1 | hp <;> rcases List.mem_cons.mp hq with e2 | hq
          · rw [e1, e2]
          · exact absurd (List.mem_map.mpr ⟨q, hq, by rw [← e, e1]⟩) nd.1
          · exact absurd (List.mem_map.mpr ⟨p, hp, by rw [e, e2]⟩) nd.1
          · exact ih nd.2 hp hq e
      rw [this ndt hp mt e]
theorem exiB_ok {h : Hd} {K : PySem.W.Frag} {mg : Str → Option Value} {hp : Heap} (c : h.says K) (X : K.In hp) (N : hp.Ns mainGlobals mg) {cn : Nat} {x : Str} {ns : List Nat} (e : exiB h K cn x ns = true) : ns.Nodup ∧ ExI K mg (He.ga K x) (ns.map (nmOf h.k)) := by
  unfold exiB at e
  simp only [Bool.and_eq_true, decide_eq_true_eq] at e
  obtain ⟨e1, e2, e3, e4, e5, e6, e7, e8⟩ := e
  split at e1
  · rename_i f b hx
    split at e1
    · rename_i d hd
      split at e1
      · rename_i self fs ha
        simp only [Bool.and_eq_true, decide_eq_true_eq, List.isEmpty_iff] at e1
        obtain ⟨f1, f2, f3, f4, f5, f6, f7, f8, f9, f10, f11, f12, f13, f14, f15⟩ := e1
        subst f2
        obtain ⟨fd, F⟩ := c.def_ hd
        have ed : d.dvs K = [] := by unfold He.DefD.dvs; rw [f3]; rfl
        rw [ed] at F
        have hBn := F.bindsN (ps := d.params.args.map (·.arg)) fun kV doc pm an cdv ct us hl => bind_plain f5 (by rw [ha]; exact f7) kV doc pm an cdv ct us hl
        rw [ha] at hBn
        obtain ⟨oc, od, dV, kV, doc, pm, an, cdv, ct, osl, rfl, lk, hcd, _, _⟩ := F.ex
        refine ⟨e6, oexB_ok e2, xfB_ok e3, ?_, by rw [List.length_map]; exact e5, e7, fun g hg => ?_, He.fAd K d.at_, He.ga K b, b, self, d.name, d.qual, d.params, d.body, d.scope, dV, kV, doc, pm, cdv, ct, oc, an, od, osl, He.eqO_ok f14, f15, lk, hcd, fsB_ok f6, hBn, f8, He.glo_ok X N f12, baiB_ok f13, f9, f10, f11⟩
        · intro z
          rw [List.map_eq_nil_iff] at z
          rw [z] at e4; simp at e4
        · obtain ⟨i, hi, rfl⟩ := List.mem_map.mp hg
          exact He.eqO_ok (List.all_eq_true.mp e8 i hi)
      · cases e1
    · cases e1
  · cases e1
theorem whyT_ok {h : Hd} {K : PySem.W.Frag} (c : h.says K) {W : WhyI} (e : whyT h W = true) : WhyW h.k K (h.G K w0) W := by
  unfold whyT at e
  split at e
  · rename_i d N hd hN
    split at e
    · rename_i a ha
      simp only [Bool.and_eq_true, decide_eq_true_eq, List.isEmpty_iff] at e
      obtain ⟨f1, f2, f3, f4, f5, f6, f7, f8, f9, f10, f11⟩ := e
      obtain ⟨fd, F⟩ := c.def_ hd
      have ed : d.dvs K = [] := by unfold He.DefD.dvs; rw [f3]; rfl
      rw [ed] at F
      have hBn := F.bindsN (ps := d.params.args.map (·.arg)) fun kV doc pm an cdv ct us hl => bind_plain f5 (by rw [ha]; simp) kV doc pm an cdv ct us hl
      rw [ha] at hBn
      obtain ⟨oc, od, dV, kV, doc, pm, an, cdv, ct, osl, rfl, lk, hcd, _, _⟩ := F.ex
      have ea : (h.G K w0).fn W.f = He.fAd K d.at_ := by
        show h.at_ K W.f = _
        unfold Hd.at_
        rw [hd]
      rw [f2] at lk hcd hBn
      refine ⟨d.name, a, d.params, d.body, d.scope, dV, kV, doc, pm, cdv, ct, oc, an, od, osl, N, by rw [ea]; exact lk, hcd, hBn, fsB_ok f6, f7, f8, f9, f10, fun y hy => ?_⟩
      unfold fnAt at hy
      rw [List.any_eq_true] at hy
      obtain ⟨q, hq, h1⟩ := hy
      simp only [Bool.and_eq_true, decide_eq_true_eq] at h1
      obtain ⟨rfl, h2⟩ := h1
      have := List.all_eq_true.mp f11 q hq
      split at h2
      · rename_i g hg
        rw [hg] at this
        have e3 := of_decide_eq_true h2
        subst e3
        simpa using this
      · cases h2
    · cases e
  · cases e
theorem zip_at {α β : Type} : ∀ {xs : List α} {ys : List β} {i : Nat} {x : α} {y : β}, xs[i]? = some x → ys[i]? = some y → (x, y) ∈ xs.zip ys
  | [], _, i, x, y, e, _ => by simp at e
  | _ :: _, [], i, x, y, _, e => by simp at e
  | a :: xs, b :: ys, 0, x, y, e, e' => by simp at e e'; subst e e'; simp
  | a :: xs, b :: ys, i + 1, x, y, e, e' => by
    rw [List.zip_cons_cons]
    exact List.mem_cons_of_mem _ (zip_at (i := i) (by simpa using e) (by simpa using e'))
theorem Hd.wx {h : Hd} {K : PySem.W.Frag} {hp : Heap} {mg : Str → Option Value} (c : h.says K) (t : h.txt = true) (X : K.In hp) (N : hp.Ns mainGlobals mg) : Wx h.k K mg (h.G K w0) (h.cs K) := by
  have ck := c.chk
  unfold Hd.chk at ck
  simp only [Bool.and_eq_true] at ck
  obtain ⟨⟨⟨⟨ci, c0⟩, _, _⟩, c1⟩, c2, c3, c4, c5⟩ := ck
  have tt := t
  unfold Hd.txt at tt
  simp only [Bool.and_eq_true, decide_eq_true_eq] at tt
  obtain ⟨t1, t2, t3, t4⟩ := tt
  have glo : ∀ q ∈ h.k.gn.zip h.k.P.glb, ∃ u v, mg q.1 = some u ∧ gvB h K q.2 u = true ∧ RelV v u ∧ ∀ B ρ, Rep K (h.G K w0) B ρ v q.2 := fun q hq => by
    have := List.all_eq_true.mp c1 q hq
    unfold gB at this
    split at this
    · rename_i u hu
      obtain ⟨v, h1, h2⟩ := gvB_ok this
      exact ⟨u, v, PySem.W.mg_of X N hu, this, h1, h2⟩
    · cases this
  have kp : ∀ (f : Nat) (d : He.DefD), h.fn[f]? = some d → PySem.W.keepIn K (.ref (h.at_ K f)) = true := fun f d e => by
    obtain ⟨fd, F⟩ := c.def_ e
    have := F.kp
    unfold Hd.at_
    rw [e]
    exact this
  have clv : ∀ (a : Nat) (i : ClI), h.k.P.cls[a]? = some i → ∃ x m, h.ca K a = He.ga K x ∧ clB h K m x i = true := fun a i e => by
    obtain ⟨x, h1, m, h2⟩ := clsB_at c3 e
    refine ⟨x, m, ?_, h2⟩
    unfold Hd.ca
    rw [h1]
  have full : ∀ (a : Nat) (i : ClI), h.k.P.cls[a]? = some i → i.exf = none → ∃ x, h.ca K a = He.ga K x ∧ (He.Fa.cls x).ok K = true ∧ (∀ f ∈ i.flds, (He.Fa.noat x (nmOf h.k f)).ok K = true) ∧
      (∀ q ∈ i.mths, (He.Fa.meth x (nmOf h.k q.1)).ok K = true ∧ He.ma K (He.ga K x) (nmOf h.k q.1) = h.at_ K q.2) ∧
      (∀ f, i.ini = some f → (He.Fa.mkr x).ok K = true ∧ He.ma K (He.ga K x) "__init__" = h.at_ K f) := fun a i e e0 => by
    obtain ⟨x, m, h1, h2⟩ := clv a i e
    unfold clB at h2
    rw [e0] at h2
    simp only [Bool.and_eq_true] at h2
    obtain ⟨g1, g2, g3, g4⟩ := h2
    refine ⟨x, h1, g1, fun f hf => List.all_eq_true.mp g2 f hf, fun q hq => ?_, fun f hf => ?_⟩
    · have := List.all_eq_true.mp g3 q hq
      simpa using this
    · rw [hf] at g4
      simpa using g4
  have lookMem : ∀ (m : Nat) (l : List (Nat × Nat)) (f : Nat), lookN m l = some f → (m, f) ∈ l := fun m l f e => by
    induction l with
    | nil => cases e
    | cons q r ih =>
      obtain ⟨a, b⟩ := q
      unfold lookN at e
      split at e
      · rename_i hd
        have := of_decide_eq_true hd
        subst this
        cases e
        exact List.mem_cons_self ..
      · exact List.mem_cons_of_mem _ (ih e)
  refine ⟨⟨nmOf_inj t2 t3, fun a i e => ?_, fun f hf => ?_, fun a i e e0 => ?_, fun a i f e e0 hi => ?_, fun a i f e e0 hf => ?_, fun a i m f e e0 hm => ?_, fun a b i j e r e' l => ?_, fun a i e e0 => ?_, fun a b i j e e0 e' e0' => ?_, fun a i t e e0 ht => ?_, fun a i ns e e0 r => ?_⟩, fun _ => rfl, fun g d x e1 e2 => ?_, fun x hx => ?_, fun f x hf => ?_, fun f x hf => ?_, fun f i hf hok => Hd.df c t f i hf hok, fun w W e => whyT_ok c (List.all_eq_true.mp t4 W (List.mem_of_getElem? e))⟩
  · cases e0 : i.exf with
    | none => exact .inl rfl
    | some _ =>
      obtain ⟨x, m, h1, h2⟩ := clv a i e
      unfold clB at h2
      rw [e0] at h2
      simp only [Bool.and_eq_true, List.isEmpty_iff, Option.isNone_iff_eq_none] at h2
      exact .inr ⟨h2.1, h2.2.1, h2.2.2.1⟩
  · obtain ⟨d, N, h1, _, _⟩ := fnsB_at t1 (List.getElem?_eq_getElem hf)
    exact kp f d h1
  · obtain ⟨x, h1, h2, _⟩ := full a i e e0
    show Cls K (h.ca K a)
    rw [h1]
    exact He.cls_ok h2
  · obtain ⟨x, h1, _, _, _, h5⟩ := full a i e e0
    show Mk K (h.ca K a) (h.at_ K f)
    rw [h1, ← (h5 f hi).2]
    exact He.mkr_ok (h5 f hi).1
  · obtain ⟨x, h1, _, h3, _⟩ := full a i e e0
    show NoAttr K (h.ca K a) (nmOf h.k f)
    rw [h1]
    exact He.noat_ok (h3 f hf)
  · obtain ⟨x, h1, _, _, h4, _⟩ := full a i e e0
    have := h4 _ (lookMem m i.mths f hm)
    show Meth K (h.ca K a) (nmOf h.k m) (h.at_ K f)
    rw [h1, ← this.2]
    exact He.meth_ok this.1
  · have z : ∀ {l : List ClI} {i : Nat} {k : ClI}, l[i]? = some k → (k, i) ∈ l.zipIdx := fun {l i k} e => List.mem_iff_getElem?.mpr ⟨i, by rw [List.getElem?_zipIdx, e]; simp⟩
    have h1 := List.all_eq_true.mp c0 _ (z e)
    simp only [r, Bool.not_true, Bool.false_or] at h1
    have h2 := List.all_eq_true.mp h1 _ (z e')
    simp only [l, Bool.not_true, Bool.false_or] at h2
    exact of_decide_eq_true h2
  · have z : ∀ {l : List ClI} {i : Nat} {k : ClI}, l[i]? = some k → (k, i) ∈ l.zipIdx := fun {l i k} e => List.mem_iff_getElem?.mpr ⟨i, by rw [List.getElem?_zipIdx, e]; simp⟩
    have h1 := List.all_eq_true.mp ci _ (z e)
    simp only [e0, Option.isSome_none, Bool.false_or, Bool.and_eq_true] at h1
    exact isaC_ok h1.1
  · have z : ∀ {l : List ClI} {i : Nat} {k : ClI}, l[i]? = some k → (k, i) ∈ l.zipIdx := fun {l i k} e => List.mem_iff_getElem?.mpr ⟨i, by rw [List.getElem?_zipIdx, e]; simp⟩
    have h1 := List.all_eq_true.mp ci _ (z e)
    simp only [e0, Option.isSome_none, Bool.false_or, Bool.and_eq_true] at h1
    have h2 := List.all_eq_true.mp h1.2.2 _ (z e')
    simp only [e0', Option.isSome_none, Bool.false_or] at h2
    exact of_decide_eq_true h2
  · have z : ∀ {l : List ClI} {i : Nat} {k : ClI}, l[i]? = some k → (k, i) ∈ l.zipIdx := fun {l i k} e => List.mem_iff_getElem?.mpr ⟨i, by rw [List.getElem?_zipIdx, e]; simp⟩
    have h1 := List.all_eq_true.mp ci _ (z e)
    simp only [e0, Option.isSome_none, Bool.false_or, Bool.and_eq_true] at h1
    exact of_decide_eq_true (List.all_eq_true.mp h1.2.1 _ ht)
  · obtain ⟨x, m, h1, h2⟩ := clv a i e
    unfold clB at h2
    rw [e0] at h2
    simp only [Bool.and_eq_true, r, Bool.not_true, Bool.false_or] at h2
    show ns.Nodup ∧ ExI K mg (h.ca K a) (ns.map (nmOf h.k))
    rw [h1]
    exact exiB_ok c X N h2.2.2.2
  · obtain ⟨u, v, h1, _, h2, h3⟩ := glo _ (zip_at e2 e1)
    exact ⟨u, v, h1, h2, h3⟩
  · exact He.free_ok X N (List.all_eq_true.mp c2 x hx)
  · unfold fnAt at hf
    rw [List.any_eq_true] at hf
    obtain ⟨q, hq, h1⟩ := hf
    simp only [Bool.and_eq_true, decide_eq_true_eq] at h1
    obtain ⟨rfl, h2⟩ := h1
    obtain ⟨u, v, m1, m2, m3, m4⟩ := glo q hq
    split at h2
    · rename_i g hg
      have := of_decide_eq_true h2
      subst this
      rw [hg] at m2
      cases u <;> first | (unfold gvB at m2; cases m2; done) | skip
      rename_i a
      unfold gvB at m2
      obtain ⟨ea, hl⟩ := Bool.and_eq_true_iff.mp m2
      have ea := of_decide_eq_true ea
      subst ea
      exact ⟨m1, kp g _ (List.getElem?_eq_getElem (of_decide_eq_true hl))⟩
    · cases h2
  · unfold clAt at hf
    rw [List.any_eq_true] at hf
    obtain ⟨q, hq, h1⟩ := hf
    simp only [Bool.and_eq_true, decide_eq_true_eq] at h1
    obtain ⟨rfl, h2⟩ := h1
    obtain ⟨u, v, m1, m2, m3, m4⟩ := glo q hq
    split at h2
    · rename_i g hg
      have := of_decide_eq_true h2
      subst this
      rw [hg] at m2
      cases u <;> first | (unfold gvB at m2; cases m2; done) | skip
      rename_i a
      unfold gvB at m2
      have ea := of_decide_eq_true m2
      subst ea
      exact m1
    · cases h2

/-! ### the end -/
/-- the law's own call, over the evaluator -/
theorem law_callM {h : Hd} {P : Program} {w : World} {K : PySem.W.Frag} {mg mb : Str → Option Value} {n f : Nat} {fa a : Addr} {s₁ : Shared} {vs : List Value} {ns : List Int}
    (c : h.says K) (tb : h.tabs K s₁.heap) (t : h.txt = true) (KX : K.In s₁.heap) (hns : s₁.heap.Ns mainGlobals mg) (hb : s₁.heap.Ns builtinsNs mb) (hbb : ∀ x : Str, x ≠ "__name__" → mb x = bootBuiltins x) (hlim : s₁.heap.NoLimit) (hg : s₁.gens = #[])
    (hbm : ∃ (bm : Addr) (ob : Obj), mg "__builtins__" = some (.ref bm) ∧ bm ≠ builtinsNs ∧ s₁.heap.get? bm = some ob ∧ ob.cls = .type "module" ∧ ob.dict = some builtinsNs ∧ ob.data = .plain)
    (ha : s₁.heap.get? a = some { cls := .type "list", data := .seq vs.toArray }) (hi : IntsAre vs ns) (hl : ns.length ≤ sizeLine) (hr : Room (4 * n + 1) callerA) (hsm : ∃ o es ep, s₁.heap.get? sysModules = some o ∧ o.data = .dict es ep)
    (ef : h.at_ K f = fa) (run : Mi.run h.k.P n f [.scr (ns.map .int)] [] = .ok (.bl true) []) :
    codeAny (model P w) callerA (.call (.ref fa) ⟨[.ref a], []⟩) (fun r s' => r = .ok (.ret (.bool true)) ∧ OldK s₁.heap s'.heap ∧ s'.os = s₁.os ∧ AllBare s'.gens) s₁ := by
  have rv := vals_ints hi
  have lenV := hi.length
  -- the tables
  have tabO : ∀ b, b ∈ (h.cs K).map (·.2) → s₁.heap.get? b = some { cls := .none, data := .fields #[] } ∧ K.lookup b = none ∧ isCodeTable s₁.heap b := fun b hb => by
    obtain ⟨p, hp, e⟩ := List.mem_map.mp hb
    obtain ⟨d, hd, e2⟩ := List.mem_map.mp hp
    have e3 : (He.cT K d.at_).2 = b := by rw [e2]; exact e
    have em := tb.empty d hd
    have ou := tb.out d hd
    have cd := PySem.W.codeHd_of_K KX (tb.hd d hd)
    rw [e3] at em ou cd
    exact ⟨em, ou, (cd.tab em).isCodeTable⟩
  have aT : a ∉ (h.cs K).map (·.2) := fun z => by
    have q := (tabO a z).1
    rw [ha] at q
    have z' : Data.seq vs.toArray _ = Data.fields #[] := congrArg Obj.data (Option.some.inj q)
    cases z'
  have core : ∀ B0 : Hp, NoTb B0 → (∀ b, B0 b = none ∨ ∃ ob xs, B0 b = some (.frz ob (.lst xs))) → SqL K B0 a (ns.map V.int) → HOk P w (fun b => if b ∈ (h.cs K).map (·.2) then some (.tbl #[]) else B0 b) s₁.heap → (∀ b, B0 b ≠ none → b = a) → (B0 a ≠ none → K.lookup a = none) →
      codeAny (model P w) callerA (.call (.ref fa) ⟨[.ref a], []⟩) (fun r s' => r = .ok (.ret (.bool true)) ∧ OldK s₁.heap s'.heap ∧ s'.os = s₁.os ∧ AllBare s'.gens) s₁ := by
    intro B0 hnt hO hS hok hA hK
    generalize hH : (fun b => if b ∈ (h.cs K).map (·.2) then some (HO.tbl #[]) else B0 b) = H at hok
    have atT : ∀ b, b ∈ (h.cs K).map (·.2) → H b = some (.tbl #[]) := fun b hb => by rw [← hH]; exact if_pos hb
    have noT : ∀ b, b ∉ (h.cs K).map (·.2) → H b = B0 b := fun b hb => by rw [← hH]; exact if_neg hb
    have subB : ∀ b o, B0 b = some o → H b = some o := fun b o e => by
      rw [noT b fun z => ?_]; exact e
      have := hA b (by rw [e]; simp)
      rw [this] at z; exact aT z
    -- what is neither the script nor a table is not tracked
    have free : ∀ {b : Addr} {o : Obj}, s₁.heap.get? b = some o → (∀ xs n, o.data ≠ .seq xs n) → o.data ≠ .fields #[] → H b = none := fun {b o} e h1 h2 => by
      by_cases hb : b ∈ (h.cs K).map (·.2)
      · have := (tabO b hb).1
        rw [e] at this; cases this
        exact absurd rfl h2
      · rw [noT b hb]
        cases q : B0 b with
        | none => rfl
        | some u =>
          have e' := hA b (by rw [q]; simp)
          rw [e', ha] at e; cases e
          exact absurd rfl (h1 _ _)
    have base_of : ∀ {b : Addr} {o : Obj}, s₁.heap.get? b = some o → H b = none → (hidT s₁.heap H).get? b = some o := fun e n => hidT_get e n
    have noD : ∀ {b : Addr} {o : Obj} {es : Array DictEntry} {ep : Nat}, s₁.heap.get? b = some o → o.data = .dict es ep → H b = none := fun {b o es ep} e d => free e (fun xs n z => by rw [d] at z; cases z) (fun z => by rw [d] at z; cases z)
    have nsK : ∀ {b : Addr} {m : Str → Option Value}, s₁.heap.Ns b m → (hidT s₁.heap H).Ns b m := fun {b m} ⟨o, es, ep, e, d, r⟩ => ⟨o, es, ep, base_of e (noD e d), d, r⟩
    have hKb : K.In (hidT s₁.heap H) := fun b o e => base_of (KX b o e) (by
      rw [noT b fun z => by rw [(tabO b z).2.1] at e; cases e]
      cases q : B0 b with
      | none => rfl
      | some u =>
        have e' := hA b (by rw [q]; simp)
        subst e'
        rw [hK (by rw [q]; simp)] at e; cases e)
    have hM : Mod K mg (hidT s₁.heap H) := ⟨hKb, nsK hns, ⟨mb, nsK hb, hbb⟩, let ⟨mc, h1, h2⟩ := hlim; ⟨mc, nsK h1, h2⟩⟩
    have e0 : Env0 P w K mg (hidT s₁.heap H) callerA [] s₁ H := ⟨rfl, hM, fun b o e => of_hidT e, Nat.le_of_eq (hidT_size _ _), trivial, fun b hb => absurd (show b ∈ ([] : List Addr) from hb) (by simp), hok, .of_eq hg⟩
    have sb : ∃ o, (hidT s₁.heap H).get? sysModules = some o := by
      obtain ⟨o, es, ep, h1, h2⟩ := hsm
      exact ⟨o, base_of h1 (noD h1 h2)⟩
    have tbs : ∀ p ∈ h.cs K, LamX.TabB (hidT s₁.heap H) mg p.1 p.2 := fun p hp => by
      have hm : p.2 ∈ (h.cs K).map (·.2) := List.mem_map.mpr ⟨p, hp, rfl⟩
      have em := (tabO _ hm).1
      obtain ⟨d, hd, ed⟩ := List.mem_map.mp hp
      have cd := PySem.W.codeHd_of_K KX (tb.hd d hd)
      rw [ed] at cd
      have ng : ∀ {b : Addr} {m : Str → Option Value}, s₁.heap.Ns b m → b ≠ p.2 := fun {b m} ⟨o, es, ep, e, d, _⟩ z => by
        rw [z, em] at e; cases e; cases d
      refine ⟨?_, ?_, ng hns⟩
      · exact PySem.W.codeHd_of_K hKb (by rw [← ed]; exact tb.hd d hd)
      · obtain ⟨bm, ob, b1, b2, b3, b4, b5, b6⟩ := hbm
        refine ⟨bm, ob, b1, b2, fun q => ?_, fun q => ?_, base_of b3 (free b3 (fun xs n z => by rw [b6] at z; cases z) fun z => by rw [b6] at z; cases z), b4, b5, b6⟩
        · obtain ⟨o, es, ep, e, hd, _⟩ := hns
          rw [q, e] at b3; cases b3
          rw [hd] at b6; cases b6
        · rw [q, em] at b3; cases b3; cases b6
    have F := fnM (prog := P) (w := w) (Hd.wx (w0 := w) c t hKb (nsK hns)) tbs sb rfl n f
    have reps : ∀ ns : List Int, Reps K (h.G K w) B0 [] (ns.map V.int) (ns.map D.int) := fun ns => by
      induction ns with
      | nil => exact .nil
      | cons i r ih => exact .cons (.int i) ih
    have sim : Sim K ((h.G K w).put fun _ => none) B0 [] [] H := ⟨subB, rfl, List.nodup_nil, (fun _ z => nomatch z), (fun l m e => by simp at e), (fun _ _ e => nomatch e), (fun q hq => by
      obtain ⟨d, hd, rfl⟩ := List.mem_map.mp hq
      exact LamX.TabS.nil (atT _ (List.mem_map.mpr ⟨_, List.mem_map.mpr ⟨d, hd, rfl⟩, rfl⟩))), hnt, fun _ _ z => nomatch z⟩
    have hs : spF h.k.P K (h.G K w) n f [.ref a] H (fun v _ => v = .bl true) (fun _ _ _ => False) :=
      ⟨fun _ => none, B0, [], [], [.scr (ns.map .int)], sim, .cons (.scr hS (reps ns)) .nil, by
        rw [run]
        exact fun u H' B' ρ' le s' r => r.bl_inv⟩
    have fe : (h.G K w).fn f = fa := ef
    have cc := F callerA [] s₁ H [.ref a] [.ref a] _ _ rfl hr e0 (.cons rfl .nil) hs
    rw [fe] at cc
    refine codeAny_mono cc fun r s' h => ?_
    cases r with
    | error e =>
      obtain ⟨_, _, _, _, _, _, _, _, _, _, _, _, h⟩ := h
      exact h.elim
    | ok fl =>
      cases fl with
      | next => exact False.elim h
      | brk => exact False.elim h
      | cont => exact False.elim h
      | ret u =>
        obtain ⟨v, H', os, bare, un, hok', r', q⟩ := h
        have q' : v = .bl true := q
        subst q'
        obtain rfl : u = Value.bool true := r'
        have kept : ∀ b o, b ∉ (Hd.cs ‹_› K).map (·.2) → s₁.heap.get? b = some o → s'.heap.get? b = some o := fun b o nb e => by
          rcases hO b with z | ⟨ob, xs, z⟩
          · exact un.keep b o e (by rw [noT b nb]; exact z) (by intro z; exact absurd (show b ∈ ([] : List Addr) from z) (by simp)) (by simp)
          · have z2 := un.frzs b ob _ (subB b _ z)
            obtain ⟨e1, _⟩ := hok b _ (subB b _ z)
            obtain ⟨e2, _⟩ := hok' b _ z2
            rw [e] at e1; cases e1
            exact e2
        have grown : ∀ b, b ∈ (Hd.cs ‹_› K).map (·.2) → ∃ more : Array Value, s'.heap.get? b = some { cls := .none, data := .fields more } := fun b hb => by
          obtain ⟨more, z⟩ := un.tbls b #[] (atT b hb)
          exact ⟨_, hok' b _ z⟩
        refine ⟨rfl, ⟨fun b o e => ?_, fun b o e => ?_⟩, os, bare⟩
        · by_cases hb : b ∈ (Hd.cs ‹_› K).map (·.2)
          · obtain ⟨more, hm⟩ := grown b hb
            obtain ⟨em, _, ct⟩ := tabO b hb
            rw [em] at e; cases e
            exact .inr (.inl ⟨ct, rfl, #[], more, rfl, by rw [Array.empty_append]; exact hm⟩)
          · exact .inl (kept b o hb e)
        · by_cases hb : b ∈ (Hd.cs ‹_› K).map (·.2)
          · obtain ⟨more, hm⟩ := grown b hb
            exact ⟨_, hm⟩
          · exact ⟨o, kept b o hb e⟩
  have tbl_ok : ∀ {B0 : Hp}, (∀ b o, B0 b = some o → ObjOk P w (fun b => if b ∈ (h.cs K).map (·.2) then some (.tbl #[]) else B0 b) s₁.heap b o) → HOk P w (fun b => if b ∈ (h.cs K).map (·.2) then some (.tbl #[]) else B0 b) s₁.heap := fun {B0} h0 b u z => by
    by_cases hb : b ∈ (h.cs K).map (·.2)
    · have z' := (if_pos hb).symm.trans z
      cases z'
      exact (tabO b hb).1
    · exact h0 b u ((if_neg hb).symm.trans z)
  cases hk : K.lookup a with
  | some o =>
    have e := KX a o hk
    rw [ha] at e
    cases e
    exact core (fun _ => none) (fun _ _ z => nomatch z) (fun _ => .inl rfl) (.inr ⟨_, vs.toArray, _, hk, rfl, rfl, rfl, by rw [List.size_toArray, lenV]; exact hl, by simpa using rv⟩) (tbl_ok fun b u z => by have z' : (none : Option HO) = some u := z; cases z') (fun b z => absurd rfl z) fun z => absurd rfl z
  | none =>
    have at_a : ∀ b u, (if b = a then some (HO.frz { cls := .type "list", data := .seq vs.toArray } (.lst (ns.map V.int))) else none) = some u → b = a ∧ u = HO.frz { cls := .type "list", data := .seq vs.toArray } (.lst (ns.map V.int)) := fun b u z => by
      by_cases hb : b = a
      · rw [if_pos hb] at z; exact ⟨hb, (Option.some.inj z).symm⟩
      · rw [if_neg hb] at z; cases z
    refine core (fun b => if b = a then some (.frz { cls := .type "list", data := .seq vs.toArray } (.lst (ns.map V.int))) else none) (fun b ps z => ?_) (fun b => ?_) (.inl (.inr ⟨{ cls := .type "list", data := .seq vs.toArray }, if_pos rfl⟩)) (tbl_ok fun b u z => ?_) (fun b z => ?_) fun _ => hk
    · cases (at_a b _ z).2
    · by_cases hb : b = a
      · exact .inr ⟨_, _, if_pos hb⟩
      · exact .inl (if_neg hb)
    · obtain ⟨rfl, rfl⟩ := at_a b u z
      exact ⟨ha, by rw [List.length_map]; exact hl, vs, _, rv, ha⟩
    · by_cases hb : b = a
      · exact hb
      · exact absurd (if_neg hb) z
/-- THE END: a law over its head -/
theorem walkM {l : PySem.W.OpenLaw} {h : Hd} {m n st f : Nat} {q : Program} {loose : List Str} {XP : (Str → Option Value) → Heap → Prop} {d : DefRec}
    (hn : l.most = some m) (hn2 : m ≤ sizeLine) (hdf : d.params.defaults = []) (hr : Room (4 * n + 1) callerA) (t : h.txt = true)
    (hf : (h.fn[f]?).map (·.at_) = some (d.name, none))
    (run : ∀ ns : List Int, ns.length ≤ m → Mi.run h.k.P n f [.scr (ns.map .int)] [] = .ok (.bl true) []) :
    PySem.W.WalkO q loose XP (h.hook st).says l.row.toRowW d [] (fun f vs => PySem.call f vs) := by
  refine Att.attach_callB hn hdf fun w s₀ s₁ mg mb fa o pm cd doc a vs ns G Y ho hd hcd hmg hobj hints hlen hbits hg => ?_
  obtain ⟨K, KX, c, tb⟩ := Y
  have ck := c.chk
  unfold Hd.chk at ck
  simp only [Bool.and_eq_true] at ck
  obtain ⟨c1, c2, c3, c4, c5⟩ := ck
  refine law_callM c tb t KX G.T.g G.T.b G.T.builtins G.T.nolimit hg G.T.bmain hobj hints (Nat.le_trans hlen hn2) hr ?_ ?_ (run ns hlen)
  · unfold modsB at c5
    split at c5
    · rename_i hl
      exact ⟨_, _, _, KX _ _ hl, rfl⟩
    · cases c5
  · obtain ⟨dd, h1, h2⟩ := Option.map_eq_some_iff.mp hf
    have h3 := List.all_eq_true.mp c4 dd (List.mem_of_getElem? h1)
    rw [h2] at h3
    have h4 : (He.Fa.glo d.name).ok K = true := by simpa using h3
    have h5 := He.glo_ok KX G.T.g h4
    rw [hmg] at h5
    cases h5
    unfold Hd.at_
    rw [h1]
    show He.fAd K dd.at_ = _
    rw [h2]
    rfl
end Mi
end
section
set_option autoImplicit false
/-! Pl: rules for the evaluator, forward -/
namespace Mi
open PySem

abbrev XP := Nat → List (Nat × D) → Sto → Prop
def wX (r : R) (Q : D → Sto → Prop) (X : XP) : Prop := match r with
  | .ok d S => Q d S
  | .ex c fs S => X c fs S
  | .bad => False
def wL (r : RL) (Q : List D → Sto → Prop) (X : XP) : Prop := match r with
  | .ok d S => Q d S
  | .ex c fs S => X c fs S
  | .bad => False
def wT (r : RT) (Q : Bool → Sto → Prop) (X : XP) : Prop := match r with
  | .ok d S => Q d S
  | .ex c fs S => X c fs S
  | .bad => False
def wI (r : RI) (Q : List D → List (Nat × List D) → Sto → Prop) (X : XP) : Prop := match r with
  | .ok d g S => Q d g S
  | .ex c fs S => X c fs S
  | .bad => False
def wR (r : RS) (Q : RS → Prop) : Prop := match r with
  | .bad => False
  | r => Q r
def wO {α : Type} (o : Option α) (Q : α → Prop) : Prop := match o with
  | some d => Q d
  | none => False
/-- no exception -/
def noX : XP := fun _ _ _ => False

section
variable {P : Pg} {F : Fo} {v : Env} {S : Sto} {Q : D → Sto → Prop} {X : XP} {QL : List D → Sto → Prop} {QT : Bool → Sto → Prop}
  {QI : List D → List (Nat × List D) → Sto → Prop} {QR : RS → Prop}

theorem wX_eq {r : R} {d : D} {S' : Sto} (e : r = .ok d S') (h : Q d S') : wX r Q X := by rw [e]; exact h
theorem wX_ex {r : R} {c : Nat} {fs : List (Nat × D)} {S' : Sto} (e : r = .ex c fs S') (h : X c fs S') : wX r Q X := by rw [e]; exact h
theorem wX_mono {r : R} {Q' : D → Sto → Prop} (h : wX r Q' noX) (k : ∀ d S', Q' d S' → Q d S') : wX r Q X := by
  cases r with
  | ok d S => exact k _ _ h
  | ex c fs S => exact h.elim
  | bad => exact h
theorem wX_get {r : R} (h : wX r Q noX) : ∃ d S', r = .ok d S' ∧ Q d S' := by
  cases r with
  | ok d S => exact ⟨d, S, rfl, h⟩
  | ex c fs S => exact h.elim
  | bad => exact h.elim
theorem wO_some {α : Type} {o : Option α} {d : α} {q : α → Prop} (e : o = some d) (h : q d) : wO o q := by rw [e]; exact h

theorem x_bind1 {r : R} {k : D → Sto → R} (h : wX r (fun d S => wX (k d S) Q X) X) : wX (bind1 r k) Q X := by cases r <;> exact h
theorem x_bindL {r : RL} {k : List D → Sto → R} (h : wL r (fun d S => wX (k d S) Q X) X) : wX (bindL r k) Q X := by cases r <;> exact h
theorem x_bindT {r : RT} {k : Bool → Sto → R} (h : wT r (fun d S => wX (k d S) Q X) X) : wX (bindT1 r k) Q X := by cases r <;> exact h
theorem x_ofO {o : Option D} (h : wO o fun d => Q d S) : wX (ofO o S) Q X := by cases o <;> exact h
theorem x_ofB {o : Option Bool} (h : wO o fun d => Q (.bl d) S) : wX (ofB o S) Q X := by cases o <;> exact h

theorem e_cst {d : D} (h : Q d S) : wX (ev P F (.cst d) v S) Q X := h
theorem e_var {i : Nat} {d : D} (e : v[i]? = some (some d)) (h : Q d S) : wX (ev P F (.var i) v S) Q X := by
  simp only [ev, e]; exact h
theorem e_glb {g : Nat} {d : D} (e : P.glb[g]? = some d) (h : Q d S) : wX (ev P F (.glb g) v S) Q X := by
  simp only [ev, e]; exact h
theorem e_bin {o : Operator} {a b : ME} (h : wX (ev P F a v S) (fun x S1 => wX (ev P F b v S1) (fun y S2 => wO (binD S2 o x y) fun d => Q d S2) X) X) :
    wX (ev P F (.bin o a b) v S) Q X := by
  simp only [ev]
  refine x_bind1 ?_
  cases h1 : ev P F a v S <;> rw [h1] at h <;> try exact h
  refine x_bind1 ?_
  rename_i x S1
  show wX (ev P F b v S1) _ X
  have h : wX (ev P F b v S1) (fun y S2 => wO (binD S2 o x y) fun d => Q d S2) X := h
  cases h2 : ev P F b v S1 <;> rw [h2] at h <;> try exact h
  exact x_ofO h
theorem e_neg {a : ME} (h : wX (ev P F a v S) (fun x S1 => wO (intOf x) fun i => Q (.int (-i)) S1) X) : wX (ev P F (.neg a) v S) Q X := by
  simp only [ev]
  refine x_bind1 ?_
  cases h1 : ev P F a v S <;> rw [h1] at h <;> try exact h
  rename_i x S1
  cases x <;> exact h
theorem e_cmp {o : CmpOp} {a b : ME} (h : wX (ev P F a v S) (fun x S1 => wX (ev P F b v S1) (fun y S2 => wO (cmpD S2 o x y) fun d => Q (.bl d) S2) X) X) :
    wX (ev P F (.cmp o a b) v S) Q X := by
  simp only [ev]
  refine x_bind1 ?_
  cases h1 : ev P F a v S <;> rw [h1] at h <;> try exact h
  refine x_bind1 ?_
  rename_i x S1
  show wX (ev P F b v S1) _ X
  have h : wX (ev P F b v S1) (fun y S2 => wO (cmpD S2 o x y) fun d => Q (.bl d) S2) X := h
  cases h2 : ev P F b v S1 <;> rw [h2] at h <;> try exact h
  exact x_ofB h
theorem e_and1 {a : ME} (h : wX (ev P F a v S) Q X) : wX (evA P F [a] v S) Q X := h
theorem e_and2 {a b : ME} {es : List ME} (h : wX (ev P F a v S) (fun x S1 => wO (tru S1 x) fun t => (t = true → wX (evA P F (b :: es) v S1) Q X) ∧ (t = false → Q x S1)) X) :
    wX (evA P F (a :: b :: es) v S) Q X := by
  simp only [evA]
  refine x_bind1 ?_
  cases h1 : ev P F a v S <;> rw [h1] at h <;> try exact h
  rename_i x S1
  have h : wO (tru S1 x) fun t => (t = true → wX (evA P F (b :: es) v S1) Q X) ∧ (t = false → Q x S1) := h
  show wX (match tru S1 x with | some true => evA P F (b :: es) v S1 | some false => .ok x S1 | none => .bad) Q X
  cases h2 : tru S1 x with
  | none => rw [h2] at h; exact h
  | some t => rw [h2] at h; cases t; exact h.2 rfl; exact h.1 rfl
theorem e_or1 {a : ME} (h : wX (ev P F a v S) Q X) : wX (evO P F [a] v S) Q X := h
theorem e_or2 {a b : ME} {es : List ME} (h : wX (ev P F a v S) (fun x S1 => wO (tru S1 x) fun t => (t = true → Q x S1) ∧ (t = false → wX (evO P F (b :: es) v S1) Q X)) X) :
    wX (evO P F (a :: b :: es) v S) Q X := by
  simp only [evO]
  refine x_bind1 ?_
  cases h1 : ev P F a v S <;> rw [h1] at h <;> try exact h
  rename_i x S1
  have h : wO (tru S1 x) fun t => (t = true → Q x S1) ∧ (t = false → wX (evO P F (b :: es) v S1) Q X) := h
  show wX (match tru S1 x with | some true => .ok x S1 | some false => evO P F (b :: es) v S1 | none => .bad) Q X
  cases h2 : tru S1 x with
  | none => rw [h2] at h; exact h
  | some t => rw [h2] at h; cases t; exact h.2 rfl; exact h.1 rfl
theorem e_and {es : List ME} (h : wX (evA P F es v S) Q X) : wX (ev P F (.and es) v S) Q X := by simp only [ev]; exact h
theorem e_or {es : List ME} (h : wX (evO P F es v S) Q X) : wX (ev P F (.or es) v S) Q X := by simp only [ev]; exact h
theorem e_not {a : MQ} (h : wT (evT P F a v S) (fun b S1 => Q (.bl (!b)) S1) X) : wX (ev P F (.not a) v S) Q X := by
  simp only [ev]
  refine x_bindT ?_
  cases h1 : evT P F a v S <;> rw [h1] at h <;> exact h
theorem e_ite {c : MQ} {a b : ME} (h : wT (evT P F c v S) (fun t S1 => (t = true → wX (ev P F a v S1) Q X) ∧ (t = false → wX (ev P F b v S1) Q X)) X) :
    wX (ev P F (.ite c a b) v S) Q X := by
  simp only [ev]
  refine x_bindT ?_
  cases h1 : evT P F c v S <;> rw [h1] at h <;> try exact h
  rename_i t S1
  cases t
  · exact h.2 rfl
  · exact h.1 rfl
theorem e_tup {es : List ME} (h : wL (evs P F es v S) (fun ds S1 => ds.length ≤ LIM ∧ Q (.tup ds) S1) X) : wX (ev P F (.tup es) v S) Q X := by
  simp only [ev]
  refine x_bindL ?_
  cases h1 : evs P F es v S <;> rw [h1] at h <;> try exact h
  show wX (if _ then _ else _) Q X
  rw [if_pos h.1]; exact h.2
theorem lim_ok {ds : List D} {p : Prop} (h : Nat.ble ds.length 16777216 = true) (k : p) : ds.length ≤ LIM ∧ p := ⟨Nat.le_of_ble_eq_true h, k⟩
theorem e_lst {es : List ME} (h : wL (evs P F es v S) (fun ds S1 => ds.length ≤ LIM ∧ Q (.lst ds) S1) X) : wX (ev P F (.lst es) v S) Q X := by
  simp only [ev]
  refine x_bindL ?_
  cases h1 : evs P F es v S <;> rw [h1] at h <;> try exact h
  show wX (if _ then _ else _) Q X
  rw [if_pos h.1]; exact h.2
theorem e_dct {ks : List Key} {es : List ME} (h : wL (evs P F es v S) (fun ds S1 => Q (.dct ((ks.zip ds).foldl (fun l p => putK p.1 p.2 l) [])) S1) noX) : wX (ev P F (.dct ks es) v S) Q X := by
  simp only [ev]
  cases h1 : evs P F es v S <;> rw [h1] at h <;> exact h
theorem e_idx {a i : ME} (h : wX (ev P F a v S) (fun x S1 => wX (ev P F i v S1) (fun y S2 => wO (idxD S2 x y) fun d => Q d S2) X) X) :
    wX (ev P F (.idx a i) v S) Q X := by
  simp only [ev]
  refine x_bind1 ?_
  cases h1 : ev P F a v S <;> rw [h1] at h <;> try exact h
  refine x_bind1 ?_
  rename_i x S1
  show wX (ev P F i v S1) _ X
  have h : wX (ev P F i v S1) (fun y S2 => wO (idxD S2 x y) fun d => Q d S2) X := h
  cases h2 : ev P F i v S1 <;> rw [h2] at h <;> try exact h
  exact x_ofO h
theorem e_slc {a : ME} {lo hi : Option ME} (h : wX (ev P F a v S) (fun x S1 => wO (evP P F lo v S1) fun l => wO (evP P F hi v l.2) fun r => wO (slcD r.2 x l.1 r.1) fun d => Q d r.2) X) :
    wX (ev P F (.slc a lo hi) v S) Q X := by
  simp only [ev]
  refine x_bind1 ?_
  cases h1 : ev P F a v S <;> rw [h1] at h <;> try exact h
  rename_i x S1
  have h : wO (evP P F lo v S1) fun l => wO (evP P F hi v l.2) fun r => wO (slcD r.2 x l.1 r.1) fun d => Q d r.2 := h
  show wX (match evP P F lo v S1 with | some (l, S2) => (match evP P F hi v S2 with | some (h, S3) => ofO (slcD S3 x l h) S3 | none => .bad) | none => .bad) Q X
  cases h2 : evP P F lo v S1 with
  | none => rw [h2] at h; exact h
  | some l =>
    rw [h2] at h
    have h : wO (evP P F hi v l.2) fun r => wO (slcD r.2 x l.1 r.1) fun d => Q d r.2 := h
    show wX (match evP P F hi v l.2 with | some (h, S3) => ofO (slcD S3 x l.1 h) S3 | none => .bad) Q X
    cases h3 : evP P F hi v l.2 with
    | none => rw [h3] at h; exact h
    | some r => rw [h3] at h; exact x_ofO h
theorem wp_none {q : Option Int × Sto → Prop} (h : q (none, S)) : wO (evP P F none v S) q := h
theorem wp_some {e : ME} {q : Option Int × Sto → Prop} (h : wX (ev P F e v S) (fun x S1 => wO (intOf x) fun i => q (some i, S1)) noX) : wO (evP P F (some e) v S) q := by
  simp only [evP]
  cases h1 : ev P F e v S <;> rw [h1] at h <;> try exact h
  rename_i x S1
  cases x <;> exact h
theorem e_att {a : ME} {f : Nat} (h : wX (ev P F a v S) (fun x S1 => fldOk P S1 x f = true ∧ wO (attD S1 x f) fun d => Q d S1) X) : wX (ev P F (.att a f) v S) Q X := by
  simp only [ev]
  refine x_bind1 ?_
  cases h1 : ev P F a v S <;> rw [h1] at h <;> try exact h
  show wX (if _ then _ else _) Q X
  rw [if_pos h.1]; exact x_ofO h.2
theorem e_call {f : Nat} {es : List ME} (h : wL (evs P F es v S) (fun ds S1 => wX (F f ds S1) Q X) X) : wX (ev P F (.call f es) v S) Q X := by
  simp only [ev]; exact x_bindL h
theorem e_cal {i : Nat} {es : List ME} {f : Nat} (e : v[i]? = some (some (.fn f))) (hf : f < P.fns.length) (h : wL (evs P F es v S) (fun ds S1 => wX (F f ds S1) Q X) X) :
    wX (ev P F (.cal i es) v S) Q X := by
  simp only [ev, e, hf, decide_true, if_true]; exact x_bindL h
theorem e_mth {m : Nat} {o : ME} {es : List ME} (h : wX (ev P F o v S) (fun x S1 => wO (mthOf P S1 x m) fun f => wL (evs P F es v S1) (fun ds S2 => wX (F f (x :: ds) S2) Q X) X) X) :
    wX (ev P F (.mth m o es) v S) Q X := by
  simp only [ev]
  refine x_bind1 ?_
  cases h1 : ev P F o v S <;> rw [h1] at h <;> try exact h
  rename_i x S1
  have h : wO (mthOf P S1 x m) fun f => wL (evs P F es v S1) (fun ds S2 => wX (F f (x :: ds) S2) Q X) X := h
  show wX (match mthOf P S1 x m with | some f => bindL (evs P F es v S1) fun ds S2 => F f (x :: ds) S2 | none => .bad) Q X
  cases h2 : mthOf P S1 x m with
  | none => rw [h2] at h; exact h
  | some f => rw [h2] at h; exact x_bindL h
theorem e_blt {b : Blt} {es : List ME} (h : wL (evs P F es v S) (fun ds S1 => wO (bltD S1 b ds) fun d => Q d S1) X) : wX (ev P F (.blt b es) v S) Q X := by
  simp only [ev]
  refine x_bindL ?_
  cases h1 : evs P F es v S <;> rw [h1] at h <;> try exact h
  exact x_ofO h
theorem e_bmt {m : Bmt} {o : ME} {es : List ME} (h : wX (ev P F o v S) (fun x S1 => wO (kiD S1 x) fun k => bmOkB k m = true ∧ wL (evs P F es v S1) (fun ds S2 => wO (bmtD S2 k m x ds) fun r => Q r.1 r.2) X) X) :
    wX (ev P F (.bmt m o es) v S) Q X := by
  simp only [ev]
  refine x_bind1 ?_
  cases h1 : ev P F o v S <;> rw [h1] at h <;> try exact h
  rename_i x S1
  have h : wO (kiD S1 x) fun k => bmOkB k m = true ∧ wL (evs P F es v S1) (fun ds S2 => wO (bmtD S2 k m x ds) fun r => Q r.1 r.2) X := h
  show wX (match kiD S1 x with | some k => if bmOkB k m then bindL (evs P F es v S1) fun ds S2 => (match bmtD S2 k m x ds with | some (d, S3) => .ok d S3 | none => .bad) else .bad | none => .bad) Q X
  cases h2 : kiD S1 x with
  | none => rw [h2] at h; exact h
  | some k =>
    rw [h2] at h
    show wX (if bmOkB k m then _ else _) Q X
    rw [if_pos h.1]
    refine x_bindL ?_
    have h := h.2
    cases h3 : evs P F es v S1 <;> rw [h3] at h <;> try exact h
    rename_i ds S2
    have h : wO (bmtD S2 k m x ds) fun r => Q r.1 r.2 := h
    show wX (match bmtD S2 k m x ds with | some (d, S3) => .ok d S3 | none => .bad) Q X
    cases h4 : bmtD S2 k m x ds with
    | none => rw [h4] at h; exact h
    | some r => rw [h4] at h; exact h
theorem e_alcL {e : ME} (h : wX (ev P F e v S) (fun x S1 => wO (match x with | .lst xs => some (MO.lst xs) | .dct kvs => some (MO.dk kvs) | _ => none) fun m => Q (.loc S1.length) (S1 ++ [m])) X) :
    wX (ev P F (.alc e) v S) Q X := by
  simp only [ev]
  refine x_bind1 ?_
  cases h1 : ev P F e v S <;> rw [h1] at h <;> try exact h
  rename_i x S1
  cases x <;> exact h
theorem e_whyE {w : Nat} {e : ME} {W : WhyI} {c : Nat} {fs : List (Nat × D)} {S1 : Sto} (hw : P.whys[w]? = some W) (he : ev P F e v S = .ex c fs S1)
    (h : wO (whyD P S1 c fs W.hds) fun d => Q d S1) : wX (ev P F (.why w e) v S) Q X := by
  simp only [ev, hw, he]; exact x_ofO h
theorem e_whyO {w : Nat} {e : ME} {W : WhyI} {d : D} {S1 : Sto} (hw : P.whys[w]? = some W) (he : ev P F e v S = .ok d S1)
    (h : Q (elsD W.els) S1) : wX (ev P F (.why w e) v S) Q X := by
  simp only [ev, hw, he]; exact h
theorem e_why {w : Nat} {e : ME} {W : WhyI} (hw : P.whys[w]? = some W) (h : wX (ev P F e v S) (fun _ S1 => Q (elsD W.els) S1) (fun c fs S1 => wO (whyD P S1 c fs W.hds) fun d => Q d S1)) :
    wX (ev P F (.why w e) v S) Q X := by
  simp only [ev, hw]
  cases h1 : ev P F e v S <;> rw [h1] at h <;> first | exact x_ofO h | exact h
theorem s_nil (h : QL [] S) : wL (evs P F [] v S) QL X := h
theorem s_cons {e : ME} {es : List ME} (h : wX (ev P F e v S) (fun d S1 => wL (evs P F es v S1) (fun ds S2 => QL (d :: ds) S2) X) X) :
    wL (evs P F (e :: es) v S) QL X := by
  simp only [evs]
  cases h1 : ev P F e v S <;> rw [h1] at h <;> try exact h
  rename_i d S1
  have h : wL (evs P F es v S1) (fun ds S2 => QL (d :: ds) S2) X := h
  show wL (match evs P F es v S1 with | .ok ds S2 => .ok (d :: ds) S2 | .ex c fs S2 => .ex c fs S2 | .bad => .bad) QL X
  cases h2 : evs P F es v S1 <;> rw [h2] at h <;> exact h

theorem t_v {e : ME} (h : wX (ev P F e v S) (fun d S1 => wO (tru S1 d) fun b => QT b S1) X) : wT (evT P F (.v e) v S) QT X := by
  simp only [evT]
  cases h1 : ev P F e v S <;> rw [h1] at h <;> try exact h
  rename_i d S1
  have h : wO (tru S1 d) fun b => QT b S1 := h
  show wT (match tru S1 d with | some b => .ok b S1 | none => .bad) QT X
  cases h2 : tru S1 d <;> rw [h2] at h <;> exact h
theorem t_and {es : List MQ} (h : wT (evTA P F es v S) QT X) : wT (evT P F (.and es) v S) QT X := by simp only [evT]; exact h
theorem t_or {es : List MQ} (h : wT (evTO P F es v S) QT X) : wT (evT P F (.or es) v S) QT X := by simp only [evT]; exact h
theorem t_not {a : MQ} (h : wT (evT P F a v S) (fun b S1 => QT (!b) S1) X) : wT (evT P F (.not a) v S) QT X := by
  simp only [evT]
  cases h1 : evT P F a v S <;> rw [h1] at h <;> exact h
theorem t_ite {c a b : MQ} (h : wT (evT P F c v S) (fun t S1 => (t = true → wT (evT P F a v S1) QT X) ∧ (t = false → wT (evT P F b v S1) QT X)) X) :
    wT (evT P F (.ite c a b) v S) QT X := by
  simp only [evT]
  cases h1 : evT P F c v S <;> rw [h1] at h <;> try exact h
  rename_i t S1
  cases t
  · exact h.2 rfl
  · exact h.1 rfl
theorem ta_nil (h : QT true S) : wT (evTA P F [] v S) QT X := h
theorem ta_cons {e : MQ} {es : List MQ} (h : wT (evT P F e v S) (fun t S1 => (t = true → wT (evTA P F es v S1) QT X) ∧ (t = false → QT false S1)) X) :
    wT (evTA P F (e :: es) v S) QT X := by
  simp only [evTA]
  cases h1 : evT P F e v S <;> rw [h1] at h <;> try exact h
  rename_i t S1
  cases t
  · exact h.2 rfl
  · exact h.1 rfl
theorem to_nil (h : QT false S) : wT (evTO P F [] v S) QT X := h
theorem to_cons {e : MQ} {es : List MQ} (h : wT (evT P F e v S) (fun t S1 => (t = true → QT true S1) ∧ (t = false → wT (evTO P F es v S1) QT X)) X) :
    wT (evTO P F (e :: es) v S) QT X := by
  simp only [evTO]
  cases h1 : evT P F e v S <;> rw [h1] at h <;> try exact h
  rename_i t S1
  cases t
  · exact h.2 rfl
  · exact h.1 rfl

theorem wi_seq {e : ME} (h : wX (ev P F e v S) (fun d S1 => wO (seqOf S1 d) fun xs => QI xs (gOf S1 d) S1) X) : wI (evI P F (.seq e) v S) QI X := by
  simp only [evI]
  cases h1 : ev P F e v S <;> rw [h1] at h <;> try exact h
  rename_i d S1
  have h : wO (seqOf S1 d) fun xs => QI xs (gOf S1 d) S1 := h
  show wI (match seqOf S1 d with | some xs => .ok xs (gOf S1 d) S1 | none => .bad) QI X
  cases h2 : seqOf S1 d <;> rw [h2] at h <;> exact h
theorem wi_rg1 {e : ME} (h : wX (ev P F e v S) (fun d S1 => wO (intOf d) fun n => rgG n = true ∧ QI (rngD 0 n.toNat) [] S1) X) : wI (evI P F (.rg1 e) v S) QI X := by
  simp only [evI]
  cases h1 : ev P F e v S <;> rw [h1] at h <;> try exact h
  rename_i d S1
  cases d <;> try exact h
  show wI (if _ then _ else _) QI X
  rw [if_pos h.1]; exact h.2
theorem wi_rg2 {a b : ME} (h : wX (ev P F a v S) (fun x S1 => wO (intOf x) fun i => wX (ev P F b v S1) (fun y S2 => wO (intOf y) fun j => (rgG i && rgG j) = true ∧ QI (rngD i (j - i).toNat) [] S2) X) X) :
    wI (evI P F (.rg2 a b) v S) QI X := by
  simp only [evI]
  cases h1 : ev P F a v S <;> rw [h1] at h <;> try exact h
  rename_i d S1
  cases d <;> try exact h
  rename_i i
  have h : wX (ev P F b v S1) (fun y S2 => wO (intOf y) fun j => (rgG i && rgG j) = true ∧ QI (rngD i (j - i).toNat) [] S2) X := h
  show wI (match ev P F b v S1 with | .ok (.int j) S2 => if rgG i && rgG j then .ok (rngD i (j - i).toNat) [] S2 else .bad | .ok _ _ => .bad | .ex c fs S1 => .ex c fs S1 | .bad => .bad) QI X
  cases h2 : ev P F b v S1 <;> rw [h2] at h <;> try exact h
  rename_i d S2
  cases d <;> try exact h
  show wI (if _ then _ else _) QI X
  rw [if_pos h.1]; exact h.2

/-! ### statements -/
theorem r_mono {r : RS} {q : RS → Prop} (h : wR r q) (k : ∀ r, q r → QR r) : wR r QR := by
  cases r <;> first | exact k _ h | exact h
theorem r_bindS {r : R} {k : D → Sto → RS} (h : wX r (fun d S => wR (k d S) QR) (fun c fs S' => QR (.ex c fs v S'))) : wR (bindS r v k) QR := by cases r <;> exact h
theorem r_bindSL {r : RL} {k : List D → Sto → RS} (h : wL r (fun d S => wR (k d S) QR) (fun c fs S' => QR (.ex c fs v S'))) : wR (bindSL r v k) QR := by cases r <;> exact h
/-- behind a statement: the rest -/
def andB (P : Pg) (F : Fo) (r : List MS) (Q : RS → Prop) : RS → Prop
  | .nx v' S' => wR (evB P F r v' S') Q
  | q => Q q
theorem ab_nx {r : List MS} (h : wR (evB P F r v S) QR) : andB P F r QR (.nx v S) := h
theorem ab_rt {r : List MS} {d : D} (h : QR (.rt d S)) : andB P F r QR (.rt d S) := h
theorem ab_bk {r : List MS} (h : QR (.bk v S)) : andB P F r QR (.bk v S) := h
theorem ab_ct {r : List MS} (h : QR (.ct v S)) : andB P F r QR (.ct v S) := h
theorem ab_ex {r : List MS} {c : Nat} {fs : List (Nat × D)} (h : QR (.ex c fs v S)) : andB P F r QR (.ex c fs v S) := h
/-- a slot is set -/
inductive SetR {α : Type} : List α → Nat → α → List α → Prop where
  | z {a x : α} {l : List α} : SetR (a :: l) 0 x (x :: l)
  | s {a x : α} {l l' : List α} {n : Nat} (h : SetR l n x l') : SetR (a :: l) (n + 1) x (a :: l')
theorem SetR.eq {α : Type} {l l' : List α} {n : Nat} {x : α} (h : SetR l n x l') : l.set n x = l' := by
  induction h with
  | z => rfl
  | s _ ih => rw [List.set_cons_succ, ih]
theorem m_nm {i : Nat} {d : D} {v' : Env} {q : Env → Prop} (e : SetR v i (some d) v') (h : q v') : wO (bindM S (.nm i) d v) q := by
  rw [← e.eq] at h; exact h
theorem m_tp {ts : List MT} {xs : List D} {q : Env → Prop} (h : wO (bindMs S ts xs v) q) : wO (bindM S (.tp ts) (.tup xs) v) q := h
theorem ms_nil {q : Env → Prop} (h : q v) : wO (bindMs S [] [] v) q := h
theorem ms_cons {t : MT} {ts : List MT} {d : D} {ds : List D} {q : Env → Prop} (h : wO (bindM S t d v) fun v' => wO (bindMs S ts ds v') q) : wO (bindMs S (t :: ts) (d :: ds) v) q := by
  unfold bindMs
  cases h1 : bindM S t d v <;> rw [h1] at h <;> exact h
theorem b_nil (h : QR (.nx v S)) : wR (evB P F [] v S) QR := h
theorem b_cons {s : MS} {r : List MS} (h : wR (evS P F s v S) (andB P F r QR)) : wR (evB P F (s :: r) v S) QR := by
  simp only [evB]
  cases h1 : evS P F s v S <;> rw [h1] at h <;> exact h
theorem s_asg {t : MT} {e : ME} (h : wX (ev P F e v S) (fun d S1 => wO (bindM S1 t d v) fun v' => QR (.nx v' S1)) (fun c fs S' => QR (.ex c fs v S'))) : wR (evS P F (.asg t e) v S) QR := by
  simp only [evS]
  refine r_bindS ?_
  cases h1 : ev P F e v S <;> rw [h1] at h <;> try exact h
  rename_i d S1
  have h : wO (bindM S1 t d v) fun v' => QR (.nx v' S1) := h
  show wR (match bindM S1 t d v with | some v' => .nx v' S1 | none => .bad) QR
  cases h2 : bindM S1 t d v <;> rw [h2] at h <;> exact h
theorem s_aug {i : Nat} {e : ME} {x : Int} (hv : v[i]? = some (some (.int x))) (h : wX (ev P F e v S) (fun d S1 => wO (intOf d) fun z => QR (.nx (v.set i (some (.int (x + z)))) S1)) (fun c fs S' => QR (.ex c fs v S'))) :
    wR (evS P F (.aug i .Add e) v S) QR := by
  simp only [evS, hv]
  refine r_bindS ?_
  cases h1 : ev P F e v S <;> rw [h1] at h <;> try exact h
  rename_i d S1
  cases d <;> exact h
theorem s_setI {x i e : ME} (h : wX (ev P F e v S) (fun y S1 => wX (ev P F x v S1) (fun a S2 => wX (ev P F i v S2) (fun j S3 => wO (setD S3 a j y) fun S4 => QR (.nx v S4)) (fun c fs S' => QR (.ex c fs v S'))) (fun c fs S' => QR (.ex c fs v S'))) (fun c fs S' => QR (.ex c fs v S'))) :
    wR (evS P F (.setI x i e) v S) QR := by
  simp only [evS]
  refine r_bindS ?_
  cases h1 : ev P F e v S <;> rw [h1] at h <;> try exact h
  rename_i y S1
  refine r_bindS ?_
  have h : wX (ev P F x v S1) (fun a S2 => wX (ev P F i v S2) (fun j S3 => wO (setD S3 a j y) fun S4 => QR (.nx v S4)) (fun c fs S' => QR (.ex c fs v S'))) (fun c fs S' => QR (.ex c fs v S')) := h
  show wX (ev P F x v S1) _ _
  cases h2 : ev P F x v S1 <;> rw [h2] at h <;> try exact h
  rename_i a S2
  refine r_bindS ?_
  have h : wX (ev P F i v S2) (fun j S3 => wO (setD S3 a j y) fun S4 => QR (.nx v S4)) (fun c fs S' => QR (.ex c fs v S')) := h
  show wX (ev P F i v S2) _ _
  cases h3 : ev P F i v S2 <;> rw [h3] at h <;> try exact h
  rename_i j S3
  have h : wO (setD S3 a j y) fun S4 => QR (.nx v S4) := h
  show wR (nxO v (setD S3 a j y)) QR
  cases h4 : setD S3 a j y <;> rw [h4] at h <;> exact h
theorem s_setA {x : ME} {f : Nat} {e : ME} (h : wX (ev P F e v S) (fun y S1 => wX (ev P F x v S1) (fun a S2 => fldOk P S2 a f = true ∧ wO (setF S2 a f y) fun S4 => QR (.nx v S4)) (fun c fs S' => QR (.ex c fs v S'))) (fun c fs S' => QR (.ex c fs v S'))) :
    wR (evS P F (.setA x f e) v S) QR := by
  simp only [evS]
  refine r_bindS ?_
  cases h1 : ev P F e v S <;> rw [h1] at h <;> try exact h
  rename_i y S1
  refine r_bindS ?_
  have h : wX (ev P F x v S1) (fun a S2 => fldOk P S2 a f = true ∧ wO (setF S2 a f y) fun S4 => QR (.nx v S4)) (fun c fs S' => QR (.ex c fs v S')) := h
  show wX (ev P F x v S1) _ _
  cases h2 : ev P F x v S1 <;> rw [h2] at h <;> try exact h
  rename_i a S2
  have h : fldOk P S2 a f = true ∧ wO (setF S2 a f y) fun S4 => QR (.nx v S4) := h
  show wR (if fldOk P S2 a f then nxO v (setF S2 a f y) else .bad) QR
  rw [if_pos h.1]
  have h := h.2
  cases h4 : setF S2 a f y <;> rw [h4] at h <;> exact h
theorem s_exp {e : ME} (h : wX (ev P F e v S) (fun _ S1 => QR (.nx v S1)) (fun c fs S' => QR (.ex c fs v S'))) : wR (evS P F (.exp e) v S) QR := by
  simp only [evS]; exact r_bindS h
theorem s_ret {e : ME} (h : wX (ev P F e v S) (fun d S1 => QR (.rt d S1)) (fun c fs S' => QR (.ex c fs v S'))) : wR (evS P F (.ret e) v S) QR := by
  simp only [evS]; exact r_bindS h
theorem s_retN (h : QR (.rt .non S)) : wR (evS P F .retN v S) QR := h
theorem s_iff {c : MQ} {a b : List MS} (h : wT (evT P F c v S) (fun t S1 => (t = true → wR (evB P F a v S1) QR) ∧ (t = false → wR (evB P F b v S1) QR)) (fun c fs S' => QR (.ex c fs v S'))) :
    wR (evS P F (.iff c a b) v S) QR := by
  simp only [evS]
  cases h1 : evT P F c v S <;> rw [h1] at h <;> try exact h
  rename_i t S1
  cases t
  · exact h.2 rfl
  · exact h.1 rfl
theorem s_pas (h : QR (.nx v S)) : wR (evS P F .pas v S) QR := h
theorem s_brk (h : QR (.bk v S)) : wR (evS P F .brk v S) QR := h
theorem s_cnt (h : QR (.ct v S)) : wR (evS P F .cnt v S) QR := h
theorem s_rse {c : Nat} {es : List ME} {ns : List Nat} (hc : (P.cls[c]?).bind (·.exf) = some ns) (h : wL (evs P F es v S) (fun ds S1 => (ns.length == ds.length) = true ∧ QR (.ex c (ns.zip ds) v S1)) (fun c fs S' => QR (.ex c fs v S'))) :
    wR (evS P F (.rse c es) v S) QR := by
  simp only [evS, hc]
  refine r_bindSL ?_
  cases h1 : evs P F es v S <;> rw [h1] at h <;> try exact h
  show wR (if _ then _ else _) QR
  rw [if_pos h.1]; exact h.2
/-- one turn of a for loop -/
def stepF (P : Pg) (F : Fo) (t : MT) (b : List MS) : D → Env → Sto → RS := fun x v S => match bindM S t x v with
  | some v' => evB P F b v' S
  | none => .bad
theorem s_for {t : MT} {it : MI} {b : List MS} (h : wI (evI P F it v S) (fun xs g S1 => wR (forL g (stepF P F t b) xs v S1) QR) (fun c fs S' => QR (.ex c fs v S'))) : wR (evS P F (.for t it b) v S) QR := by
  simp only [evS]
  cases h1 : evI P F it v S <;> rw [h1] at h <;> exact h
theorem step_w {t : MT} {b : List MS} {x : D} (h : wO (bindM S t x v) fun v' => wR (evB P F b v' S) QR) : wR (stepF P F t b x v S) QR := by
  unfold stepF
  cases h1 : bindM S t x v <;> rw [h1] at h <;> exact h
/-- a for loop with an invariant, every turn to its end -/
theorem forL_thru {g : List (Nat × List D)} {step : D → Env → Sto → RS} (I : Nat → Env → Sto → Prop) :
    ∀ (xs : List D) (k : Nat) (v : Env) (S : Sto), I k v S → (∀ j v S, I j v S → guards g S = true) →
    (∀ (j : Nat) (x : D) (v : Env) (S : Sto), xs[j]? = some x → I (k + j) v S → wR (step x v S) fun q => match q with
      | .nx v' S' => I (k + j + 1) v' S'
      | .ct v' S' => I (k + j + 1) v' S'
      | _ => False) →
    (∀ v S, I (k + xs.length) v S → QR (.nx v S)) → wR (forL g step xs v S) QR
  | [], k, v, S, hi, hg, _, hq => by
    simp only [forL, hg _ _ _ hi, if_true]
    exact hq _ _ hi
  | x :: xs, k, v, S, hi, hg, hs, hq => by
    simp only [forL, hg _ _ _ hi, if_true]
    have h := hs 0 x v S rfl hi
    have rest : ∀ v' S', I (k + 1) v' S' → wR (forL g step xs v' S') QR := fun v' S' hi' =>
      forL_thru I xs (k + 1) v' S' hi' hg (fun j y v S hy hj => by
        have := hs (j + 1) y v S hy (by rw [← Nat.add_assoc, Nat.add_right_comm]; exact hj)
        rw [← Nat.add_assoc, Nat.add_right_comm k j 1] at this
        exact this) (fun v S hl => hq v S (by rw [List.length_cons, Nat.add_comm xs.length 1, ← Nat.add_assoc]; exact hl))
    cases h1 : step x v S <;> rw [h1] at h <;> first | exact rest _ _ h | exact h.elim
theorem guards_nil : guards [] S = true := rfl

/-! ### defs -/
def andF (keep : Bool) (S : Sto) (Q : D → Sto → Prop) (X : XP) : RS → Prop
  | .nx _ S' => wX (fin keep S .non S') Q X
  | .rt d S' => wX (fin keep S d S') Q X
  | .ex c fs _ S' => wX (finX S c fs S') Q X
  | _ => False
theorem run_w {f n : Nat} {ds : List D} (i : FnI) (h : P.fns[f]? = some i) (hk : i.ok = true) (hl : ds.length = i.np)
    (hw : wR (evB P (Mi.run P n) i.body (env0 i.ns ds) S) (andF i.keep S Q X)) : wX (Mi.run P (n + 1) f ds S) Q X := by
  show wX (callF P (Mi.run P n) f ds S) Q X
  unfold callF
  rw [h]
  simp only [hk, hl, and_self, if_true]
  cases h1 : evB P (Mi.run P n) i.body (env0 i.ns ds) S <;> rw [h1] at hw <;> exact hw
theorem f_same {keep : Bool} {d : D} {S' : Sto} (e : S'.length = S.length) (h : Q d S') : wX (fin keep S d S') Q X := by
  unfold fin; rw [if_pos e]; exact h
theorem f_sameX {c : Nat} {fs : List (Nat × D)} {S' : Sto} (e : S'.length = S.length) (h : X c fs S') : wX (finX S c fs S') Q X := by
  unfold finX; rw [if_pos e]; exact h
end

/-! ### numbers -/
theorem o_add {S : Sto} {i j : Int} {q : D → Prop} (h : q (.int (i + j))) : wO (binD S .Add (.int i) (.int j)) q := h
theorem o_sub {S : Sto} {i j : Int} {q : D → Prop} (h : q (.int (i - j))) : wO (binD S .Sub (.int i) (.int j)) q := h
theorem o_mul {S : Sto} {i j : Int} {q : D → Prop} (g : mulG i j = true) (h : q (.int (i * j))) : wO (binD S .Mult (.int i) (.int j)) q := by
  refine wO_some ?_ h; show (if mulG i j then some (D.int (i * j)) else none) = _; rw [g]; rfl
theorem o_div {S : Sto} {i j : Int} {q : D → Prop} (g : divG j = true) (h : q (.int (i / j))) : wO (binD S .FloorDiv (.int i) (.int j)) q := by
  refine wO_some ?_ h; show (if divG j then some (D.int (i / j)) else none) = _; rw [g]; rfl
theorem o_mod {S : Sto} {i j : Int} {q : D → Prop} (g : 0 < j) (h : q (.int (i % j))) : wO (binD S .Mod (.int i) (.int j)) q := by
  refine wO_some ?_ h; show (if decide (0 < j) then some (D.int (i % j)) else none) = _; rw [decide_eq_true g]; rfl
theorem o_pow {S : Sto} {i j : Int} {q : D → Prop} (g : powG i j = true) (h : q (.int (i ^ j.toNat))) : wO (binD S .Pow (.int i) (.int j)) q := by
  refine wO_some ?_ h; show (if powG i j then some (D.int (i ^ j.toNat)) else none) = _; rw [g]; rfl
theorem o_lt {S : Sto} {i j : Int} {q : Bool → Prop} (h : q (decide (i < j))) : wO (cmpD S .Lt (.int i) (.int j)) q := h
theorem o_le {S : Sto} {i j : Int} {q : Bool → Prop} (h : q (decide (i ≤ j))) : wO (cmpD S .LtE (.int i) (.int j)) q := h
theorem o_gt {S : Sto} {i j : Int} {q : Bool → Prop} (h : q (decide (j < i))) : wO (cmpD S .Gt (.int i) (.int j)) q := h
theorem o_ge {S : Sto} {i j : Int} {q : Bool → Prop} (h : q (decide (j ≤ i))) : wO (cmpD S .GtE (.int i) (.int j)) q := h
theorem eqv_int (S : Sto) (i j : Int) : eqPy S (.int i) (.int j) = some (decide (i = j)) := by
  unfold eqPy
  simp only [der, toP]
  rw [if_pos (by simp only [PyData.depth, deep]; omega)]
  by_cases h : i = j
  · subst h; simp [PyData.eqv]
  · simp [PyData.eqv, h]
theorem o_eq {S : Sto} {i j : Int} {q : Bool → Prop} (h : q (decide (i = j))) : wO (cmpD S .Eq (.int i) (.int j)) q :=
  wO_some (eqv_int S i j) h
theorem o_ne {S : Sto} {i j : Int} {q : Bool → Prop} (h : q (!decide (i = j))) : wO (cmpD S .NotEq (.int i) (.int j)) q :=
  wO_some (by show (eqPy S (.int i) (.int j)).map (!·) = _; rw [eqv_int]; rfl) h
theorem o_trub {S : Sto} {b : Bool} {q : Bool → Prop} (h : q b) : wO (tru S (.bl b)) q := h
theorem log2_lt {n k : Nat} (h : n < 2 ^ k) (hk : 0 < k) : n.log2 < k := by
  by_cases h0 : n = 0
  · subst h0; exact hk
  · exact (Nat.log2_lt h0).mpr h
theorem mulG_of {i j : Int} {a b : Nat} (hi : i.natAbs < 2 ^ a) (hj : j.natAbs < 2 ^ b) (ha : 0 < a) (hb : 0 < b) (h : a + b ≤ 1000000) : mulG i j = true := by
  have := log2_lt hi ha; have := log2_lt hj hb
  unfold mulG; simp only [decide_eq_true_eq]; omega
theorem divG_of {j : Int} {b : Nat} (h0 : 0 < j) (hj : j.natAbs < 2 ^ b) (hb : 0 < b) (h : b ≤ 9000) : divG j = true := by
  have := log2_lt hj hb
  unfold divG; simp only [Bool.and_eq_true, decide_eq_true_eq]; exact ⟨h0, by omega⟩
end Mi
end
section
set_option autoImplicit false
/-! Pl2: repr, loops, gcd -/
namespace Mi
open PySem

local macro_rules | `(tactic| walk_at "k") => `(tactic| with_reducible first
  | refine e_cst ?_ | refine s_cons ?_ | refine s_nil ?_ | refine e_bin ?_ | refine e_idx ?_ | refine e_cmp ?_ | refine e_call ?_ | refine e_blt ?_
  | refine e_tup ?_ | refine e_lst ?_ | refine e_dct ?_ | refine e_and ?_ | refine e_and2 ?_ | refine e_and1 ?_ | refine e_or ?_ | refine e_or2 ?_ | refine e_or1 ?_
  | refine e_not ?_ | refine e_ite ?_ | refine e_neg ?_ | refine e_slc ?_ | refine e_att ?_ | refine e_mth ?_ | refine e_bmt ?_ | refine e_alcL ?_
  | refine wp_none ?_ | refine wp_some ?_
  | refine t_v ?_ | refine t_and ?_ | refine t_or ?_ | refine t_not ?_ | refine t_ite ?_ | refine ta_nil ?_ | refine ta_cons ?_ | refine to_nil ?_ | refine to_cons ?_
  | refine wi_seq ?_ | refine wi_rg1 ?_ | refine wi_rg2 ?_
  | refine b_cons ?_ | refine b_nil ?_ | refine s_asg ?_ | refine s_setI ?_ | refine s_setA ?_ | refine s_exp ?_ | refine s_ret ?_ | refine s_retN ?_ | refine s_iff ?_
  | refine s_pas ?_ | refine s_brk ?_ | refine s_cnt ?_ | refine s_for ?_
  | refine o_add ?_ | refine o_sub ?_ | refine o_lt ?_ | refine o_le ?_ | refine o_gt ?_ | refine o_ge ?_ | refine o_eq ?_ | refine o_ne ?_ | refine o_trub ?_
  | refine ab_nx ?_ | refine ab_rt ?_ | refine ab_bk ?_ | refine ab_ct ?_
  | refine m_tp ?_ | refine ms_cons ?_ | refine ms_nil ?_ | refine m_nm (by repeat first | exact SetR.z | apply SetR.s) ?_
  | refine o_int ?_ | refine o_abs ?_
  | refine lim_ok (by with_unfolding_all exact rfl) ?_ | refine e_var (by with_unfolding_all exact rfl) ?_
  | refine e_glb (by with_unfolding_all exact rfl) ?_)


/-! ### gcd -/
theorem gcd_step (a b : Int) : Int.gcd b (a % b) = Int.gcd a b := by
  have h : a = a % b + b * (a / b) := (Int.emod_add_mul_ediv a b).symm
  rw [Int.gcd_comm a b]
  conv => rhs; rw [h]
  simp
theorem half_mod {b r k : Int} (h0 : 0 < r) (h : r < b) (hb : b < 2 * k) : b % r < k := by
  have h1 := Int.emod_lt_of_pos b h0
  have h2 : b = r * (b / r) + b % r := (Int.mul_ediv_add_emod b r).symm
  have h3 : 1 ≤ b / r := (Int.le_ediv_iff_mul_le h0).mpr (by omega)
  have h4 : r ≤ r * (b / r) := by
    have := Int.mul_le_mul_of_nonneg_left h3 (Int.le_of_lt h0)
    omega
  omega
/-- a while loop's next turn -/
theorem whl_step {c : Env → Sto → RT} {b : Env → Sto → RS} {n : Nat} {v : Env} {S : Sto} {QR : RS → Prop}
    (h : wT (c v S) (fun t S1 => (t = true → wR (b v S1) fun q => match q with
        | .nx v' S' => wR (whlL c b n v' S') QR
        | .ct v' S' => wR (whlL c b n v' S') QR
        | .bk v' S' => QR (.nx v' S')
        | q => QR q) ∧ (t = false → QR (.nx v S1))) (fun e fs S1 => QR (.ex e fs v S1))) : wR (whlL c b (n + 1) v S) QR := by
  unfold whlL
  cases h1 : c v S <;> rw [h1] at h <;> try exact h
  rename_i t S1
  cases t
  · exact h.2 rfl
  · have h := h.1 rfl
    show wR (match b v S1 with | .nx v' S' => whlL c b n v' S' | .ct v' S' => whlL c b n v' S' | .bk v' S' => .nx v' S' | r => r) QR
    cases h2 : b v S1 <;> rw [h2] at h <;> exact h
theorem s_whl {P : Pg} {F : Fo} {c : MQ} {b : List MS} {v : Env} {S : Sto} {QR : RS → Prop} (h : wR (whlL (evT P F c) (evB P F b) 1000000 v S) QR) : wR (evS P F (.whl c b) v S) QR := by
  simp only [evS]; exact h
theorem forL_cons {g : List (Nat × List D)} {step : D → Env → Sto → RS} {x : D} {xs : List D} {v : Env} {S : Sto} {QR : RS → Prop} (hg : guards g S = true)
    (h : wR (step x v S) fun q => match q with
        | .nx v' S' => wR (forL g step xs v' S') QR
        | .ct v' S' => wR (forL g step xs v' S') QR
        | .bk v' S' => QR (.nx v' S')
        | q => QR q) : wR (forL g step (x :: xs) v S) QR := by
  unfold forL
  rw [if_pos hg]
  cases h2 : step x v S <;> rw [h2] at h <;> exact h
theorem forL_nil {g : List (Nat × List D)} {step : D → Env → Sto → RS} {v : Env} {S : Sto} {QR : RS → Prop} (hg : guards g S = true) (h : QR (.nx v S)) : wR (forL g step [] v S) QR := by
  unfold forL
  rw [if_pos hg]; exact h
theorem o_int {S : Sto} {i : Int} {q : D → Prop} (h : q (.int i)) : wO (bltD S .int [.int i]) q := h
theorem o_abs {S : Sto} {i : Int} {q : D → Prop} (h : q (.int i.natAbs)) : wO (bltD S .abs [.int i]) q := by
  refine wO_some ?_ h
  show some (D.int (if i < 0 then -i else i)) = _
  congr 2
  by_cases h : i < 0
  · rw [if_pos h]; omega
  · rw [if_neg h]; omega

/-- the law's own gcd: its loop -/
theorem gcd_loop {P : Pg} {F : Fo} {S : Sto} : ∀ (k : Nat) (xs : List D) (a b : Int) (o : Option D) (QR : RS → Prop), 2 * k ≤ xs.length → 0 ≤ a → 0 ≤ b → b < 2 ^ k →
    (∀ o', QR (.nx [some (.int (Int.gcd a b)), some (.int 0), o'] S)) →
    wR (forL [] (stepF P F (.nm 2) [.iff (.v (.cmp .Eq (.var 1) (.cst (.int 0)))) [.brk] [], .asg (.tp [(.nm 0), (.nm 1)]) (.tup [(.var 1), (.bin .Mod (.blt .int [(.var 0)]) (.var 1))])]) xs [some (.int a), some (.int b), o] S) QR := by
  intro k
  have brk : ∀ (x : D) (a b : Int) (o : Option D) (q : RS → Prop), (b = 0 → q (.bk [some (.int a), some (.int b), some x] S)) → (b ≠ 0 → 0 < b → q (.nx [some (.int b), some (.int (a % b)), some x] S)) → 0 ≤ b →
      wR (stepF P F (.nm 2) [.iff (.v (.cmp .Eq (.var 1) (.cst (.int 0)))) [.brk] [], .asg (.tp [(.nm 0), (.nm 1)]) (.tup [(.var 1), (.bin .Mod (.blt .int [(.var 0)]) (.var 1))])] x [some (.int a), some (.int b), o] S) q := by
    intro x a b o q h1 h2 hb
    refine step_w ?_
    repeat walk_at "k"
    constructor
    · intro h
      repeat walk_at "k"
      exact h1 (of_decide_eq_true h)
    · intro h
      have h := of_decide_eq_false h
      repeat walk_at "k"
      refine o_mod (by omega) ?_
      repeat walk_at "k"
      exact h2 h (by omega)
  induction k with
  | zero =>
    intro xs a b o QR hl ha hb hk hq
    have hb0 : b = 0 := by simp at hk; omega
    subst hb0
    rw [Int.gcd_zero_right] at hq
    have e : ((a.natAbs : Nat) : Int) = a := Int.natAbs_of_nonneg ha
    rw [e] at hq
    cases xs with
    | nil => exact forL_nil rfl (hq o)
    | cons x xs => exact forL_cons rfl (brk x a 0 o _ (fun _ => hq _) (fun h => absurd rfl h) hb)
  | succ k ih =>
    intro xs a b o QR hl ha hb hk hq
    match xs, hl with
    | x :: y :: xs, hl =>
      refine forL_cons rfl (brk x a b o _ (fun h => ?_) (fun h hp => ?_) hb)
      · subst h
        rw [Int.gcd_zero_right] at hq
        rw [Int.natAbs_of_nonneg ha] at hq
        exact hq _
      · have hr0 := Int.emod_nonneg a h
        have hr1 := Int.emod_lt_of_pos a hp
        refine forL_cons rfl (brk y b (a % b) _ _ (fun h' => ?_) (fun h' hp' => ?_) hr0)
        · rw [h']
          have := gcd_step a b
          rw [h', Int.gcd_zero_right] at this
          rw [← this, Int.natAbs_of_nonneg hb] at hq
          exact hq _
        · refine ih xs (a % b) (b % (a % b)) _ QR (by simp only [List.length_cons] at hl; omega) hr0 (Int.emod_nonneg _ h') (half_mod hp' hr1 (by rw [Int.pow_succ] at hk; omega)) ?_
          rw [gcd_step, gcd_step]; exact hq

/-- the program's gcd: a turn of its loop -/
theorem div_turn {P : Pg} {F : Fo} {S : Sto} (n : Nat) (a b : Int) (q : RS → Prop) (h1 : b = 0 → q (.nx [some (.int a), some (.int b)] S)) (h2 : b ≠ 0 → 0 < b →
        wR (whlL (evT P F (.v (.cmp .NotEq (.var 1) (.cst (.int 0))))) (evB P F [.asg (.tp [(.nm 0), (.nm 1)]) (.tup [(.var 1), (.bin .Mod (.var 0) (.var 1))])]) n [some (.int b), some (.int (a % b))] S) q) (hb : 0 ≤ b) :
      wR (whlL (evT P F (.v (.cmp .NotEq (.var 1) (.cst (.int 0))))) (evB P F [.asg (.tp [(.nm 0), (.nm 1)]) (.tup [(.var 1), (.bin .Mod (.var 0) (.var 1))])]) (n + 1) [some (.int a), some (.int b)] S) q := by
    refine whl_step ?_
    repeat walk_at "k"
    constructor
    · intro h
      have h : b ≠ 0 := by simpa using h
      repeat walk_at "k"
      refine o_mod (by omega) ?_
      repeat walk_at "k"
      exact h2 h (by omega)
    · intro h
      exact h1 (by simpa using h)
/-- the program's gcd: its loop -/
theorem div_loop {P : Pg} {F : Fo} {S : Sto} : ∀ (k n : Nat) (a b : Int) (QR : RS → Prop), 2 * k + 1 ≤ n → 0 ≤ a → 0 ≤ b → b < 2 ^ k →
    (QR (.nx [some (.int (Int.gcd a b)), some (.int 0)] S)) →
    wR (whlL (evT P F (.v (.cmp .NotEq (.var 1) (.cst (.int 0))))) (evB P F [.asg (.tp [(.nm 0), (.nm 1)]) (.tup [(.var 1), (.bin .Mod (.var 0) (.var 1))])]) n [some (.int a), some (.int b)] S) QR := by
  intro k
  have turn := @div_turn P F S
  induction k with
  | zero =>
    intro n a b QR hl ha hb hk hq
    have hb0 : b = 0 := by simp at hk; omega
    subst hb0
    rw [Int.gcd_zero_right] at hq
    have e : ((a.natAbs : Nat) : Int) = a := Int.natAbs_of_nonneg ha
    rw [e] at hq
    match n, hl with
    | n + 1, _ => exact turn n a 0 _ (fun _ => hq) (fun h => absurd rfl h) hb
  | succ k ih =>
    intro n a b QR hl ha hb hk hq
    match n, hl with
    | n + 2, hl =>
      refine turn (n + 1) a b _ (fun h => ?_) (fun h hp => ?_) hb
      · subst h
        rw [Int.gcd_zero_right] at hq
        rw [Int.natAbs_of_nonneg ha] at hq
        exact hq
      · have hr0 := Int.emod_nonneg a h
        have hr1 := Int.emod_lt_of_pos a hp
        refine turn n b (a % b) _ (fun h' => ?_) (fun h' hp' => ?_) hr0
        · rw [h']
          have := gcd_step a b
          rw [h', Int.gcd_zero_right] at this
          rw [← this, Int.natAbs_of_nonneg hb] at hq
          exact hq
        · refine ih n (a % b) (b % (a % b)) QR (by omega) hr0 (Int.emod_nonneg _ h') (half_mod hp' hr1 (by rw [Int.pow_succ] at hk; omega)) ?_
          rw [gcd_step, gcd_step]; exact hq

theorem div_any {P : Pg} {F : Fo} {S : Sto} (a b : Int) (QR : RS → Prop) (hb : 0 < b) (hk : b < 2 ^ 900)
    (hq : QR (.nx [some (.int (Int.gcd a b)), some (.int 0)] S)) :
    wR (whlL (evT P F (.v (.cmp .NotEq (.var 1) (.cst (.int 0))))) (evB P F [.asg (.tp [(.nm 0), (.nm 1)]) (.tup [(.var 1), (.bin .Mod (.var 0) (.var 1))])]) 1000000 [some (.int a), some (.int b)] S) QR := by
  refine div_turn 999999 a b QR (fun h => by omega) (fun h _ => ?_) (by omega)
  have h0 := Int.emod_nonneg a h
  have h1 := Int.emod_lt_of_pos a hb
  refine div_loop 900 999999 b (a % b) QR (by omega) (by omega) h0 (by omega) ?_
  rw [gcd_step]; exact hq

end Mi
end
section
set_option autoImplicit false
/-! Pl3: repr -/
namespace Mi
open PySem
mutual
def bnd : PyData → Nat
  | .none => 4
  | .bool _ => 5
  | .int _ => 1921
  | .str x => (reprText x).length
  | .list xs => 2 + bndAll xs
  | .tuple xs => 3 + bndAll xs
  | .dict kvs => (PyData.dict kvs).shown.length
def bndAll : List PyData → Nat
  | [] => 0
  | x :: r => bnd x + 2 + bndAll r
end
theorem join_len (sep : Str) : ∀ xs : List Str, (Str.join sep xs).length ≤ (xs.map fun x => x.length + sep.length).sum
  | [] => by simp [Str.join]; rfl
  | [x] => by simp [Str.join]
  | x :: y :: r => by
    have h := join_len sep (y :: r)
    simp only [Str.join, List.map_cons, List.sum_cons, strLen_append] at h ⊢
    omega
mutual
theorem shown_le : ∀ p : PyData, p.showable = true → p.shown.length ≤ bnd p
  | .none, _ => by decide
  | .bool b, _ => by cases b <;> decide
  | .int i, h => by
    simp only [PyData.showable, decide_eq_true_eq] at h
    rw [PyData.shown_int]
    exact PyProof.Rows.int_text_len_1921 h
  | .str x, _ => by rw [PyData.shown_str]; exact Nat.le_refl _
  | .list xs, h => by
    have := shownAll_le xs (by simpa only [PyData.showable] using h)
    have hj := join_len ", " (PyData.shownAll xs)
    rw [PyData.shown_list, strLen_append, strLen_append]
    have e1 : (("[" : Str)).length = 1 := by decide
    have e2 : (("]" : Str)).length = 1 := by decide
    have e3 : ((", " : Str)).length = 2 := by decide
    rw [e3] at hj
    simp only [bnd]
    omega
  | .tuple xs, h => by
    have := shownAll_le xs (by simpa only [PyData.showable] using h)
    have hj := join_len ", " (PyData.shownAll xs)
    have e3 : ((", " : Str)).length = 2 := by decide
    rw [e3] at hj
    have e : (PyData.tuple xs).shown = tupleText (PyData.shownAll xs) := by simp only [PyData.shown]
    rw [e]
    unfold tupleText
    rw [strLen_append, strLen_append]
    have e1 : (Str.ofString "(").length = 1 := by decide
    have e2 : (Str.ofString (if ((PyData.shownAll xs).length == 1) = true then ",)" else ")")).length ≤ 2 := by split <;> decide
    simp only [bnd]
    have e4 : ((Str.ofString ", ").join (PyData.shownAll xs)).length = ((", " : Str).join (PyData.shownAll xs)).length := rfl
    omega
  | .dict kvs, _ => Nat.le_refl _
theorem shownAll_le : ∀ xs : List PyData, PyData.showableAll xs = true → ((PyData.shownAll xs).map fun x => x.length + 2).sum ≤ bndAll xs
  | [], _ => by simp [PyData.shownAll, bndAll]
  | x :: r, h => by
    have h : x.showable = true ∧ PyData.showableAll r = true := by simpa only [PyData.showableAll, Bool.and_eq_true] using h
    have h1 := shown_le x h.1
    have h2 := shownAll_le r h.2
    simp only [PyData.shownAll, List.map_cons, List.sum_cons, bndAll]
    omega
end
theorem repr_ok {S : Sto} {x : D} {p : PyData} (h : toD (der S x) = some p) (hs : p.showable = true) (hd : p.depth ≤ deep) (hl : bnd p ≤ LIM) : bltD S .repr [x] = some (.str p.shown) := by
  have := shown_le p hs
  simp only [bltD, h, hs, Bool.true_and]
  rw [if_pos (by simp only [Bool.and_eq_true, decide_eq_true_eq]; exact ⟨hd, by omega⟩)]
theorem eqvAll_strs : ∀ l : List Str, PyData.eqvAll (l.map .str) (l.map .str) = true
  | [] => by simp [PyData.eqvAll]
  | a :: l => by simp [PyData.eqvAll, PyData.eqv, eqvAll_strs l]
theorem dep_strs : ∀ l : List Str, PyData.depthAll (l.map .str) = 0
  | [] => by simp [PyData.depthAll]
  | a :: l => by simp [PyData.depthAll, PyData.depth, dep_strs l]
theorem toPs_strs : ∀ l : List Str, toPs (l.map .str) = some (l.map .str)
  | [] => rfl
  | a :: l => by simp [toPs, toP, toPs_strs l]
/-- tuples of texts, one and the same -/
theorem o_ne_strs {S : Sto} {l : List Str} {q : Bool → Prop} (h : q false) : wO (cmpD S .NotEq (.tup (l.map .str)) (.tup (l.map .str))) q := by
  refine wO_some ?_ h
  show (eqPy S (.tup (l.map .str)) (.tup (l.map .str))).map (!·) = _
  unfold eqPy
  simp only [der, toP, toPs_strs, Option.map_some]
  rw [if_pos (by simp only [PyData.depth, dep_strs, deep]; omega)]
  simp [PyData.eqv, eqvAll_strs]
theorem o_ne_str {S : Sto} {x y : Str} {q : Bool → Prop} (h : q (!decide (x = y))) : wO (cmpD S .NotEq (.str x) (.str y)) q := by
  refine wO_some ?_ h
  show (eqPy S (.str x) (.str y)).map (!·) = _
  unfold eqPy
  simp only [der, toP]
  rw [if_pos (by simp only [PyData.depth, deep]; omega)]
  by_cases h : x = y
  · subst h; simp [PyData.eqv]
  · simp [PyData.eqv, h]
theorem o_eq_str {S : Sto} {x y : Str} {q : Bool → Prop} (h : q (decide (x = y))) : wO (cmpD S .Eq (.str x) (.str y)) q := by
  refine wO_some ?_ h
  show (eqPy S (.str x) (.str y)) = _
  unfold eqPy
  simp only [der, toP]
  rw [if_pos (by simp only [PyData.depth, deep]; omega)]
  by_cases h : x = y
  · subst h; simp [PyData.eqv]
  · simp [PyData.eqv, h]
end Mi
end
section
set_option autoImplicit false
/-! Pl4: the pen -/
namespace Mi
open PySem
abbrev penO (cs : List Int) (a dg ct fo : Int) : MO := .dk [(.inr "cells", .lst (cs.map .int)), (.inr "at", .int a), (.inr "digits", .int dg), (.inr "count", .int ct), (.inr "fold", .int fo)]
section
variable {cs : List Int} {a dg ct fo i : Int} {T : Sto} {q : D → Prop} {q' : Sto → Prop}
theorem g_cells (h : q (.lst (cs.map .int))) : wO (idxD (penO cs a dg ct fo :: T) (.loc 0) (.str "cells")) q := h
theorem g_at (h : q (.int a)) : wO (idxD (penO cs a dg ct fo :: T) (.loc 0) (.str "at")) q := h
theorem g_digits (h : q (.int dg)) : wO (idxD (penO cs a dg ct fo :: T) (.loc 0) (.str "digits")) q := h
theorem g_count (h : q (.int ct)) : wO (idxD (penO cs a dg ct fo :: T) (.loc 0) (.str "count")) q := h
theorem g_fold (h : q (.int fo)) : wO (idxD (penO cs a dg ct fo :: T) (.loc 0) (.str "fold")) q := h
theorem p_at (h : q' (penO cs i dg ct fo :: T)) : wO (setD (penO cs a dg ct fo :: T) (.loc 0) (.str "at") (.int i)) q' := h
theorem p_digits (h : q' (penO cs a i ct fo :: T)) : wO (setD (penO cs a dg ct fo :: T) (.loc 0) (.str "digits") (.int i)) q' := h
theorem p_count (h : q' (penO cs a dg i fo :: T)) : wO (setD (penO cs a dg ct fo :: T) (.loc 0) (.str "count") (.int i)) q' := h
theorem p_fold (h : q' (penO cs a dg ct i :: T)) : wO (setD (penO cs a dg ct fo :: T) (.loc 0) (.str "fold") (.int i)) q' := h
end
/-- the pen behind at most c draws -/
def Pen (c : Nat) (p : MO) : Prop := ∃ cs a dg ct fo, p = penO cs a dg ct fo ∧ 0 ≤ a ∧ a ≤ (cs.length : Int) ∧ 0 ≤ dg ∧ 0 ≤ ct ∧ ct ≤ c ∧ 0 ≤ fo ∧ fo < 2147483587
theorem Pen.mono {c d : Nat} {p : MO} (h : Pen c p) (hd : c ≤ d) : Pen d p := by
  obtain ⟨cs, a, dg, ct, fo, e, h1, h2, h3, h4, h5, h6, h7⟩ := h
  exact ⟨cs, a, dg, ct, fo, e, h1, h2, h3, h4, by omega, h6, h7⟩
theorem o_lenL {S : Sto} {xs : List D} {q : D → Prop} (h : q (.int xs.length)) : wO (bltD S .len [.lst xs]) q := h
theorem o_lenT {S : Sto} {xs : List D} {q : D → Prop} (h : q (.int xs.length)) : wO (bltD S .len [.tup xs]) q := h
theorem o_idxL {S : Sto} {xs : List D} {k : Int} {q : D → Prop} (h : wO (L2.atI xs k) q) : wO (idxD S (.lst xs) (.int k)) q := h
theorem o_idxT {S : Sto} {xs : List D} {k : Int} {q : D → Prop} (h : wO (L2.atI xs k) q) : wO (idxD S (.tup xs) (.int k)) q := h
theorem at_ok {α : Type} {xs : List α} {k : Int} {q : α → Prop} (h0 : 0 ≤ k) (h1 : k < xs.length) (h : ∀ (j : Nat) (x : α), xs[j]? = some x → k = j → q x) : wO (L2.atI xs k) q := by
  obtain ⟨j, rfl⟩ := Int.eq_ofNat_of_zero_le h0
  have hj : j < xs.length := by omega
  exact wO_some (L2.atI_nat (List.getElem?_eq_getElem hj)) (h j _ (List.getElem?_eq_getElem hj) rfl)

local macro_rules | `(tactic| walk_at "k") => `(tactic| with_reducible first
  | refine e_cst ?_ | refine s_cons ?_ | refine s_nil ?_ | refine e_bin ?_ | refine e_idx ?_ | refine e_cmp ?_ | refine e_call ?_ | refine e_blt ?_
  | refine e_tup ?_ | refine e_lst ?_ | refine e_dct ?_ | refine e_and ?_ | refine e_and2 ?_ | refine e_and1 ?_ | refine e_or ?_ | refine e_or2 ?_ | refine e_or1 ?_
  | refine e_not ?_ | refine e_ite ?_ | refine e_neg ?_ | refine e_slc ?_ | refine e_att ?_ | refine e_mth ?_ | refine e_bmt ?_ | refine e_alcL ?_
  | refine wp_none ?_ | refine wp_some ?_
  | refine t_v ?_ | refine t_and ?_ | refine t_or ?_ | refine t_not ?_ | refine t_ite ?_ | refine ta_nil ?_ | refine ta_cons ?_ | refine to_nil ?_ | refine to_cons ?_
  | refine wi_seq ?_ | refine wi_rg1 ?_ | refine wi_rg2 ?_
  | refine b_cons ?_ | refine b_nil ?_ | refine s_asg ?_ | refine s_setI ?_ | refine s_setA ?_ | refine s_exp ?_ | refine s_ret ?_ | refine s_retN ?_ | refine s_iff ?_
  | refine s_pas ?_ | refine s_brk ?_ | refine s_cnt ?_ | refine s_for ?_
  | refine o_add ?_ | refine o_sub ?_ | refine o_lt ?_ | refine o_le ?_ | refine o_gt ?_ | refine o_ge ?_ | refine o_eq ?_ | refine o_ne ?_ | refine o_trub ?_
  | refine ab_nx ?_ | refine ab_rt ?_ | refine ab_bk ?_ | refine ab_ct ?_
  | refine m_tp ?_ | refine ms_cons ?_ | refine ms_nil ?_ | refine m_nm (by repeat first | exact SetR.z | apply SetR.s) ?_
  | refine o_int ?_ | refine o_abs ?_
  | refine lim_ok (by with_unfolding_all exact rfl) ?_ | refine e_var (by with_unfolding_all exact rfl) ?_
  | refine e_glb (by with_unfolding_all exact rfl) ?_)

local macro_rules | `(tactic| walk_at "k") => `(tactic| with_reducible first
  | refine g_cells ?_ | refine g_at ?_ | refine g_digits ?_ | refine g_count ?_ | refine g_fold ?_
  | refine p_at ?_ | refine p_digits ?_ | refine p_count ?_ | refine p_fold ?_)
local macro_rules | `(tactic| walk_at "k") => `(tactic| with_reducible first | refine o_lenL ?_ | refine o_lenT ?_ | refine o_idxL ?_ | refine o_idxT ?_)


def drawB2 : List MS := [.iff (.v (.cmp .Gt (.idx (.var 0) (.cst (.str "digits"))) (.cst (.int 0)))) [.asg (.nm 3) (.bin .Mod (.blt .int [(.idx (.var 0) (.cst (.str "digits")))]) (.var 1)), .setI (.var 0) (.cst (.str "digits")) (.bin .FloorDiv (.idx (.var 0) (.cst (.str "digits"))) (.var 1)), .ret (.var 3)] [], .asg (.nm 4) (.bin .Add (.bin .Add (.idx (.var 0) (.cst (.str "fold"))) (.bin .Mult (.idx (.var 0) (.cst (.str "count"))) (.cst (.int 7907)))) (.cst (.int 41))), .ret (.bin .Mod (.bin .FloorDiv (.blt .int [(.bin .Mod (.bin .Pow (.var 4) (.cst (.int 17))) (.cst (.int 2305843009213693951)))]) (.cst (.int 128))) (.var 1))]
def drawB : List MS := .setI (.var 0) (.cst (.str "count")) (.bin .Add (.idx (.var 0) (.cst (.str "count"))) (.cst (.int 1))) :: .iff (.and [(.v (.cmp .Eq (.idx (.var 0) (.cst (.str "digits"))) (.cst (.int 0)))), (.v (.cmp .Lt (.idx (.var 0) (.cst (.str "at"))) (.blt .len [(.idx (.var 0) (.cst (.str "cells")))])))]) [.asg (.nm 2) (.idx (.idx (.var 0) (.cst (.str "cells"))) (.idx (.var 0) (.cst (.str "at")))), .setI (.var 0) (.cst (.str "at")) (.bin .Add (.idx (.var 0) (.cst (.str "at"))) (.cst (.int 1))), .iff (.v (.cmp .GtE (.var 2) (.bin .Pow (.cst (.int 10)) (.cst (.int 18))))) [.setI (.var 0) (.cst (.str "digits")) (.bin .Sub (.var 2) (.bin .Pow (.cst (.int 10)) (.cst (.int 18))))] [.setI (.var 0) (.cst (.str "fold")) (.bin .Mod (.blt .int [(.bin .Add (.bin .Mult (.idx (.var 0) (.cst (.str "fold"))) (.cst (.int 69069))) (.var 2))]) (.cst (.int 2147483587)))]] [] :: drawB2

section
variable {P : Pg} {F : Fo} {c : Nat} {T : Sto} {QR : RS → Prop}
theorem draw2_w {cs : List Int} {a dg ct fo m : Int} {o1 o2 o3 : Option D} (_ : 0 ≤ a) (_ : a ≤ (cs.length : Int)) (hd : 0 ≤ dg) (h0 : 0 ≤ ct) (h1 : ct ≤ 1000000000000) (hf0 : 0 ≤ fo) (hf1 : fo < 2147483587)
    (hm : 0 < m) (hm2 : m < 2 ^ 64) (h : ∀ r dg', 0 ≤ r → r < m → 0 ≤ dg' → QR (.rt (.int r) (penO cs a dg' ct fo :: T))) :
    wR (evB P F drawB2 [some (.loc 0), some (.int m), o1, o2, o3] (penO cs a dg ct fo :: T)) QR := by
  unfold drawB2
  repeat walk_at "k"
  refine ⟨fun hg => ?_, fun hg => ?_⟩
  · have hg := of_decide_eq_true hg
    repeat walk_at "k"
    refine o_mod hm ?_
    repeat walk_at "k"
    refine o_div (divG_of (b := 64) hm (by omega) (by omega) (by omega)) ?_
    repeat walk_at "k"
    exact h _ _ (Int.emod_nonneg _ (by omega)) (Int.emod_lt_of_pos _ hm) (Int.ediv_nonneg (by omega) (by omega))
  · repeat walk_at "k"
    refine o_mul (mulG_of (a := 64) (b := 64) (by omega) (by omega) (by omega) (by omega) (by omega)) ?_
    repeat walk_at "k"
    refine o_pow (by simp only [powG, Bool.and_eq_true, decide_eq_true_eq]; omega) ?_
    repeat walk_at "k"
    refine o_mod (by omega) ?_
    repeat walk_at "k"
    refine o_div (by decide) ?_
    repeat walk_at "k"
    refine o_mod hm ?_
    repeat walk_at "k"
    exact h _ _ (Int.emod_nonneg _ (by omega)) (Int.emod_lt_of_pos _ hm) hd
theorem draw_w {p : MO} {m : Int} (hp : Pen c p) (hc : c < 1000000000000) (hm : 0 < m) (hm2 : m < 2 ^ 64) (h : ∀ r p', 0 ≤ r → r < m → Pen (c + 1) p' → QR (.rt (.int r) (p' :: T))) :
    wR (evB P F drawB (env0 5 [.loc 0, .int m]) (p :: T)) QR := by
  obtain ⟨cs, a, dg, ct, fo, rfl, h1, h2, h3, h4, h5, h6, h7⟩ := hp
  show wR (evB P F drawB [some (.loc 0), some (.int m), none, none, none] _) QR
  unfold drawB
  have fin : ∀ (o1 o2 o3 : Option D) (a' dg' fo' : Int), 0 ≤ a' → a' ≤ (cs.length : Int) → 0 ≤ dg' → 0 ≤ fo' → fo' < 2147483587 →
      wR (evB P F drawB2 [some (.loc 0), some (.int m), o1, o2, o3] (penO cs a' dg' (ct + 1) fo' :: T)) QR := fun o1 o2 o3 a' dg' fo' e1 e2 e3 e4 e5 =>
    draw2_w e1 e2 e3 (by omega) (by omega) e4 e5 hm hm2 fun r d k1 k2 k3 => h r _ k1 k2 ⟨cs, a', d, ct + 1, fo', rfl, e1, e2, k3, by omega, by omega, e4, e5⟩
  repeat walk_at "k"
  have skip : wR (evB P F [] [some (.loc 0), some (.int m), none, none, none] (penO cs a dg (ct + 1) fo :: T)) (andB P F drawB2 QR) := b_nil (ab_nx (fin _ _ _ _ _ _ h1 h2 h3 h6 h7))
  refine ⟨fun hg => ?_, fun hg => ⟨fun e => (nomatch e), fun _ => skip⟩⟩
  repeat walk_at "k"
  refine ⟨fun hg' => ⟨fun _ => ?_, fun e => (nomatch e)⟩, fun hg' => ⟨fun e => (nomatch e), fun _ => skip⟩⟩
  have hg' := of_decide_eq_true hg'
  repeat walk_at "k"
  refine at_ok h1 hg' fun j x hj ej => ?_
  rw [List.getElem?_map] at hj
  cases hx : cs[j]? with
  | none => rw [hx] at hj; cases hj
  | some i =>
    rw [hx] at hj
    cases hj
    have hal0 : a < (cs.length : Int) := by simpa using hg'
    have hal : a + 1 ≤ (cs.length : Int) := by omega
    repeat walk_at "k"
    refine o_pow (by decide) ?_
    repeat walk_at "k"
    refine ⟨fun hg2 => ?_, fun hg2 => ?_⟩
    · have hg2 := of_decide_eq_true hg2
      repeat walk_at "k"
      refine o_pow (by decide) ?_
      repeat walk_at "k"
      exact fin _ _ _ _ _ _ (by omega) hal (by omega) h6 h7
    · repeat walk_at "k"
      refine o_mul (mulG_of (a := 64) (b := 64) (by omega) (by omega) (by omega) (by omega) (by omega)) ?_
      repeat walk_at "k"
      refine o_mod (by omega) ?_
      repeat walk_at "k"
      exact fin _ _ _ _ _ _ (by omega) hal h3 (Int.emod_nonneg _ (by omega)) (Int.emod_lt_of_pos _ (by omega))
end
end Mi
end
section
set_option autoImplicit false
/-! Pl5: numbers of ratios -/
namespace Mi
open PySem
local macro_rules | `(tactic| walk_at "k") => `(tactic| with_reducible first
  | refine e_cst ?_ | refine s_cons ?_ | refine s_nil ?_ | refine e_bin ?_ | refine e_idx ?_ | refine e_cmp ?_ | refine e_call ?_ | refine e_blt ?_
  | refine e_tup ?_ | refine e_lst ?_ | refine e_dct ?_ | refine e_and ?_ | refine e_and2 ?_ | refine e_and1 ?_ | refine e_or ?_ | refine e_or2 ?_ | refine e_or1 ?_
  | refine e_not ?_ | refine e_ite ?_ | refine e_neg ?_ | refine e_slc ?_ | refine e_att ?_ | refine e_mth ?_ | refine e_bmt ?_ | refine e_alcL ?_
  | refine wp_none ?_ | refine wp_some ?_
  | refine t_v ?_ | refine t_and ?_ | refine t_or ?_ | refine t_not ?_ | refine t_ite ?_ | refine ta_nil ?_ | refine ta_cons ?_ | refine to_nil ?_ | refine to_cons ?_
  | refine wi_seq ?_ | refine wi_rg1 ?_ | refine wi_rg2 ?_
  | refine b_cons ?_ | refine b_nil ?_ | refine s_asg ?_ | refine s_setI ?_ | refine s_setA ?_ | refine s_exp ?_ | refine s_ret ?_ | refine s_retN ?_ | refine s_iff ?_
  | refine s_pas ?_ | refine s_brk ?_ | refine s_cnt ?_ | refine s_for ?_
  | refine o_add ?_ | refine o_sub ?_ | refine o_lt ?_ | refine o_le ?_ | refine o_gt ?_ | refine o_ge ?_ | refine o_eq ?_ | refine o_ne ?_ | refine o_trub ?_
  | refine ab_nx ?_ | refine ab_rt ?_ | refine ab_bk ?_ | refine ab_ct ?_
  | refine m_tp ?_ | refine ms_cons ?_ | refine ms_nil ?_ | refine m_nm (by repeat first | exact SetR.z | apply SetR.s) ?_
  | refine o_int ?_ | refine o_abs ?_
  | refine lim_ok (by with_unfolding_all exact rfl) ?_ | refine e_var (by with_unfolding_all exact rfl) ?_
  | refine e_glb (by with_unfolding_all exact rfl) ?_)

local macro_rules | `(tactic| walk_at "k") => `(tactic| with_reducible first
  | refine g_cells ?_ | refine g_at ?_ | refine g_digits ?_ | refine g_count ?_ | refine g_fold ?_
  | refine p_at ?_ | refine p_digits ?_ | refine p_count ?_ | refine p_fold ?_)
local macro_rules | `(tactic| walk_at "k") => `(tactic| with_reducible first | refine o_lenL ?_ | refine o_lenT ?_ | refine o_idxL ?_ | refine o_idxT ?_)

/-- below 2^k, both ways -/
def Bd (k : Nat) (i : Int) : Prop := i.natAbs < 2 ^ k
theorem Bd.mul {a b : Nat} {i j : Int} (h : Bd a i) (h' : Bd b j) : Bd (a + b) (i * j) := by
  unfold Bd at *
  rw [Int.natAbs_mul, Nat.pow_add]
  exact Nat.mul_lt_mul'' h h'
theorem Bd.mono {a b : Nat} {i : Int} (h : Bd a i) (hb : a ≤ b) : Bd b i := Nat.lt_of_lt_of_le h (Nat.pow_le_pow_right (by omega) hb)
theorem Bd.add {a : Nat} {i j : Int} (h : Bd a i) (h' : Bd a j) : Bd (a + 1) (i + j) := by
  unfold Bd at *
  have := Int.natAbs_add_le i j
  rw [Nat.pow_succ]; omega
theorem Bd.neg {a : Nat} {i : Int} (h : Bd a i) : Bd a (-i) := by unfold Bd at *; rw [Int.natAbs_neg]; exact h
theorem Bd.sub {a : Nat} {i j : Int} (h : Bd a i) (h' : Bd a j) : Bd (a + 1) (i - j) := by
  rw [Int.sub_eq_add_neg]; exact h.add h'.neg
theorem Bd.div {a : Nat} {i : Int} (g : Int) (h : Bd a i) : Bd a (i / g) := Nat.lt_of_le_of_lt (Int.natAbs_ediv_le_natAbs i g) h
theorem Bd.mulG {a b : Nat} {i j : Int} (h : Bd a i) (h' : Bd b j) (ha : 0 < a := by omega) (hb : 0 < b := by omega) (hl : a + b ≤ 1000000 := by omega) : mulG i j = true := mulG_of h h' ha hb hl
theorem Bd.divG {b : Nat} {j : Int} (h : Bd b j) (h0 : 0 < j) (hb : 0 < b := by omega) (hl : b ≤ 9000 := by omega) : divG j = true := divG_of h0 h hb hl
theorem Bd.show {a : Nat} {i : Int} (h : Bd a i) (ha : 0 < a := by omega) (hl : a ≤ 1920 := by omega) : i.natAbs.log2 < 1920 := Nat.lt_of_lt_of_le (log2_lt h ha) hl
theorem Bd.gcd {a : Nat} {t b : Int} (h : Bd a b) (hb : b ≠ 0) : Bd a (Int.gcd t b) := by
  unfold Bd at *
  have := Int.gcd_le_natAbs_right (a := t) hb
  omega
theorem gcd_pos {t b : Int} (hb : 0 < b) : (0 : Int) < Int.gcd t b := by
  have := Int.gcd_pos_of_ne_zero_right t (show b ≠ 0 by omega)
  omega
/-- a pair in lowest terms -/
abbrev pr (t b : Int) : D := .tup [.int t, .int b]
abbrev low (t b : Int) : D := pr (t / Int.gcd t b) (b / Int.gcd t b)
/-- a ratio in lowest terms -/
structure Rt (k : Nat) (t b : Int) : Prop where
  pos : 0 < b
  cop : Int.gcd t b = 1
  top : Bd k t
  bot : Bd k b
theorem low_pos {t b : Int} (hb : 0 < b) : 0 < b / (Int.gcd t b : Int) :=
  Int.ediv_pos_of_pos_of_dvd hb (by omega) (Int.gcd_dvd_right ..)
theorem low_Rt {k : Nat} {t b : Int} (hb : 0 < b) (h1 : Bd k t) (h2 : Bd k b) : Rt k (t / Int.gcd t b) (b / Int.gcd t b) :=
  ⟨low_pos hb, Int.gcd_ediv_gcd_ediv_gcd_of_ne_zero_right (by omega), h1.div _, h2.div _⟩
theorem Rt.neg {k : Nat} {t b : Int} (h : Rt k t b) : Rt k (-t) b := ⟨h.pos, by rw [Int.neg_gcd]; exact h.cop, h.top.neg, h.bot⟩
/-- what a caller may pass for a ratio -/
def Pas (t b : Int) (x : D) : Prop := (x = .int t ∧ b = 1) ∨ ∃ k : Int, 0 < k ∧ Bd 3 k ∧ (x = .tup [.int (t * k), .int (b * k)] ∨ x = .lst [.int (t * k), .int (b * k)])
theorem low_mul {t b k : Int} (h : Int.gcd t b = 1) (hk : 0 < k) : low (t * k) (b * k) = pr t b := by
  have e : (Int.gcd (t * k) (b * k) : Int) = k := by
    rw [Int.gcd_mul_right, h]; omega
  show D.tup [.int (t * k / Int.gcd (t * k) (b * k)), .int (b * k / Int.gcd (t * k) (b * k))] = _
  rw [e, Int.mul_ediv_cancel _ (by omega), Int.mul_ediv_cancel _ (by omega)]
theorem bnd_ok (S : Sto) (x : D) (p : PyData) (h : toD (der S x) = some p) (hs : p.showable = true) (hd : p.depth ≤ deep) (hl : bnd p ≤ LIM) : ∃ s, bltD S .repr [x] = some (.str s) := ⟨_, repr_ok h hs hd hl⟩
/-- two told pairs as text -/
theorem repr_2 {S : Sto} {a b c d : Int} (ha : Bd 900 a) (hb : Bd 900 b) (hc : Bd 900 c) (hd : Bd 900 d) : ∃ s, bltD S .repr [.tup [pr a b, pr c d]] = some (.str s) := by
  refine bnd_ok S _ _ rfl ?_ ?_ ?_
  · simp only [PyData.showable, PyData.showableAll, ha.show, hb.show, hc.show, hd.show, decide_true, Bool.and_self]
  · simp only [PyData.depth, PyData.depthAll, deep]; omega
  · simp only [bnd, bndAll, LIM]; omega
theorem at2_0 {α : Type} {x y : α} {q : α → Prop} (h : q x) : wO (L2.atI [x, y] 0) q := h
theorem at2_1 {α : Type} {x y : α} {q : α → Prop} (h : q y) : wO (L2.atI [x, y] 1) q := h
theorem o_addL {S : Sto} {xs ys : List D} {q : D → Prop} (hl : xs.length + ys.length ≤ 16777216) (h : q (.lst (xs ++ ys))) : wO (binD S .Add (.lst xs) (.lst ys)) q := by
  refine wO_some ?_ h
  show (if xs.length + ys.length ≤ LIM then some (D.lst (xs ++ ys)) else none) = _
  exact if_pos (show _ ≤ LIM from hl)
theorem o_addT {S : Sto} {xs ys : List D} {q : D → Prop} (hl : xs.length + ys.length ≤ 16777216) (h : q (.tup (xs ++ ys))) : wO (binD S .Add (.tup xs) (.tup ys)) q := by
  refine wO_some ?_ h
  show (if xs.length + ys.length ≤ LIM then some (D.tup (xs ++ ys)) else none) = _
  exact if_pos (show _ ≤ LIM from hl)
theorem n_int {i : Int} {q : Int → Prop} (h : q i) : wO (intOf (.int i)) q := h
theorem o_isT {S : Sto} {a b : Bool} {q : Bool → Prop} (h : q (a == b)) : wO (cmpD S .Is (.bl a) (.bl b)) q := h
theorem o_isint {S : Sto} {i : Int} {q : D → Prop} (h : q (.bl true)) : wO (bltD S .isinst [.int i, .ty "int"]) q := h
theorem o_isbool {S : Sto} {i : Int} {q : D → Prop} (h : q (.bl false)) : wO (bltD S .isinst [.int i, .ty "bool"]) q := h
theorem o_tupint {S : Sto} {xs : List D} {q : D → Prop} (h : q (.bl false)) : wO (bltD S .isinst [.tup xs, .ty "int"]) q := h
theorem o_lstint {S : Sto} {xs : List D} {q : D → Prop} (h : q (.bl false)) : wO (bltD S .isinst [.lst xs, .ty "int"]) q := h
theorem o_tuptl {S : Sto} {xs : List D} {q : D → Prop} (h : q (.bl true)) : wO (bltD S .isinst [.tup xs, .tup [.ty "tuple", .ty "list"]]) q := h
theorem o_lsttl {S : Sto} {xs : List D} {q : D → Prop} (h : q (.bl true)) : wO (bltD S .isinst [.lst xs, .tup [.ty "tuple", .ty "list"]]) q := h
/-- the pen's fold: the whole script -/
def penB : List MS := [.asg (.nm 1) (.cst (.int 0)), .for (.nm 2) (.seq (.var 0)) [.asg (.nm 1) (.bin .Mod (.blt .int [(.bin .Add (.bin .Mult (.var 1) (.cst (.int 43))) (.var 2))]) (.cst (.int 1000000007)))], .ret (.alc (.dct [.inr "cells", .inr "at", .inr "digits", .inr "count", .inr "fold"] [(.blt .list [(.var 0)]), (.cst (.int 0)), (.cst (.int 0)), (.cst (.int 0)), (.var 1)]))]
theorem lfs_ints (n : Nat) : ∀ l : List Int, lfs n (l.map .int) = true
  | [] => rfl
  | _ :: l => by simp [lfs, lf, lfs_ints n l]
theorem pen_w {P : Pg} {F : Fo} {ns : List Int} {Q : D → Sto → Prop} {X : XP} (h : ∀ p, Pen 0 p → Q (.loc 0) [p]) :
    wR (evB P F penB (env0 3 [.scr (ns.map .int)]) []) (andF true [] Q X) := by
  show wR (evB P F penB [some (.scr (ns.map .int)), none, none] []) _
  unfold penB
  repeat walk_at "k"
  refine wO_some (d := ns.map .int) rfl ?_
  refine forL_thru (fun _ v S => S = [] ∧ ∃ fo o, v = [some (.scr (ns.map .int)), some (.int fo), o] ∧ 0 ≤ fo ∧ fo < 1000000007) _ 0 _ _ ⟨rfl, 0, none, rfl, by omega, by omega⟩ (fun _ _ _ _ => rfl) ?_ ?_
  · rintro j x v S hx ⟨rfl, fo, o, rfl, h1, h2⟩
    rw [List.getElem?_map] at hx
    cases hi : ns[j]? with
    | none => rw [hi] at hx; cases hx
    | some i =>
      rw [hi] at hx; cases hx
      refine step_w ?_
      repeat walk_at "k"
      refine o_mul (mulG_of (a := 64) (b := 64) (by omega) (by omega) (by omega) (by omega) (by omega)) ?_
      repeat walk_at "k"
      refine o_mod (by omega) ?_
      repeat walk_at "k"
      exact ⟨rfl, _, _, rfl, Int.emod_nonneg _ (by omega), Int.emod_lt_of_pos _ (by omega)⟩
  · rintro v S ⟨rfl, fo, o, rfl, h1, h2⟩
    refine ab_nx ?_
    repeat walk_at "k"
    refine wO_some (d := .lst (ns.map .int)) rfl ?_
    repeat walk_at "k"
    refine wO_some (d := penO ns 0 0 0 fo) rfl ?_
    repeat walk_at "k"
    show wX (fin true [] (.loc 0) [penO ns 0 0 0 fo]) Q X
    have e : fin true [] (.loc 0) [penO ns 0 0 0 fo] = .ok (.loc 0) [penO ns 0 0 0 fo] := by
      have : lfM 0 (penO ns 0 0 0 fo) = true := by simp [lfM, lfK, lf, lfs_ints]
      simp [fin, okT, this]
    exact wX_eq e (h _ ⟨ns, 0, 0, 0, fo, rfl, by omega, by omega, by omega, by omega, by omega, h1, by omega⟩)
end Mi
end
section
set_option autoImplicit false
/-! Pl6: ratios as Rat, tests, comprehensions -/
namespace Mi
open PySem
theorem tt_l {A B : Prop} (h : A) : (true = true → A) ∧ (true = false → B) := ⟨fun _ => h, fun e => nomatch e⟩
theorem ff_l {A B : Prop} (h : B) : (false = true → A) ∧ (false = false → B) := ⟨fun e => (nomatch e), fun _ => h⟩
theorem tt_c {b : Bool} {A B : Prop} (e : b = true) (h : A) : (b = true → A) ∧ (b = false → B) := ⟨fun _ => h, fun e' => by rw [e] at e'; cases e'⟩
theorem ff_c {b : Bool} {A B : Prop} (e : b = false) (h : B) : (b = true → A) ∧ (b = false → B) := ⟨fun e' => (by rw [e] at e'; cases e'), fun _ => h⟩
theorem dec_c {p : Prop} [Decidable p] {A B : Prop} (h1 : p → A) (h2 : ¬ p → B) : (decide p = true → A) ∧ (decide p = false → B) := ⟨fun e => h1 (of_decide_eq_true e), fun e => h2 (of_decide_eq_false e)⟩
theorem ndec_c {p : Prop} [Decidable p] {A B : Prop} (h1 : ¬ p → A) (h2 : p → B) : ((!decide p) = true → A) ∧ ((!decide p) = false → B) :=
  ⟨fun e => h1 (by simpa using e), fun e => h2 (by simpa using e)⟩
theorem dec_t {p : Prop} [Decidable p] {A B : Prop} (hp : p) (h : A) : (decide p = true → A) ∧ (decide p = false → B) := tt_c (decide_eq_true hp) h
theorem dec_f {p : Prop} [Decidable p] {A B : Prop} (hp : ¬ p) (h : B) : (decide p = true → A) ∧ (decide p = false → B) := ff_c (decide_eq_false hp) h
theorem tt_n {A B : Prop} (h : B) : ((!true) = true → A) ∧ ((!true) = false → B) := ff_l h
theorem ff_n {A B : Prop} (h : A) : ((!false) = true → A) ∧ ((!false) = false → B) := tt_l h
theorem both {b : Bool} {A : Prop} (h : A) : (b = true → A) ∧ (b = false → A) := ⟨fun _ => h, fun _ => h⟩

/-! ### sizes -/
theorem Bd.lit {k : Nat} {i : Int} (h : Nat.blt i.natAbs (2 ^ k) = true) : Bd k i := by
  unfold Bd; simpa [Nat.blt_eq] using h
theorem Bd.add2 {a b : Nat} {i j : Int} (h : Bd a i) (h' : Bd b j) : Bd (a + b + 1) (i + j) := (h.mono (by omega) : Bd (a + b) i).add (h'.mono (by omega))
theorem Bd.sub2 {a b : Nat} {i j : Int} (h : Bd a i) (h' : Bd b j) : Bd (a + b + 1) (i - j) := (h.mono (by omega) : Bd (a + b) i).sub (h'.mono (by omega))
structure Bq (k : Nat) (q : Rat) : Prop where
  top : Bd k q.num
  bot : Bd k q.den
theorem Bq.mono {k l : Nat} {q : Rat} (h : Bq k q) (hl : k ≤ l) : Bq l q := ⟨h.top.mono hl, h.bot.mono hl⟩
theorem den_pos (q : Rat) : (0 : Int) < q.den := by have := q.den_pos; omega
abbrev dr (q : Rat) : D := pr q.num q.den
theorem divInt_num {t b : Int} (hb : 0 < b) : ((t : Rat) / (b : Rat)).num = t / (Int.gcd t b : Int) := by
  rw [← Rat.divInt_eq_div, Rat.num_divInt, Int.sign_eq_one_of_pos hb, Int.one_mul, Int.gcd_comm]
theorem divInt_den {t b : Int} (hb : 0 < b) : ((((t : Rat) / (b : Rat)).den : Nat) : Int) = b / (Int.gcd t b : Int) := by
  rw [← Rat.divInt_eq_div, Rat.den_divInt, if_neg (by omega), Int.gcd_comm, Int.natCast_ediv, Int.natAbs_of_nonneg (by omega)]
theorem low_dr {t b : Int} (hb : 0 < b) : low t b = dr ((t : Rat) / (b : Rat)) := by
  unfold dr; rw [divInt_num hb, divInt_den hb]
theorem Bq.frac {k : Nat} {t b : Int} (hb : 0 < b) (h1 : Bd k t) (h2 : Bd k b) : Bq k ((t : Rat) / (b : Rat)) :=
  ⟨by rw [divInt_num hb]; exact h1.div _, by rw [divInt_den hb]; exact h2.div _⟩
theorem frac_self (q : Rat) : ((q.num : Int) : Rat) / (((q.den : Nat) : Int) : Rat) = q := by
  rw [← Rat.divInt_eq_div]; exact Rat.num_divInt_den q
theorem frac_add (p q : Rat) : ((p.num * q.den + q.num * p.den : Int) : Rat) / ((p.den * q.den : Int) : Rat) = p + q := by
  rw [Rat.add_def', ← Rat.divInt_eq_div, ← Rat.divInt_ofNat, Int.natCast_mul]
theorem frac_sub (p q : Rat) : ((p.num * q.den - q.num * p.den : Int) : Rat) / ((p.den * q.den : Int) : Rat) = p - q := by
  rw [Rat.sub_def', ← Rat.divInt_eq_div, ← Rat.divInt_ofNat, Int.natCast_mul]
theorem frac_mul (p q : Rat) : ((p.num * q.num : Int) : Rat) / ((p.den * q.den : Int) : Rat) = p * q := by
  rw [Rat.mul_def', ← Rat.divInt_eq_div, ← Rat.divInt_ofNat, Int.natCast_mul]
theorem Bq.add {a b : Nat} {p q : Rat} (h : Bq a p) (h' : Bq b q) : Bq (a + b + 1) (p + q) := by
  rw [← frac_add]
  exact .frac (Int.mul_pos (den_pos p) (den_pos q)) ((h.top.mul h'.bot).add ((h'.top.mul h.bot).mono (by omega))) ((h.bot.mul h'.bot).mono (by omega))
theorem Bq.sub {a b : Nat} {p q : Rat} (h : Bq a p) (h' : Bq b q) : Bq (a + b + 1) (p - q) := by
  rw [← frac_sub]
  exact .frac (Int.mul_pos (den_pos p) (den_pos q)) ((h.top.mul h'.bot).sub ((h'.top.mul h.bot).mono (by omega))) ((h.bot.mul h'.bot).mono (by omega))
theorem Bq.mul {a b : Nat} {p q : Rat} (h : Bq a p) (h' : Bq b q) : Bq (a + b) (p * q) := by
  rw [← frac_mul]
  exact .frac (Int.mul_pos (den_pos p) (den_pos q)) (h.top.mul h'.top) (h.bot.mul h'.bot)
theorem Bq.neg {a : Nat} {p : Rat} (h : Bq a p) : Bq a (-p) := ⟨h.top.neg, h.bot⟩
theorem Bq.int {k : Nat} {i : Int} (h : Bd k i) (hk : 0 < k) : Bq k (i : Rat) := ⟨h, by
  show Bd k 1
  unfold Bd
  exact Nat.one_lt_two_pow (by omega)⟩
theorem lt_frac (p q : Rat) : decide (p.num * q.den < q.num * p.den) = decide (p < q) := by
  rw [decide_eq_decide, Rat.lt_iff]
/-- what a caller may pass for a ratio -/
inductive Pq (q : Rat) : D → Prop where
  | int {i : Int} (h : q = i) : Pq q (.int i)
  | tup {t b : Int} (hb : 0 < b) (h : q = (t : Rat) / (b : Rat)) (hk : Bd 800 b) : Pq q (.tup [.int t, .int b])
  | lst {t b : Int} (hb : 0 < b) (h : q = (t : Rat) / (b : Rat)) (hk : Bd 800 b) : Pq q (.lst [.int t, .int b])
theorem Pq.dr {q : Rat} {k : Nat} (h : Bq k q) (hk : k ≤ 800 := by omega) : Pq q (Mi.dr q) := .tup (den_pos q) (frac_self q).symm (h.bot.mono hk)
theorem dr_int (i : Int) : dr (i : Rat) = .tup [.int i, .int 1] := rfl
theorem frac_scale {q : Rat} {k : Int} (hk : 0 < k) : q = ((q.num * k : Int) : Rat) / ((q.den * k : Int) : Rat) := by
  conv => lhs; rw [← frac_self q]
  rw [← Rat.divInt_eq_div, ← Rat.divInt_eq_div, Rat.divInt_mul_right (by omega)]

theorem rat_int {q : Rat} (h : (q.den : Int) = 1) : q = (q.num : Rat) := Rat.ext rfl (by show q.den = 1; omega)
theorem pow1000 {j : Nat} (h : j ≤ 6) : (1000 : Int) ^ j ≤ 1000 ^ 6 := by
  have := Int.ofNat_le.mpr (Nat.pow_le_pow_right (n := 1000) (by omega) h)
  rw [Int.natCast_pow, Int.natCast_pow] at this
  exact this

/-! ### any values -/
def plainV : D → Bool
  | .non => true | .bl _ => true | .int _ => true | .str _ => true | .tup _ => true | .lst _ => true | .dct _ => true
  | _ => false
def wholeB : D → Bool
  | .int _ => true
  | _ => false
def posB : D → Bool
  | .int i => decide (0 < i)
  | _ => false
def pairB : List D → Bool
  | [a, b] => wholeB a && (wholeB b && posB b)
  | _ => false
def ratB : D → Bool
  | .int _ => true
  | .tup xs => pairB xs
  | .lst xs => pairB xs
  | _ => false
theorem o_isTrue {S : Sto} {x t : D} {q : D → Prop} (e : bltD S .isinst [x, t] = some (.bl true)) (h : q (.bl true)) : wO (bltD S .isinst [x, t]) q := by rw [e]; exact h
theorem o_isFalse {S : Sto} {x t : D} {q : D → Prop} (e : bltD S .isinst [x, t] = some (.bl false)) (h : q (.bl false)) : wO (bltD S .isinst [x, t]) q := by rw [e]; exact h
theorem and_rfl {p : Prop} {a b : Nat} (e : (a == b) = true) (h : p) : (a == b) = true ∧ p := ⟨e, h⟩
section
variable {keep : Bool} {S S' : Sto} {Q : D → Sto → Prop} {X : XP} {v : Env}
theorem andF_nx (h : wX (fin keep S .non S') Q X) : andF keep S Q X (.nx v S') := h
theorem andF_rt {d : D} (h : wX (fin keep S d S') Q X) : andF keep S Q X (.rt d S') := h
theorem andF_ex {c : Nat} {fs : List (Nat × D)} (h : wX (finX S c fs S') Q X) : andF keep S Q X (.ex c fs v S') := h
theorem o_ne3 {a b c : Str} {q : Bool → Prop} (h : q false) : wO (cmpD S .NotEq (.tup [.str a, .str b, .str c]) (.tup [.str a, .str b, .str c])) q := o_ne_strs (l := [a, b, c]) h
end

def notLoc : D → Bool
  | .loc _ => false
  | _ => true
theorem der_id {S : Sto} {x : D} (h : notLoc x = true) : der S x = x := by
  cases x <;> first | rfl | cases h
def repX (x : D) : Bool := notLoc x && (match toD x with
  | some p => p.showable && (decide (p.depth ≤ deep) && decide (bnd p ≤ LIM))
  | none => false)
theorem repX_ok {x : D} (h : repX x = true) : ∃ s, ∀ S, bltD S .repr [x] = some (.str s) := by
  unfold repX at h
  rw [Bool.and_eq_true] at h
  obtain ⟨h0, h⟩ := h
  cases h1 : toD x with
  | none => rw [h1] at h; cases h
  | some p =>
    rw [h1] at h
    simp only [Bool.and_eq_true, decide_eq_true_eq] at h
    exact ⟨p.shown, fun S => repr_ok (by rw [der_id h0, h1]) h.1 h.2.1 h.2.2⟩

/-! ### comprehensions -/
def wC (r : Option (Bool × Sto)) (q : Bool → Sto → Prop) : Prop := match r with
  | some (b, S) => q b S
  | none => False
section
variable {P : Pg} {F : Fo} {v : Env} {S : Sto} {Q : D → Sto → Prop} {X : XP}
theorem wc_none {q : Bool → Sto → Prop} (h : q true S) : wC (evC P F none v S) q := h
theorem wc_some {e : MQ} {q : Bool → Sto → Prop} (h : wT (evT P F e v S) q noX) : wC (evC P F (some e) v S) q := by
  unfold evC
  cases h1 : evT P F e v S <;> rw [h1] at h <;> exact h
/-- one turn of a comprehension -/
def lcS (P : Pg) (F : Fo) (e : ME) (t : MT) (c : Option MQ) (ws : List Nat) (v : Env) : D → Sto → Option (Option D × Sto) := fun x S2 => (match bindM S2 t x (wipeE v ws) with
      | some v' => (match evC P F c v' S2 with
        | some (true, S3) => (match ev P F e v' S3 with
          | .ok y S4 => some (some y, S4)
          | _ => none)
        | some (false, S3) => some (none, S3)
        | none => none)
      | none => none)
theorem lcS_w {e : ME} {t : MT} {c : Option MQ} {ws : List Nat} {x : D} {q : Option D × Sto → Prop}
    (h : wO (bindM S t x (wipeE v ws)) fun v' => wC (evC P F c v' S) fun b S1 => (b = true → wX (ev P F e v' S1) (fun y S2 => q (some y, S2)) noX) ∧ (b = false → q (none, S1))) :
    wO (lcS P F e t c ws v x S) q := by
  unfold lcS
  cases h1 : bindM S t x (wipeE v ws) with
  | none => rw [h1] at h; exact h
  | some v' =>
    rw [h1] at h
    have h : wC (evC P F c v' S) fun b S1 => (b = true → wX (ev P F e v' S1) (fun y S2 => q (some y, S2)) noX) ∧ (b = false → q (none, S1)) := h
    simp only
    cases h2 : evC P F c v' S with
    | none => rw [h2] at h; exact h
    | some p =>
      obtain ⟨b, S1⟩ := p
      rw [h2] at h
      cases b
      · exact h.2 rfl
      · have h := h.1 rfl
        simp only
        cases h3 : ev P F e v' S1 <;> rw [h3] at h <;> exact h
/-- a comprehension with an invariant -/
theorem lcL_inv {g : List (Nat × List D)} {step : D → Sto → Option (Option D × Sto)} (I : Nat → List D → Sto → Prop) :
    ∀ (xs : List D) (k : Nat) (acc : List D) (S : Sto), I k acc S → (∀ j acc S, I j acc S → guards g S = true) →
    (∀ (j : Nat) (x : D) (acc : List D) (S : Sto), xs[j]? = some x → I (k + j) acc S → acc.length < 16777216 ∧ wO (step x S) fun p => I (k + j + 1) (match p.1 with | some y => acc ++ [y] | none => acc) p.2) →
    (∀ acc S, I (k + xs.length) acc S → Q (.lst acc) S) → wX (lcL g step xs acc S) Q X
  | [], k, acc, S, hi, hg, _, hq => by
    simp only [lcL, hg _ _ _ hi, if_true]
    exact hq _ _ hi
  | x :: xs, k, acc, S, hi, hg, hs, hq => by
    simp only [lcL, hg _ _ _ hi, if_true]
    have h := hs 0 x acc S rfl hi
    have rest : ∀ acc' S', I (k + 1) acc' S' → wX (lcL g step xs acc' S') Q X := fun acc' S' hi' =>
      lcL_inv I xs (k + 1) acc' S' hi' hg (fun j y acc S hy hj => by
        have := hs (j + 1) y acc S hy (by rw [← Nat.add_assoc, Nat.add_right_comm]; exact hj)
        rw [← Nat.add_assoc, Nat.add_right_comm k j 1] at this
        exact this) (fun acc S hl => hq acc S (by rw [List.length_cons, Nat.add_comm xs.length 1, ← Nat.add_assoc]; exact hl))
    obtain ⟨hl, h⟩ := h
    cases h1 : step x S with
    | none => rw [h1] at h; exact h.elim
    | some p =>
      obtain ⟨y, S'⟩ := p
      rw [h1] at h
      cases y with
      | none => exact rest _ _ h
      | some y =>
        simp only
        rw [if_pos (show acc.length < LIM from hl)]
        exact rest _ _ h
theorem e_lc {e : ME} {t : MT} {it : MI} {c : Option MQ} {ws : List Nat}
    (h : wI (evI P F it v S) (fun xs g S1 => wX (lcL g (lcS P F e t c ws v) xs [] S1) Q X) X) : wX (ev P F (.lc e t it c ws) v S) Q X := by
  unfold ev
  cases h1 : evI P F it v S <;> rw [h1] at h <;> exact h
/-- a comprehension that changes nothing: what each item gives -/
theorem lcL_pure {g : List (Nat × List D)} {step : D → Sto → Option (Option D × Sto)} (f : D → Option D) (hg : guards g S = true) :
    ∀ (xs acc : List D), acc.length + xs.length ≤ 16777216 → (∀ x ∈ xs, wO (step x S) fun p => p.2 = S ∧ p.1 = f x) → Q (.lst (acc ++ xs.filterMap f)) S → wX (lcL g step xs acc S) Q X
  | [], acc, _, _, hq => by
    simp only [lcL, hg, if_true]
    rw [List.filterMap_nil, List.append_nil] at hq
    exact hq
  | x :: xs, acc, hl, hs, hq => by
    simp only [lcL, hg, if_true]
    have h := hs x (.head _)
    simp only [List.length_cons] at hl
    have rest : ∀ acc', acc'.length + xs.length ≤ 16777216 → Q (.lst (acc' ++ xs.filterMap f)) S → wX (lcL g step xs acc' S) Q X := fun acc' hl' hq' => lcL_pure f hg xs acc' hl' (fun y hy => hs y (.tail _ hy)) hq'
    cases h1 : step x S with
    | none => rw [h1] at h; exact h.elim
    | some p =>
      obtain ⟨y, S'⟩ := p
      rw [h1] at h
      obtain ⟨e1, e2⟩ := h
      subst e1
      have e2 : y = f x := e2
      subst e2
      cases h2 : f x with
      | none =>
        rw [List.filterMap_cons_none h2] at hq
        exact rest acc (by omega) hq
      | some y =>
        rw [List.filterMap_cons_some h2] at hq
        simp only
        rw [if_pos (show acc.length < LIM from by simp only [LIM]; omega)]
        refine rest (acc ++ [y]) (by simp only [List.length_append, List.length_cons, List.length_nil]; omega) ?_
        rw [List.append_assoc]
        exact hq
end
end Mi
end
section
set_option autoImplicit false
/-! Pl7: built-ins, dicts with tuple keys, comprehensions over coded lists, what a def hands back -/
namespace Mi
open PySem
section
variable {P : Pg} {F : Fo} {v : Env} {S : Sto} {Q : D → Sto → Prop} {X : XP} {QI : List D → List (Nat × List D) → Sto → Prop} {QR : RS → Prop}
theorem e_chn {o o' : CmpOp} {a b c : ME} (h : wX (ev P F a v S) (fun x S1 => wX (ev P F b v S1) (fun y S2 => wO (cmpD S2 o x y) fun t => (t = true → wX (ev P F c v S2) (fun z S3 => wO (cmpD S3 o' y z) fun d => Q (.bl d) S3) X) ∧ (t = false → Q (.bl false) S2)) X) X) :
    wX (ev P F (.chn o o' a b c) v S) Q X := by
  simp only [ev]
  refine x_bind1 ?_
  cases h1 : ev P F a v S <;> rw [h1] at h <;> try exact h
  rename_i x S1
  refine x_bind1 ?_
  have h : wX (ev P F b v S1) (fun y S2 => wO (cmpD S2 o x y) fun t => (t = true → wX (ev P F c v S2) (fun z S3 => wO (cmpD S3 o' y z) fun d => Q (.bl d) S3) X) ∧ (t = false → Q (.bl false) S2)) X := h
  show wX (ev P F b v S1) _ X
  cases h2 : ev P F b v S1 <;> rw [h2] at h <;> try exact h
  rename_i y S2
  have h : wO (cmpD S2 o x y) fun t => (t = true → wX (ev P F c v S2) (fun z S3 => wO (cmpD S3 o' y z) fun d => Q (.bl d) S3) X) ∧ (t = false → Q (.bl false) S2) := h
  show wX (match cmpD S2 o x y with
    | some true => bind1 (ev P F c v S2) fun z S3 => ofB (cmpD S3 o' y z) S3
    | some false => .ok (.bl false) S2
    | none => .bad) Q X
  cases h3 : cmpD S2 o x y with
  | none => rw [h3] at h; exact h
  | some t =>
    rw [h3] at h
    cases t
    · exact h.2 rfl
    · have h := h.1 rfl
      refine x_bind1 ?_
      cases h4 : ev P F c v S2 <;> rw [h4] at h <;> try exact h
      exact x_ofB h
theorem e_rev {a : ME} (h : wX (ev P F a v S) (fun x S1 => wO (lsOf S1 x) fun xs => Q (.lst xs.reverse) S1) X) : wX (ev P F (.rev a) v S) Q X := by
  simp only [ev]
  refine x_bind1 ?_
  cases h1 : ev P F a v S <;> rw [h1] at h <;> try exact h
  rename_i x S1
  have h : wO (lsOf S1 x) fun xs => Q (.lst xs.reverse) S1 := h
  show wX (match lsOf S1 x with | some xs => .ok (.lst xs.reverse) S1 | none => .bad) Q X
  cases h2 : lsOf S1 x <;> rw [h2] at h <;> exact h
theorem e_dnw (h : Q (.loc S.length) (S ++ [.dn false []])) : wX (ev P F .dnw v S) Q X := by simp only [ev]; exact h
def dnT (S : Sto) (l : Nat) : Option (List (D × D)) := match S[l]? with
  | some (.dn true kd) => some kd
  | _ => none
theorem e_thw {i l : Nat} {m : ME} {kd : List (D × D)} (hv : v[i]? = some (some (.loc l))) (hs : S[l]? = some (.dn false kd))
    (h : wX (ev P F m v (S.set l (.dn true kd))) (fun d S1 => wO (dnT S1 l) fun kd' => Q d (S1.set l (.dn false kd'))) noX) : wX (ev P F (.thw i m) v S) Q X := by
  simp only [ev, hv, hs]
  cases h1 : ev P F m v (S.set l (.dn true kd)) <;> rw [h1] at h <;> try exact h.elim
  rename_i d S1
  have h : wO (dnT S1 l) fun kd' => Q d (S1.set l (.dn false kd')) := h
  simp only
  unfold dnT at h
  split at h
  · rename_i kd' hk
    first | (rw [hk]; exact h) | exact h
  · exact h.elim
theorem wi_dky {i l : Nat} {kd : List (D × D)} (hv : v[i]? = some (some (.loc l))) (hs : S[l]? = some (.dn true kd)) (h : QI (kd.map (·.1)) [] S) : wI (evI P F (.dky i) v S) QI X := by
  simp only [evI, hv, hs]; exact h
theorem wi_zip {a b : ME} (h : wX (ev P F a v S) (fun x S1 => wX (ev P F b v S1) (fun y S2 => wO (seqOf S2 x) fun xs => wO (seqOf S2 y) fun ys => (isT S2 x == isT S2 y) = true ∧ QI (zipD xs ys) (gOf S2 x ++ gOf S2 y) S2) X) X) : wI (evI P F (.zip a b) v S) QI X := by
  simp only [evI]
  cases h1 : ev P F a v S <;> rw [h1] at h <;> try exact h
  rename_i x S1
  have h : wX (ev P F b v S1) (fun y S2 => wO (seqOf S2 x) fun xs => wO (seqOf S2 y) fun ys => (isT S2 x == isT S2 y) = true ∧ QI (zipD xs ys) (gOf S2 x ++ gOf S2 y) S2) X := h
  simp only
  cases h2 : ev P F b v S1 <;> rw [h2] at h <;> try exact h
  rename_i y S2
  have h : wO (seqOf S2 x) fun xs => wO (seqOf S2 y) fun ys => (isT S2 x == isT S2 y) = true ∧ QI (zipD xs ys) (gOf S2 x ++ gOf S2 y) S2 := h
  simp only
  cases h3 : seqOf S2 x with
  | none => rw [h3] at h; exact h.elim
  | some xs =>
    rw [h3] at h
    have h : wO (seqOf S2 y) fun ys => (isT S2 x == isT S2 y) = true ∧ QI (zipD xs ys) (gOf S2 x ++ gOf S2 y) S2 := h
    cases h4 : seqOf S2 y with
    | none => rw [h4] at h; exact h.elim
    | some ys =>
      rw [h4] at h
      simp only
      rw [if_pos h.1]; exact h.2
theorem wi_enm {a : ME} (h : wX (ev P F a v S) (fun x S1 => wO (seqOf S1 x) fun xs => isT S1 x = false ∧ QI (enmD 0 xs) (gOf S1 x) S1) X) : wI (evI P F (.enm a) v S) QI X := by
  simp only [evI]
  cases h1 : ev P F a v S <;> rw [h1] at h <;> try exact h
  rename_i x S1
  have h : wO (seqOf S1 x) fun xs => isT S1 x = false ∧ QI (enmD 0 xs) (gOf S1 x) S1 := h
  simp only
  cases h3 : seqOf S1 x with
  | none => rw [h3] at h; exact h.elim
  | some xs =>
    rw [h3] at h
    simp only
    rw [if_neg (by rw [h.1]; exact Bool.false_ne_true)]; exact h.2
theorem e_eqo {m : Nat} {a b : ME} (h : wX (ev P F a v S) (fun x S1 => wX (ev P F b v S1) (fun y S2 => wO (mthOf P S2 x m) fun f => clsOf S2 x = clsOf S2 y ∧ wX (F f [x, y] S2) (fun d S3 => ∃ k, d = .bl k ∧ Q (.bl k) S3) X) X) X) : wX (ev P F (.eqo m a b) v S) Q X := by
  simp only [ev]
  refine x_bind1 ?_
  cases h1 : ev P F a v S <;> rw [h1] at h <;> try exact h
  rename_i x S1
  refine x_bind1 ?_
  have h : wX (ev P F b v S1) (fun y S2 => wO (mthOf P S2 x m) fun f => clsOf S2 x = clsOf S2 y ∧ wX (F f [x, y] S2) (fun d S3 => ∃ k, d = .bl k ∧ Q (.bl k) S3) X) X := h
  show wX (ev P F b v S1) _ X
  cases h2 : ev P F b v S1 <;> rw [h2] at h <;> try exact h
  rename_i y S2
  have h : wO (mthOf P S2 x m) fun f => clsOf S2 x = clsOf S2 y ∧ wX (F f [x, y] S2) (fun d S3 => ∃ k, d = .bl k ∧ Q (.bl k) S3) X := h
  show wX (eqoF P F S2 m x y) Q X
  unfold eqoF
  cases h3 : mthOf P S2 x m with
  | none => rw [h3] at h; exact h.elim
  | some f =>
    rw [h3] at h
    simp only
    rw [if_pos (decide_eq_true h.1)]
    have h := h.2
    cases h4 : F f [x, y] S2 <;> rw [h4] at h <;> try exact h
    obtain ⟨k, rfl, h⟩ := h
    exact h
/-! ### built-ins -/
theorem o_all {bs : List Bool} {q : D → Prop} (h : q (.bl (bs.all id))) : wO (bltD S .all [.lst (bs.map .bl)]) q := by
  have e : ∀ l : List Bool, blsD (l.map .bl) = some l := fun l => by induction l with
    | nil => rfl
    | cons a l ih => simp [blsD, ih]
  refine wO_some ?_ h
  show ((blsD (bs.map .bl)).map fun l => D.bl (l.all id)) = _
  rw [e]; rfl
theorem o_any {bs : List Bool} {q : D → Prop} (h : q (.bl (bs.any id))) : wO (bltD S .any [.lst (bs.map .bl)]) q := by
  have e : ∀ l : List Bool, blsD (l.map .bl) = some l := fun l => by induction l with
    | nil => rfl
    | cons a l ih => simp [blsD, ih]
  refine wO_some ?_ h
  show ((blsD (bs.map .bl)).map fun l => D.bl (l.any id)) = _
  rw [e]; rfl
theorem o_sum {is : List Int} {q : D → Prop} (h : q (.int is.sum)) : wO (bltD S .sum [.lst (is.map .int)]) q := by
  have e : ∀ l : List Int, intsD (l.map .int) = some l := fun l => by induction l with
    | nil => rfl
    | cons a l ih => simp [intsD, ih]
  refine wO_some ?_ h
  show ((intsD (is.map .int)).map fun l => D.int l.sum) = _
  rw [e]; rfl
theorem o_tupL {xs : List D} {q : D → Prop} (h : q (.tup xs)) : wO (bltD S .tuple [.lst xs]) q := h
theorem o_tupT {xs : List D} {q : D → Prop} (h : q (.tup xs)) : wO (bltD S .tuple [.tup xs]) q := h
theorem o_lstL {xs : List D} {q : D → Prop} (h : q (.lst xs)) : wO (bltD S .list [.lst xs]) q := h
theorem o_lstT {xs : List D} {q : D → Prop} (h : q (.lst xs)) : wO (bltD S .list [.tup xs]) q := h
theorem o_sorted {xs : List D} {q : D → Prop} (ok : sortOk xs = true) (h : q (.lst (xs.mergeSort leD))) : wO (bltD S .sorted [.lst xs]) q := by
  refine wO_some ?_ h
  show (if sortOk xs then some (D.lst (xs.mergeSort leD)) else none) = _
  rw [if_pos ok]
theorem q_tup {xs : List D} {q : List D → Prop} (h : q xs) : wO (seqOf S (.tup xs)) q := h
theorem q_lst {xs : List D} {q : List D → Prop} (h : q xs) : wO (seqOf S (.lst xs)) q := h
theorem q_ls {xs : List D} {q : List D → Prop} (h : q xs) : wO (lsOf S (.lst xs)) q := h
end
/-! ### comprehensions over coded lists -/
section
variable {P : Pg} {F : Fo} {v : Env} {S : Sto} {Q : D → Sto → Prop} {X : XP}
theorem lcL_enc {α : Type} {g : List (Nat × List D)} {step : D → Sto → Option (Option D × Sto)} (enc : α → D) (f : α → Option D) (hg : guards g S = true) :
    ∀ (L : List α) (acc : List D), acc.length + L.length ≤ 16777216 → (∀ a ∈ L, wO (step (enc a) S) fun p => p.2 = S ∧ p.1 = f a) → Q (.lst (acc ++ L.filterMap f)) S → wX (lcL g step (L.map enc) acc S) Q X
  | [], acc, _, _, hq => by
    simp only [List.map_nil, lcL, hg, if_true]
    rw [List.filterMap_nil, List.append_nil] at hq
    exact hq
  | a :: L, acc, hl, hs, hq => by
    simp only [List.map_cons, lcL, hg, if_true]
    have h := hs a (.head _)
    simp only [List.length_cons] at hl
    have rest : ∀ acc', acc'.length + L.length ≤ 16777216 → Q (.lst (acc' ++ L.filterMap f)) S → wX (lcL g step (L.map enc) acc' S) Q X := fun acc' hl' hq' => lcL_enc enc f hg L acc' hl' (fun y hy => hs y (.tail _ hy)) hq'
    cases h1 : step (enc a) S with
    | none => rw [h1] at h; exact h.elim
    | some p =>
      obtain ⟨y, S'⟩ := p
      rw [h1] at h
      obtain ⟨e1, e2⟩ := h
      have e1 : S' = S := e1
      have e2 : y = f a := e2
      cases h2 : f a with
      | none =>
        rw [List.filterMap_cons_none h2] at hq
        rw [e1, e2, h2]
        exact rest acc (by omega) hq
      | some y =>
        rw [List.filterMap_cons_some h2] at hq
        rw [e1, e2, h2]
        simp only
        rw [if_pos (show acc.length < LIM from by simp only [LIM]; omega)]
        refine rest (acc ++ [y]) (by simp only [List.length_append, List.length_cons, List.length_nil]; omega) ?_
        rw [List.append_assoc]
        exact hq
/-- every item gives one -/
theorem lcL_map {α : Type} {g : List (Nat × List D)} {step : D → Sto → Option (Option D × Sto)} (enc : α → D) (f : α → D) (hg : guards g S = true) (L : List α) (hl : L.length ≤ 16777216)
    (hs : ∀ a ∈ L, wO (step (enc a) S) fun p => p.2 = S ∧ p.1 = some (f a)) (hq : Q (.lst (L.map f)) S) : wX (lcL g step (L.map enc) [] S) Q X := by
  refine lcL_enc enc (fun a => some (f a)) hg L [] (by simpa using hl) hs ?_
  rw [List.nil_append, List.filterMap_eq_map']
  exact hq
/-- item by item -/
theorem lcL_get {g : List (Nat × List D)} {step : D → Sto → Option (Option D × Sto)} (hg : guards g S = true) (xs ys : List D) (hl : ys.length = xs.length) (hz : ys.length ≤ 16777216)
    (hs : ∀ (j : Nat) (x y : D), xs[j]? = some x → ys[j]? = some y → wO (step x S) fun p => p.2 = S ∧ p.1 = some y) (hq : Q (.lst ys) S) : wX (lcL g step xs [] S) Q X := by
  refine lcL_inv (fun j acc S' => S' = S ∧ acc = ys.take j) xs 0 [] S ⟨rfl, rfl⟩ (fun j acc S' h => by rw [h.1]; exact hg) ?_ ?_
  · rintro j x acc S' hx ⟨rfl, rfl⟩
    have hj : j < xs.length := (List.getElem?_eq_some_iff.mp hx).1
    have hy : ys[j]? = some ys[j] := List.getElem?_eq_getElem (by omega)
    refine ⟨by rw [List.length_take]; omega, ?_⟩
    have h := hs j x _ hx hy
    cases h1 : step x S' with
    | none => rw [h1] at h; exact h.elim
    | some p =>
      rw [h1] at h
      obtain ⟨e1, e2⟩ := h
      refine ⟨e1, ?_⟩
      rw [e2, Nat.zero_add]
      show ys.take j ++ [ys[j]] = ys.take (j + 1)
      simp
  · rintro acc S' ⟨rfl, rfl⟩
    rw [Nat.zero_add, ← hl, List.take_length]
    exact hq
def lc2S (P : Pg) (F : Fo) (e : ME) (t : MT) (c : Option MQ) (t1 : MT) (it1 : MI) (c1 : Option MQ) (ws ws1 : List Nat) (v : Env) : D → List D → Sto → R := fun x acc S2 => (match bindM S2 t x (wipeE v ws) with
      | some v' => (match evC P F c v' S2 with
        | some (true, S3) => (match evI P F it1 v' S3 with
          | .ok ys g1 S4 => lcL g1 (lcS P F e t1 c1 ws1 v') ys acc S4
          | _ => .bad)
        | some (false, S3) => .ok (.lst acc) S3
        | none => .bad)
      | none => .bad)
theorem e_lc2 {e : ME} {t : MT} {it : MI} {c : Option MQ} {t1 : MT} {it1 : MI} {c1 : Option MQ} {ws ws1 : List Nat}
    (h : wI (evI P F it v S) (fun xs g S1 => wX (lcL2 g (lc2S P F e t c t1 it1 c1 ws ws1 v) xs [] S1) Q X) X) : wX (ev P F (.lc2 e t it c t1 it1 c1 ws ws1) v S) Q X := by
  unfold ev
  cases h1 : evI P F it v S <;> rw [h1] at h <;> exact h
theorem lc2S_w {e : ME} {t : MT} {c : Option MQ} {t1 : MT} {it1 : MI} {c1 : Option MQ} {ws ws1 : List Nat} {x : D} {acc : List D}
    (h : wO (bindM S t x (wipeE v ws)) fun v' => wC (evC P F c v' S) fun b S1 => (b = true → wI (evI P F it1 v' S1) (fun ys g1 S4 => wX (lcL g1 (lcS P F e t1 c1 ws1 v') ys acc S4) Q noX) noX) ∧ (b = false → Q (.lst acc) S1)) :
    wX (lc2S P F e t c t1 it1 c1 ws ws1 v x acc S) Q noX := by
  unfold lc2S
  cases h1 : bindM S t x (wipeE v ws) with
  | none => rw [h1] at h; exact h.elim
  | some v' =>
    rw [h1] at h
    have h : wC (evC P F c v' S) fun b S1 => (b = true → wI (evI P F it1 v' S1) (fun ys g1 S4 => wX (lcL g1 (lcS P F e t1 c1 ws1 v') ys acc S4) Q noX) noX) ∧ (b = false → Q (.lst acc) S1) := h
    simp only
    cases h2 : evC P F c v' S with
    | none => rw [h2] at h; exact h.elim
    | some p =>
      obtain ⟨b, S1⟩ := p
      rw [h2] at h
      cases b
      · exact h.2 rfl
      · have h := h.1 rfl
        simp only
        cases h3 : evI P F it1 v' S1 <;> rw [h3] at h <;> first | exact h | exact h.elim
theorem lcL2_enc {α : Type} {g : List (Nat × List D)} {step : D → List D → Sto → R} (enc : α → D) (f : α → List D) (hg : guards g S = true) :
    ∀ (L : List α) (acc : List D), (∀ a ∈ L, ∀ acc', acc'.length + (f a).length ≤ acc.length + (L.flatMap f).length → wX (step (enc a) acc' S) (fun d S' => S' = S ∧ d = .lst (acc' ++ f a)) noX) →
      Q (.lst (acc ++ L.flatMap f)) S → wX (lcL2 g step (L.map enc) acc S) Q X
  | [], acc, _, hq => by
    simp only [List.map_nil, lcL2, hg, if_true]
    rw [List.flatMap_nil, List.append_nil] at hq
    exact hq
  | a :: L, acc, hs, hq => by
    simp only [List.map_cons, lcL2, hg, if_true]
    have h := hs a (.head _) acc (by simp only [List.flatMap_cons, List.length_append]; omega)
    cases h1 : step (enc a) acc S with
    | ok d S' =>
      rw [h1] at h
      obtain ⟨e1, e2⟩ := h
      rw [e1, e2]
      refine lcL2_enc enc f hg L (acc ++ f a) (fun b hb acc' hl => hs b (.tail _ hb) acc' ?_) ?_
      · simp only [List.flatMap_cons, List.length_append] at hl ⊢; omega
      · rw [List.append_assoc]; rw [List.flatMap_cons] at hq; exact hq
    | ex c fs S' => rw [h1] at h; exact h.elim
    | bad => rw [h1] at h; exact h.elim
end
/-! ### what a def hands back -/
mutual
def pureD : D → Bool
  | .tup xs => pureL xs
  | .lst xs => pureL xs
  | .ins _ fs => pureF fs
  | .loc _ => false
  | .scr _ => false
  | .dct _ => false
  | _ => true
def pureL : List D → Bool
  | [] => true
  | d :: r => pureD d && pureL r
def pureF : List (Nat × D) → Bool
  | [] => true
  | (_, d) :: r => pureD d && pureF r
end
mutual
theorem pureD_lf {n : Nat} : ∀ d : D, pureD d = true → lf n d = true
  | .tup xs, h => pureL_lf xs h
  | .lst xs, h => pureL_lf xs h
  | .ins _ fs, h => pureF_lf fs h
  | .loc _, h => nomatch h
  | .scr _, h => nomatch h
  | .dct _, h => nomatch h
  | .non, _ => rfl
  | .bl _, _ => rfl
  | .int _, _ => rfl
  | .str _, _ => rfl
  | .fn _, _ => rfl
  | .cls _, _ => rfl
  | .ty _, _ => rfl
theorem pureL_lf {n : Nat} : ∀ d : List D, pureL d = true → lfs n d = true
  | [], _ => rfl
  | d :: r, h => by
    have h : pureD d = true ∧ pureL r = true := by simpa [pureL] using h
    simp [lfs, pureD_lf d h.1, pureL_lf r h.2]
theorem pureF_lf {n : Nat} : ∀ d : List (Nat × D), pureF d = true → lfF n d = true
  | [], _ => rfl
  | (_, d) :: r, h => by
    have h : pureD d = true ∧ pureF r = true := by simpa [pureF] using h
    simp [lfF, pureD_lf d h.1, pureF_lf r h.2]
end
mutual
theorem pureD_fz {n : Nat} {S : Sto} : ∀ d : D, pureD d = true → fz n S d = some d
  | .tup xs, h => by simp only [fz]; rw [pureL_fz xs h]; rfl
  | .lst xs, h => by simp only [fz]; rw [pureL_fz xs h]; rfl
  | .ins _ fs, h => by simp only [fz]; rw [if_pos (pureF_lf fs h)]
  | .loc _, h => nomatch h
  | .scr _, h => nomatch h
  | .dct _, h => nomatch h
  | .non, _ => rfl
  | .bl _, _ => rfl
  | .int _, _ => rfl
  | .str _, _ => rfl
  | .fn _, _ => rfl
  | .cls _, _ => rfl
  | .ty _, _ => rfl
theorem pureL_fz {n : Nat} {S : Sto} : ∀ d : List D, pureL d = true → fzs n S d = some d
  | [], _ => rfl
  | d :: r, h => by
    have h : pureD d = true ∧ pureL r = true := by simpa [pureL] using h
    simp only [fzs]
    rw [pureD_fz d h.1, pureL_fz r h.2]
end
theorem okT_app (n : Nat) : ∀ (S T : Sto), okT n S (S ++ T) = true
  | [], _ => rfl
  | m :: S, T => by simp [okT, okT_app n S T]
/-- the def's own objects are let go: what it hands back holds none -/
theorem f_drop {S T : Sto} {d : D} {Q : D → Sto → Prop} {X : XP} (hd : pureD d = true) (h : Q d S) : wX (fin false S d (S ++ T)) Q X := by
  unfold fin
  by_cases e : (S ++ T).length = S.length
  · have : T = [] := by simpa using e
    subst this
    rw [if_pos e, List.append_nil]; exact h
  · rw [if_neg e, if_pos (okT_app _ S T), if_neg Bool.false_ne_true, pureD_fz d hd]
    simp only [List.take_left']
    exact h
theorem app_get {S : Sto} {m : MO} : (S ++ [m])[S.length]? = some m := by simp
theorem app_set {S : Sto} {m m' : MO} : (S ++ [m]).set S.length m' = S ++ [m'] := by simp
end Mi
end
section
set_option autoImplicit false
/-! Pl8: rows of bids, plain lists -/
namespace Mi
open PySem
abbrev Row := Int × List Rat
abbrev encK (k : List Rat) : D := .tup (k.map dr)
abbrev encR (r : Row) : D := .tup [.int r.1, encK r.2]
def nkq (q : Rat) : NestedKey := .tup [.num q.num, .num (q.den : Int)]
def nkK (k : List Rat) : NestedKey := .tup (k.map nkq)
theorem nks_map : ∀ k : List Rat, nksOf (k.map dr) = some (k.map nkq)
  | [] => rfl
  | q :: k => by
    have e : nkOf (dr q) = some (nkq q) := rfl
    simp only [List.map_cons, nksOf, e, nks_map k]
theorem depth_map : ∀ k : List Rat, NestedKey.depthAll (k.map nkq) ≤ 1
  | [] => by simp [NestedKey.depthAll]
  | q :: k => by
    have := depth_map k
    simp only [List.map_cons, NestedKey.depthAll, nkq, NestedKey.depth] at this ⊢
    omega
theorem tkOf_encK (k : List Rat) : tkOf (encK k) = some (nkK k) := by
  have := depth_map k
  simp only [tkOf, nks_map]
  rw [if_pos (by simp only [NestedKey.depth]; omega)]
  rfl
theorem nkq_inj {p q : Rat} (h : nkq p = nkq q) : p = q := by
  unfold nkq at h
  injection h with h
  injection h with h1 h2
  injection h2 with h2 _
  injection h1 with h1
  injection h2 with h2
  exact Rat.ext h1 (by omega)
theorem map_inj {α β : Type} {f : α → β} (hf : ∀ a b, f a = f b → a = b) : ∀ {l m : List α}, l.map f = m.map f → l = m
  | [], [], _ => rfl
  | a :: l, b :: m, h => by
    simp only [List.map_cons, List.cons.injEq] at h
    rw [hf _ _ h.1, map_inj hf h.2]
theorem nkK_inj {k j : List Rat} (h : nkK k = nkK j) : k = j := by
  unfold nkK at h
  injection h with h
  exact map_inj (fun _ _ => nkq_inj) h
theorem nkK_iff {k j : List Rat} : (tkOf (encK k) = some (nkK j)) ↔ k = j := by
  rw [tkOf_encK]
  exact ⟨fun h => nkK_inj (Option.some.inj h), fun h => by rw [h]⟩
/-! ### the dict of weights -/
abbrev Wt := List (List Rat × Int)
def encE (e : List Rat × Int) : D × D := (encK e.1, .int e.2)
def getK (k : List Rat) : Wt → Option Int
  | [] => none
  | (j, u) :: L => if j = k then some u else getK k L
def addK (k : List Rat) (w : Int) (L : Wt) : Wt := if (getK k L).isSome then L.map (fun e => if e.1 = k then (e.1, w) else e) else L ++ [(k, w)]
theorem lookT_enc (k : List Rat) : ∀ L : Wt, lookT (nkK k) (L.map encE) = (getK k L).map .int
  | [] => rfl
  | (j, u) :: L => by
    simp only [List.map_cons, encE, lookT, getK]
    by_cases h : j = k
    · rw [if_pos h, decide_eq_true (nkK_iff.mpr h), if_pos rfl]; rfl
    · rw [if_neg h, decide_eq_false (fun z => h (nkK_iff.mp z)), if_neg Bool.false_ne_true]
      exact lookT_enc k L
theorem repT_enc (k : List Rat) (w : Int) : ∀ L : Wt, repT (nkK k) (.int w) (L.map encE) = (L.map (fun e => if e.1 = k then (e.1, w) else e)).map encE
  | [] => rfl
  | (j, u) :: L => by
    simp only [List.map_cons, encE, repT]
    have ih := repT_enc k w L
    by_cases h : j = k
    · rw [decide_eq_true (nkK_iff.mpr h), if_pos rfl, if_pos h]
      exact congrArg _ ih
    · rw [decide_eq_false (fun z => h (nkK_iff.mp z)), if_neg Bool.false_ne_true, if_neg h]
      exact congrArg _ ih
theorem putT_enc (k : List Rat) (w : Int) (L : Wt) : putT (nkK k) (encK k) (.int w) (L.map encE) = (addK k w L).map encE := by
  unfold putT addK
  rw [lookT_enc, Option.isSome_map]
  split
  · exact repT_enc k w L
  · simp [encE]
/-- the sum of the weights of all rows with these numbers -/
def sumW (rows : List Row) (k : List Rat) : Int := ((rows.filter fun r => decide (r.2 = k)).map (·.1)).sum
/-- what the dict holds behind these rows -/
structure Acc (rows : List Row) (L : Wt) : Prop where
  nd : (L.map (·.1)).Nodup
  mem : ∀ k w, (k, w) ∈ L ↔ (∃ r ∈ rows, r.2 = k) ∧ w = sumW rows k
theorem Acc.nil : Acc [] [] := ⟨by simp, by simp⟩
theorem getK_some {k : List Rat} {w : Int} : ∀ {L : Wt}, getK k L = some w → (k, w) ∈ L
  | (j, u) :: L, h => by
    unfold getK at h
    by_cases e : j = k
    · rw [if_pos e] at h
      cases h
      rw [e]; exact .head _
    · rw [if_neg e] at h
      exact .tail _ (getK_some h)
theorem getK_none {k : List Rat} : ∀ {L : Wt}, getK k L = none → ∀ w, (k, w) ∉ L
  | [], _, _ => by simp
  | (j, u) :: L, h, w => by
    unfold getK at h
    by_cases e : j = k
    · rw [if_pos e] at h; cases h
    · rw [if_neg e] at h
      intro z
      rcases List.mem_cons.mp z with z | z
      · exact e (by cases z; rfl)
      · exact getK_none h w z
theorem sumW_snoc (rows : List Row) (r : Row) (k : List Rat) : sumW (rows ++ [r]) k = sumW rows k + (if r.2 = k then r.1 else 0) := by
  unfold sumW
  rw [List.filter_append, List.map_append, List.sum_append]
  congr 1
  by_cases h : r.2 = k
  · simp [h]
  · simp [h]
theorem sumW_no {rows : List Row} {k : List Rat} (h : ∀ r ∈ rows, r.2 ≠ k) : sumW rows k = 0 := by
  unfold sumW
  have : (rows.filter fun r => decide (r.2 = k)) = [] := List.filter_eq_nil_iff.mpr fun r hr => by simpa using h r hr
  rw [this]; rfl
theorem Acc.get {rows : List Row} {L : Wt} (a : Acc rows L) (k : List Rat) : (getK k L).getD 0 = sumW rows k := by
  cases h : getK k L with
  | none =>
    refine (sumW_no fun r hr e => ?_).symm
    exact getK_none h _ ((a.mem k _).mpr ⟨⟨r, hr, e⟩, rfl⟩)
  | some w => exact ((a.mem k w).mp (getK_some h)).2
theorem Acc.snoc {rows : List Row} {L : Wt} (a : Acc rows L) (r : Row) : Acc (rows ++ [r]) (addK r.2 ((getK r.2 L).getD 0 + r.1) L) := by
  rw [a.get]
  unfold addK
  cases h : getK r.2 L with
  | none =>
    simp only [Option.isSome_none, Bool.false_eq_true, if_false]
    have no : ∀ r' ∈ rows, r'.2 ≠ r.2 := fun r' hr e => getK_none h _ ((a.mem r.2 _).mpr ⟨⟨r', hr, e⟩, rfl⟩)
    refine ⟨?_, fun k w => ?_⟩
    · rw [List.map_append, List.nodup_append]
      refine ⟨a.nd, by simp, fun x hx y hy e => ?_⟩
      simp only [List.map_cons, List.map_nil, List.mem_singleton] at hy
      obtain ⟨⟨j, u⟩, hm, rfl⟩ := List.mem_map.mp hx
      have := ((a.mem j u).mp hm).1
      obtain ⟨r', hr', e'⟩ := this
      exact no r' hr' (by rw [e', ← hy]; exact e)
    · rw [List.mem_append, a.mem, sumW_snoc]
      simp only [List.mem_singleton, Prod.mk.injEq]
      constructor
      · rintro (⟨⟨r', hr, e⟩, hw⟩ | ⟨rfl, rfl⟩)
        · refine ⟨⟨r', List.mem_append_left _ hr, e⟩, ?_⟩
          rw [if_neg (fun z => no r' hr (by rw [e, z])), Int.add_zero]; exact hw
        · exact ⟨⟨r, by simp, rfl⟩, by rw [if_pos rfl]⟩
      · rintro ⟨⟨r', hr, e⟩, hw⟩
        by_cases z : r.2 = k
        · exact .inr ⟨z.symm, by rw [hw, if_pos z, z]⟩
        · refine .inl ⟨?_, by rw [hw, if_neg z, Int.add_zero]⟩
          rcases List.mem_append.mp hr with hr | hr
          · exact ⟨r', hr, e⟩
          · simp only [List.mem_singleton] at hr
            subst hr
            exact (z e).elim
  | some u =>
    simp only [Option.isSome_some, if_true]
    have hu := (a.mem r.2 u).mp (getK_some h)
    refine ⟨?_, fun k w => ?_⟩
    · have e : (L.map fun e => if e.1 = r.2 then (e.1, sumW rows r.2 + r.1) else e).map (·.1) = L.map (·.1) := by
        rw [List.map_map]
        refine List.map_congr_left fun e _ => ?_
        simp only [Function.comp_apply]
        split <;> rfl
      rw [e]; exact a.nd
    · rw [List.mem_map, sumW_snoc]
      constructor
      · rintro ⟨⟨j, v⟩, hm, e⟩
        have hj := (a.mem j v).mp hm
        by_cases z : j = r.2
        · rw [if_pos z] at e
          cases e
          refine ⟨⟨r, by simp, z.symm⟩, by rw [if_pos z.symm, z]⟩
        · rw [if_neg z] at e
          cases e
          obtain ⟨⟨r', hr, e'⟩, hw⟩ := hj
          refine ⟨⟨r', List.mem_append_left _ hr, e'⟩, ?_⟩
          rw [if_neg (fun q => z q.symm), Int.add_zero]; exact hw
      · rintro ⟨⟨r', hr, e⟩, hw⟩
        by_cases z : r.2 = k
        · refine ⟨(r.2, u), getK_some h, ?_⟩
          rw [if_pos rfl, hw, if_pos z, z]
        · rw [if_neg z, Int.add_zero] at hw
          rcases List.mem_append.mp hr with hr | hr
          · refine ⟨(k, w), (a.mem k w).mpr ⟨⟨r', hr, e⟩, hw⟩, ?_⟩
            rw [if_neg (fun q => z q.symm)]
          · simp only [List.mem_singleton] at hr
            subst hr
            exact (z e).elim
/-! ### the order of rows of ratios -/
def lexR : List Rat → List Rat → Bool
  | _, [] => false
  | [], _ :: _ => true
  | a :: x, b :: y => if a = b then lexR x y else decide (a < b)
theorem lexR_irrefl : ∀ k, lexR k k = false
  | [] => rfl
  | a :: x => by simp [lexR, lexR_irrefl x]
theorem lexR_total : ∀ k j, k ≠ j → lexR k j = true ∨ lexR j k = true
  | [], [], h => (h rfl).elim
  | [], _ :: _, _ => .inl rfl
  | _ :: _, [], _ => .inr rfl
  | a :: x, b :: y, h => by
    simp only [lexR]
    by_cases e : a = b
    · rw [if_pos e, if_pos e.symm]
      exact lexR_total x y fun z => h (by rw [e, z])
    · rw [if_neg e, if_neg (fun z => e z.symm)]
      have : a < b ∨ b < a := by grind
      simpa using this
theorem lexR_trans : ∀ k j i, lexR k j = true → lexR j i = true → lexR k i = true
  | k, j, [], h1, h2 => by cases j <;> cases h2
  | k, [], i :: z, h1, h2 => by cases k <;> cases h1
  | [], b :: y, c :: z, h1, h2 => rfl
  | a :: x, b :: y, c :: z, h1, h2 => by
    simp only [lexR] at h1 h2 ⊢
    by_cases e : a = b
    · rw [if_pos e] at h1
      subst e
      by_cases e' : a = c
      · rw [if_pos e'] at h2 ⊢
        exact lexR_trans x y z h1 h2
      · rw [if_neg e'] at h2 ⊢
        exact h2
    · rw [if_neg e] at h1
      have h1 := of_decide_eq_true h1
      by_cases e' : b = c
      · subst e'
        rw [if_neg e]
        exact decide_eq_true h1
      · rw [if_neg e'] at h2
        have h2 := of_decide_eq_true h2
        have h3 : a < c := by grind
        rw [if_neg (by grind)]
        exact decide_eq_true h3
theorem lexR_asymm {k j : List Rat} (h : lexR k j = true) : lexR j k = false := by
  cases e : lexR j k with
  | false => rfl
  | true => exact absurd (lexR_trans _ _ _ h e) (by rw [lexR_irrefl]; exact Bool.false_ne_true)
/-! ### plain lists -/
structure IsPlain (rows : List Row) (L : List Row) : Prop where
  srt : L.Pairwise fun a b => lexR a.2 b.2 = true
  mem : ∀ w k, (w, k) ∈ L ↔ (∃ r ∈ rows, r.2 = k) ∧ w = sumW rows k ∧ w ≠ 0 ∧ ∃ x ∈ k, 0 < x
theorem srt_uniq {α : Type} {R : α → α → Bool} (irr : ∀ a, R a a = false) (asy : ∀ a b, R a b = true → R b a = false) : ∀ {l m : List α}, l.Pairwise (fun a b => R a b = true) → m.Pairwise (fun a b => R a b = true) → (∀ a, a ∈ l ↔ a ∈ m) → l = m
  | [], [], _, _, _ => rfl
  | [], b :: m, _, _, h => by have := (h b).mpr (.head _); cases this
  | a :: l, [], _, _, h => by have := (h a).mp (.head _); cases this
  | a :: l, b :: m, hl, hm, h => by
    rw [List.pairwise_cons] at hl hm
    have e : a = b := by
      rcases List.mem_cons.mp ((h a).mp (.head _)) with e | ha
      · exact e
      · rcases List.mem_cons.mp ((h b).mpr (.head _)) with e | hb
        · exact e.symm
        · have h1 := hm.1 a ha
          have h2 := hl.1 b hb
          rw [asy _ _ h1] at h2
          cases h2
    subst e
    congr 1
    refine srt_uniq irr asy hl.2 hm.2 fun x => ?_
    have hx := h x
    simp only [List.mem_cons] at hx
    constructor
    · intro hxl
      rcases hx.mp (.inr hxl) with e | z
      · subst e
        have := hl.1 x hxl
        rw [irr] at this; cases this
      · exact z
    · intro hxm
      rcases hx.mpr (.inr hxm) with e | z
      · subst e
        have := hm.1 x hxm
        rw [irr] at this; cases this
      · exact z
theorem IsPlain.uniq {rows L L' : List Row} (h : IsPlain rows L) (h' : IsPlain rows L') : L = L' :=
  srt_uniq (R := fun a b : Row => lexR a.2 b.2) (fun a => lexR_irrefl _) (fun a b => lexR_asymm) h.srt h'.srt fun ⟨w, k⟩ => by rw [h.mem, h'.mem]
/-- rows that add up alike have one plain list -/
theorem IsPlain.of_same {rows rows' L : List Row} (h : IsPlain rows L) (hs : ∀ k, (∃ x ∈ k, 0 < x) → sumW rows k = sumW rows' k) : IsPlain rows' L := by
  refine ⟨h.srt, fun w k => ?_⟩
  rw [h.mem]
  have key : ∀ {rows : List Row} {k : List Rat}, sumW rows k ≠ 0 → ∃ r ∈ rows, r.2 = k := fun {rows k} hw => by
    by_cases z : ∃ r ∈ rows, r.2 = k
    · exact z
    · exact (hw (sumW_no fun r hr e => z ⟨r, hr, e⟩)).elim
  constructor
  · rintro ⟨_, rfl, hw, hx⟩
    rw [hs k hx] at hw ⊢
    exact ⟨key hw, rfl, hw, hx⟩
  · rintro ⟨_, rfl, hw, hx⟩
    rw [← hs k hx] at hw ⊢
    exact ⟨key hw, rfl, hw, hx⟩
end Mi
end
section
set_option autoImplicit false
/-! Pl9: rows of ratios sorted -/
namespace Mi
open PySem PySem.W PyProof.Rows
def scl (m : Int) (q : Rat) : Int := q.num * (m / q.den)
theorem mul_den (q : Rat) : q * ((q.den : Int) : Rat) = (q.num : Rat) := by
  conv => lhs; lhs; rw [← frac_self q]
  have := q.den_pos
  exact Rat.div_mul_cancel (by intro z; have := Rat.intCast_eq_zero_iff.mp z; omega)
theorem scl_eq {m : Int} {q : Rat} (h : (q.den : Int) ∣ m) : ((scl m q : Int) : Rat) = q * (m : Rat) := by
  obtain ⟨n, hn⟩ := h
  have hd := den_pos q
  unfold scl
  rw [hn, Int.mul_ediv_cancel_left _ (by omega), Rat.intCast_mul, Rat.intCast_mul, ← Rat.mul_assoc, mul_den]
theorem scl_lt {m : Int} (hm : 0 < m) {p q : Rat} (hp : (p.den : Int) ∣ m) (hq : (q.den : Int) ∣ m) : scl m p < scl m q ↔ p < q := by
  rw [← Rat.intCast_lt_intCast, scl_eq hp, scl_eq hq]
  exact Rat.mul_lt_mul_right (Rat.intCast_pos.mpr hm)
theorem scl_inj {m : Int} (hm : 0 < m) {p q : Rat} (hp : (p.den : Int) ∣ m) (hq : (q.den : Int) ∣ m) : scl m p = scl m q ↔ p = q := by
  constructor
  · intro h
    by_cases e : p = q
    · exact e
    · have : p < q ∨ q < p := by grind
      rcases this with z | z
      · have := (scl_lt hm hp hq).mpr z; omega
      · have := (scl_lt hm hq hp).mpr z; omega
  · intro h; rw [h]
abbrev encS (m : Int) (k : List Rat) : D := .tup [.tup (k.map fun q => .int (scl m q)), encK k]
def pqD (q : Rat) : PyData := .tuple [.int q.num, .int (q.den : Int)]
theorem toDs_scl (m : Int) : ∀ k : List Rat, toDs (k.map fun q => D.int (scl m q)) = some (k.map fun q => PyData.int (scl m q))
  | [] => rfl
  | q :: k => by simp only [List.map_cons, toDs, toD, toDs_scl m k]
theorem toDs_dr : ∀ k : List Rat, toDs (k.map dr) = some (k.map pqD)
  | [] => rfl
  | q :: k => by
    have e : toD (dr q) = some (pqD q) := rfl
    simp only [List.map_cons, toDs, e, toDs_dr k]
theorem toD_encK (k : List Rat) : toD (encK k) = some (.tuple (k.map pqD)) := by simp only [toD, toDs_dr, Option.map_some]
theorem toD_encS (m : Int) (k : List Rat) : toD (encS m k) = some (.tuple [.tuple (k.map fun q => .int (scl m q)), .tuple (k.map pqD)]) := by
  simp only [toD, toDs, toDs_scl, toDs_dr, Option.map_some]
theorem pD_encS (m : Int) (k : List Rat) : pD (encS m k) = .tuple [.tuple (k.map fun q => .int (scl m q)), .tuple (k.map pqD)] := by
  unfold pD; rw [toD_encS]; rfl
theorem alike_scl (m : Int) : ∀ a b : List Rat, alikeAll (a.map fun q => PyData.int (scl m q)) (b.map fun q => PyData.int (scl m q)) = true
  | [], _ => by simp [alikeAll]
  | _ :: _, [] => by simp [alikeAll]
  | x :: a, y :: b => by
    simp only [List.map_cons]
    rw [alikeAll, alike_scl m a b]
    simp [alike]
theorem alike_pq : ∀ a b : List Rat, alikeAll (a.map pqD) (b.map pqD) = true
  | [], _ => by simp [alikeAll]
  | _ :: _, [] => by simp [alikeAll]
  | x :: a, y :: b => by
    simp only [List.map_cons]
    rw [alikeAll, alike_pq a b]
    simp [alike, alikeAll, pqD]
theorem alike_encS (m : Int) (a b : List Rat) : alike (pD (encS m a)) (pD (encS m b)) = true := by
  rw [pD_encS, pD_encS]
  simp [alike, alikeAll, alike_scl, alike_pq]
theorem eqv_scl {m : Int} (hm : 0 < m) : ∀ {a b : List Rat}, a.length = b.length → (∀ q ∈ a, (q.den : Int) ∣ m) → (∀ q ∈ b, (q.den : Int) ∣ m) → PyData.eqvAll (a.map fun q => .int (scl m q)) (b.map fun q => .int (scl m q)) = decide (a = b)
  | [], [], _, _, _ => by simp [PyData.eqvAll]
  | x :: a, y :: b, hl, ha, hb => by
    have ih := eqv_scl hm (a := a) (b := b) (by simpa using hl) (fun q hq => ha q (.tail _ hq)) (fun q hq => hb q (.tail _ hq))
    simp only [List.map_cons, PyData.eqvAll]
    rw [ih]
    have e : PyData.eqv (.int (scl m x)) (.int (scl m y)) = decide (x = y) := by
      have := scl_inj hm (ha x (.head _)) (hb y (.head _))
      by_cases z : x = y
      · subst z; simp [PyData.eqv]
      · have : ¬ scl m x = scl m y := fun q => z (this.mp q)
        simp [PyData.eqv, z, this]
    rw [e]
    by_cases z : x = y
    · subst z; simp
    · simp [z]
theorem lt_scl {m : Int} (hm : 0 < m) : ∀ {a b : List Rat}, a.length = b.length → (∀ q ∈ a, (q.den : Int) ∣ m) → (∀ q ∈ b, (q.den : Int) ∣ m) → PyProof.Rows.lexLt itemOrd (keyToksAll (a.map fun q => .int (scl m q))) (keyToksAll (b.map fun q => .int (scl m q))) = lexR a b
  | [], [], _, _, _ => by simp only [List.map_nil, lexR]; exact lex_irrefl _
  | x :: a, y :: b, hl, ha, hb => by
    have ih := lt_scl hm (a := a) (b := b) (by simpa using hl) (fun q hq => ha q (.tail _ hq)) (fun q hq => hb q (.tail _ hq))
    simp only [List.map_cons]
    rw [dataLt_cons (by simp [alike]), ih, dataLt_int]
    have h1 := scl_inj hm (ha x (.head _)) (hb y (.head _))
    have h2 := scl_lt hm (ha x (.head _)) (hb y (.head _))
    simp only [lexR]
    by_cases z : x = y
    · subst z; simp [PyData.eqv]
    · have z' : ¬ scl m x = scl m y := fun q => z (h1.mp q)
      rw [if_neg z, if_neg (by simp [PyData.eqv, z'])]
      rw [decide_eq_decide]; exact h2
theorem eqv_pq : ∀ a : List Rat, PyData.eqvAll (a.map pqD) (a.map pqD) = true
  | [] => by simp [PyData.eqvAll]
  | x :: a => by simp [PyData.eqvAll, PyData.eqv, pqD, eqv_pq a]
theorem ltD_encS {m : Int} (hm : 0 < m) {a b : List Rat} (hl : a.length = b.length) (ha : ∀ q ∈ a, (q.den : Int) ∣ m) (hb : ∀ q ∈ b, (q.den : Int) ∣ m) : ltD (encS m a) (encS m b) = lexR a b := by
  unfold ltD
  rw [pD_encS, pD_encS, dataLt_pair (by simp [alike, alike_scl]) (by simp [alike, alike_pq])]
  have e : PyData.eqv (.tuple (a.map fun q => .int (scl m q))) (.tuple (b.map fun q => .int (scl m q))) = decide (a = b) := by
    rw [PyData.eqv]; exact eqv_scl hm hl ha hb
  rw [e, dataLt_tuple (a.map fun q => PyData.int (scl m q)) (b.map fun q => PyData.int (scl m q)), lt_scl hm hl ha hb]
  by_cases z : a = b
  · subst z
    rw [if_pos (decide_eq_true rfl), if_pos (by rw [PyData.eqv]; exact eqv_pq a), lexR_irrefl]
  · rw [if_neg (by simpa using z)]
theorem depth_scl (m : Int) : ∀ k : List Rat, PyData.depthAll (k.map fun q => PyData.int (scl m q)) = 0
  | [] => by simp [PyData.depthAll]
  | q :: k => by simp [PyData.depthAll, PyData.depth, depth_scl m k]
theorem depth_pq : ∀ k : List Rat, PyData.depthAll (k.map pqD) ≤ 1
  | [] => by simp [PyData.depthAll]
  | q :: k => by
    have := depth_pq k
    simp only [List.map_cons, PyData.depthAll, PyData.depth, pqD] at this ⊢
    omega
theorem sortOk_encS (m : Int) (L : List (List Rat)) (hl : L.length ≤ 16777216) : sortOk (L.map (encS m)) = true := by
  unfold sortOk
  simp only [Bool.and_eq_true, List.all_eq_true, Bool.or_eq_true, decide_eq_true_eq, List.length_map]
  refine ⟨fun d hd => ?_, fun a ha b hb => ?_, .inl fun d hd => ?_, hl⟩
  · obtain ⟨k, _, rfl⟩ := List.mem_map.mp hd
    refine ⟨by rw [toD_encS]; rfl, ?_⟩
    rw [pD_encS]
    have := depth_scl m k
    have := depth_pq k
    simp only [PyData.depth, PyData.depthAll, deep]
    omega
  · obtain ⟨k, _, rfl⟩ := List.mem_map.mp ha
    obtain ⟨j, _, rfl⟩ := List.mem_map.mp hb
    exact alike_encS m k j
  · obtain ⟨k, _, rfl⟩ := List.mem_map.mp hd
    rw [pD_encS]; rfl
/-- the order that sorted goes by -/
def leR (a b : List Rat) : Bool := !lexR b a
theorem leR_trans (a b c : List Rat) (h1 : leR a b = true) (h2 : leR b c = true) : leR a c = true := by
  unfold leR at *
  simp only [Bool.not_eq_true'] at *
  cases e : lexR c a with
  | false => rfl
  | true =>
    by_cases z : a = b
    · subst z; rw [e] at h2; cases h2
    · rcases lexR_total a b z with q | q
      · have := lexR_trans _ _ _ e q
        rw [this] at h2; cases h2
      · rw [q] at h1; cases h1
theorem leR_total (a b : List Rat) : (leR a b || leR b a) = true := by
  unfold leR
  by_cases z : a = b
  · subst z; rw [lexR_irrefl]; rfl
  · rcases lexR_total a b z with q | q
    · rw [lexR_asymm q]; rfl
    · rw [lexR_asymm q]; simp
theorem sorted_keys {L : List (List Rat)} (hn : L.Nodup) : (L.mergeSort leR).Pairwise fun a b => lexR a b = true := by
  have h1 := List.pairwise_mergeSort leR_trans leR_total L
  have h2 : (L.mergeSort leR).Nodup := (List.mergeSort_perm L leR).nodup_iff.mpr hn
  refine (List.Pairwise.and h1 h2).imp fun {a b} h => ?_
  obtain ⟨h, ne⟩ := h
  unfold leR at h
  rcases lexR_total a b ne with q | q
  · exact q
  · rw [q] at h; cases h
theorem sort_encS {m : Int} (hm : 0 < m) {n : Nat} {L : List (List Rat)} (hl : ∀ k ∈ L, k.length = n) (hd : ∀ k ∈ L, ∀ q ∈ k, (q.den : Int) ∣ m) : (L.map (encS m)).mergeSort leD = (L.mergeSort leR).map (encS m) := by
  refine (List.map_mergeSort fun a ha b hb => ?_).symm
  unfold leR leD
  rw [ltD_encS hm ((hl b hb).trans (hl a ha).symm) (hd b hb) (hd a ha)]
end Mi
end
section
set_option autoImplicit false
set_option linter.all false
/-! Pl10: more rules of the walk -/
namespace Mi
open PySem
inductive WipR {α : Type} : List (Option α) → List Nat → List (Option α) → Prop where
  | nil {v : List (Option α)} : WipR v [] v
  | cons {v v1 v2 : List (Option α)} {w : Nat} {ws : List Nat} (h : WipR v ws v1) (e : SetR v1 w none v2) : WipR v (w :: ws) v2
theorem WipR.eq {v v' : Env} {ws : List Nat} (h : WipR v ws v') : wipeE v ws = v' := by
  induction h with
  | nil => rfl
  | cons _ e ih => unfold wipeE; rw [ih, e.eq]
section
variable {P : Pg} {F : Fo} {v : Env} {S : Sto} {Q : D → Sto → Prop} {X : XP}
theorem lcS_w2 {e : ME} {t : MT} {c : Option MQ} {ws : List Nat} {x : D} {v1 : Env} {q : Option D × Sto → Prop} (hw : WipR v ws v1)
    (h : wO (bindM S t x v1) fun v' => wC (evC P F c v' S) fun b S1 => (b = true → wX (ev P F e v' S1) (fun y S2 => q (some y, S2)) noX) ∧ (b = false → q (none, S1))) :
    wO (lcS P F e t c ws v x S) q := by
  refine lcS_w ?_
  rw [hw.eq]; exact h
theorem lc2S_w2 {e : ME} {t : MT} {c : Option MQ} {t1 : MT} {it1 : MI} {c1 : Option MQ} {ws ws1 : List Nat} {x : D} {acc : List D} {v1 : Env} (hw : WipR v ws v1)
    (h : wO (bindM S t x v1) fun v' => wC (evC P F c v' S) fun b S1 => (b = true → wI (evI P F it1 v' S1) (fun ys g1 S4 => wX (lcL g1 (lcS P F e t1 c1 ws1 v') ys acc S4) Q noX) noX) ∧ (b = false → Q (.lst acc) S1)) :
    wX (lc2S P F e t c t1 it1 c1 ws ws1 v x acc S) Q noX := by
  refine lc2S_w ?_
  rw [hw.eq]; exact h
/-- a new object of value semantics -/
theorem e_mkT {c : Nat} {es : List ME} {f : Nat} (hf : (P.cls[c]?).bind (·.ini) = some f)
    (h : wL (evs P F es v S) (fun ds S1 => wX (F f (.loc S1.length :: ds) (S1 ++ [.ins c []])) (fun d S2 => d = .non ∧ ∃ fs, S2 = S1 ++ [.ins c fs] ∧ lfF S1.length fs = true ∧ S1.all (lfM S1.length) = true ∧ Q (.ins c fs) S1) X) X) :
    wX (ev P F (.mk true c es) v S) Q X := by
  simp only [ev]
  refine x_bindL ?_
  cases h1 : evs P F es v S <;> rw [h1] at h <;> try exact h
  rename_i ds S1
  have h : wX (F f (.loc S1.length :: ds) (S1 ++ [.ins c []])) _ X := h
  show wX (match (P.cls[c]?).bind (·.ini) with | some f => _ | none => _) Q X
  rw [hf]
  simp only
  cases h2 : F f (.loc S1.length :: ds) (S1 ++ [.ins c []]) <;> rw [h2] at h <;> try exact h
  obtain ⟨rfl, fs, rfl, a, b, hq⟩ := h
  simp only [List.getElem?_append_right (Nat.le_refl _), Nat.sub_self, List.getElem?_cons_zero, if_true, List.length_append, List.length_cons, List.length_nil, List.take_left, decide_true, a, b, Bool.and_self]
  exact hq
/-! dicts with nested keys, the last object -/
theorem o_getN {k : List Rat} {w : Int} {L : Wt} {S1 : Sto} {z : Bool} {q : D × Sto → Prop} (hs : S1 = S ++ [.dn z (L.map encE)]) (h : q (.int ((getK k L).getD w), S1)) :
    wO (bmtD S1 .dct .get (.loc S.length) [encK k, .int w]) q := by
  subst hs
  refine wO_some ?_ h
  show (match (S ++ [.dn z (L.map encE)])[S.length]? with | some (.dk kvs) => _ | some (.dn _ kvs) => _ | _ => none) = _
  rw [app_get]
  simp only [tkOf_encK, Option.map_some, lookT_enc]
  cases getK k L <;> rfl
theorem o_idxN {k : List Rat} {w : Int} {L : Wt} {S1 : Sto} {z : Bool} {q : D → Prop} (hs : S1 = S ++ [.dn z (L.map encE)]) (hk : getK k L = some w) (h : q (.int w)) : wO (idxD S1 (.loc S.length) (encK k)) q := by
  subst hs
  refine wO_some ?_ h
  show (match (S ++ [.dn z (L.map encE)])[S.length]? with | some (.lst xs) => _ | some (.dk kvs) => _ | some (.dn _ kvs) => _ | _ => none) = _
  rw [app_get]
  simp only [tkOf_encK, Option.bind_some, lookT_enc, hk, Option.map_some]
theorem o_setN {k : List Rat} {w : Int} {L : Wt} {S1 : Sto} {q : Sto → Prop} (hs : S1 = S ++ [.dn false (L.map encE)]) (hl : L.length < LIM) (h : q (S ++ [.dn false ((addK k w L).map encE)])) : wO (setD S1 (.loc S.length) (encK k) (.int w)) q := by
  subst hs
  refine wO_some ?_ h
  show (match (S ++ [.dn false (L.map encE)])[S.length]? with | some (.lst xs) => _ | some (.dk kvs) => _ | some (.dn false kvs) => _ | _ => none) = _
  rw [app_get]
  simp only [tkOf_encK, List.length_map, if_pos hl, putT_enc, app_set]
theorem ki_N {L : List (D × D)} {S1 : Sto} {z : Bool} {q : Ki → Prop} (hs : S1 = S ++ [.dn z L]) (h : q .dct) : wO (kiD S1 (.loc S.length)) q := by
  subst hs
  refine wO_some ?_ h
  show (match (S ++ [.dn z L])[S.length]? with | some (.lst _) => some Ki.lst | some (.dk _) => _ | some (.dn _ _) => _ | _ => none) = _
  rw [app_get]
theorem e_thwN {i : Nat} {m : ME} {L : List (D × D)} {S1 : Sto} (hs : S1 = S ++ [.dn false L]) (hv : v[i]? = some (some (.loc S.length)))
    (h : wX (ev P F m v (S ++ [.dn true L])) (fun d S2 => S2 = S ++ [.dn true L] ∧ Q d (S ++ [.dn false L])) noX) : wX (ev P F (.thw i m) v S1) Q X := by
  subst hs
  refine e_thw hv app_get ?_
  rw [app_set]
  cases h1 : ev P F m v (S ++ [.dn true L]) <;> rw [h1] at h <;> try exact h
  obtain ⟨rfl, h⟩ := h
  refine wO_some (show dnT (S ++ [.dn true L]) S.length = some L by unfold dnT; rw [app_get]) ?_
  rw [app_set]; exact h
theorem wi_dkyN {i : Nat} {L : Wt} {S1 : Sto} {QI : List D → List (Nat × List D) → Sto → Prop} (hs : S1 = S ++ [.dn true (L.map encE)]) (hv : v[i]? = some (some (.loc S.length))) (h : QI ((L.map (·.1)).map encK) [] S1) : wI (evI P F (.dky i) v S1) QI X := by
  subst hs
  refine wi_dky hv app_get ?_
  have e : (L.map encE).map (·.1) = (L.map (·.1)).map encK := by simp [encE]
  rw [e]; exact h
theorem m_tpL {ts : List MT} {xs : List D} {q : Env → Prop} (h : wO (bindMs S ts xs v) q) : wO (bindM S (.tp ts) (.lst xs) v) q := h
end
theorem addK_len (k : List Rat) (w : Int) (L : Wt) : (addK k w L).length ≤ L.length + 1 := by
  unfold addK
  split <;> simp
/-- a tuple or a list -/
def TL (xs : List D) (x : D) : Prop := x = .tup xs ∨ x = .lst xs
theorem q_TL {S : Sto} {xs : List D} {x : D} {q : List D → Prop} (h : TL xs x) (hq : q xs) : wO (seqOf S x) q := by rcases h with rfl | rfl <;> exact hq
theorem g_TL {S : Sto} {xs : List D} {x : D} (h : TL xs x) : gOf S x = [] := by rcases h with rfl | rfl <;> rfl
theorem m_TL {S : Sto} {v : Env} {ts : List MT} {xs : List D} {x : D} {q : Env → Prop} (h : TL xs x) (hq : wO (bindMs S ts xs v) q) : wO (bindM S (.tp ts) x v) q := by rcases h with rfl | rfl <;> exact hq
theorem fm_if {α β : Type} (p : α → Bool) (f : α → β) : ∀ L : List α, L.filterMap (fun a => if p a = true then some (f a) else none) = (L.filter p).map f
  | [] => rfl
  | a :: L => by
    cases h : p a with
    | true => simp [List.filterMap_cons, List.filter_cons, h, fm_if p f L]
    | false => simp [List.filterMap_cons, List.filter_cons, h, fm_if p f L]
theorem num_pos {q : Rat} : 0 < q.num ↔ 0 < q := by
  have h : (0 ≤ (-q).num) ↔ (0 ≤ -q) := Rat.num_nonneg
  rw [Rat.neg_num] at h
  constructor
  · intro h1
    have : ¬ (0 ≤ -q) := fun z => by have := h.mpr z; omega
    grind
  · intro h1
    have : ¬ (0 ≤ -q.num) := fun z => by have := h.mp z; grind
    omega
/-- a key that the plain list keeps -/
def keepK (L : Wt) (k : List Rat) : Bool := !decide ((getK k L).getD 0 = 0) && k.any fun q => decide (0 < q.num)
theorem getK_ex {L : Wt} {k : List Rat} (h : k ∈ L.map (·.1)) : ∃ w, getK k L = some w := by
  cases e : getK k L with
  | some w => exact ⟨w, rfl⟩
  | none =>
    obtain ⟨a, ha, rfl⟩ := List.mem_map.mp h
    exact absurd ha (getK_none e _)
theorem plain_of_acc {rows : List Row} {L : Wt} (a : Acc rows L) : IsPlain rows ((((L.map (·.1)).filter (keepK L)).mergeSort leR).map fun k => ((getK k L).getD 0, k)) := by
  refine ⟨?_, fun w k => ?_⟩
  · rw [List.pairwise_map]
    exact sorted_keys (a.nd.filter _)
  · simp only [List.mem_map, List.mem_mergeSort, List.mem_filter, Prod.mk.injEq, keepK, Bool.and_eq_true, Bool.not_eq_true', decide_eq_false_iff_not, List.any_eq_true, decide_eq_true_eq]
    constructor
    · rintro ⟨k', ⟨⟨e, he, rfl⟩, h1, q, hq, h2⟩, rfl, rfl⟩
      have := a.get e.1
      refine ⟨((a.mem e.1 e.2).mp he).1, this, h1, q, hq, num_pos.mp h2⟩
    · rintro ⟨hr, rfl, h1, q, hq, h2⟩
      refine ⟨k, ⟨⟨(k, sumW rows k), (a.mem _ _).mpr ⟨hr, rfl⟩, rfl⟩, by rw [a.get]; exact h1, q, hq, num_pos.mpr h2⟩, a.get k, rfl⟩
theorem fl_len {α β : Type} (f : α → List β) (k : Nat) : ∀ l : List α, (∀ a ∈ l, (f a).length ≤ k) → (l.flatMap f).length ≤ l.length * k
  | [], _ => by simp
  | a :: l, h => by
    have h1 := h a (.head _)
    have h2 := fl_len f k l fun b hb => h b (.tail _ hb)
    rw [List.flatMap_cons, List.length_append, List.length_cons, Nat.add_mul]
    omega
theorem fl_map {α β γ : Type} (f : α → List β) (g : β → γ) (l : List α) : (l.flatMap fun a => (f a).map g) = (l.flatMap f).map g := by
  induction l with
  | nil => rfl
  | cons a l ih => simp [List.flatMap_cons, ih]
theorem pureL_map {α : Type} {f : α → D} (h : ∀ a, pureD (f a) = true) : ∀ l : List α, pureL (l.map f) = true
  | [] => rfl
  | a :: l => by simp only [List.map_cons, pureL, h, pureL_map h l, Bool.and_self]
theorem pure_dr (q : Rat) : pureD (dr q) = true := rfl
theorem pure_encK (k : List Rat) : pureD (encK k) = true := by unfold encK; simp only [pureD]; exact pureL_map pure_dr k
theorem pure_encR (r : Row) : pureD (encR r) = true := by unfold encR; simp only [pureD, pureL, Bool.and_true]; exact pureL_map pure_dr r.2
theorem pure_rows (L : List Row) : pureD (.tup (L.map encR)) = true := by simp only [pureD]; exact pureL_map pure_encR L
theorem cls_N {S S1 : Sto} {c : Nat} {fs : List (Nat × D)} (hs : S1 = S ++ [.ins c fs]) : clsOf S1 (.loc S.length) = some c := by
  subst hs
  unfold clsOf
  simp only [app_get]
theorem fld_N {P : Pg} {S S1 : Sto} {c f : Nat} {fs : List (Nat × D)} (hs : S1 = S ++ [.ins c fs]) (h : ((P.cls[c]?).map fun k => k.flds.contains f) = some true) : fldOk P S1 (.loc S.length) f = true := by
  unfold fldOk
  rw [cls_N hs, Option.bind_some]
  cases e : P.cls[c]? with
  | none => rw [e] at h; cases h
  | some k => rw [e] at h; exact Option.some.inj h
theorem o_setF {S S1 : Sto} {c f : Nat} {fs : List (Nat × D)} {y : D} {q : Sto → Prop} (hs : S1 = S ++ [.ins c fs]) (hl : fs.length < 900) (h : q (S ++ [.ins c (putF f y fs)])) : wO (setF S1 (.loc S.length) f y) q := by
  subst hs
  refine wO_some ?_ h
  unfold setF
  simp only [app_get, if_pos hl, app_set]
end Mi
end
section
set_option autoImplicit false
set_option linter.all false
/-! Pl11: rows as data -/
namespace Mi
open PySem
def rowD (r : Row) : PyData := .tuple [.int r.1, .tuple (r.2.map pqD)]
section
variable {α : Type}
theorem toPs_map {f : α → D} {g : α → PyData} (h : ∀ a, toP (f a) = some (g a)) : ∀ l : List α, toPs (l.map f) = some (l.map g)
  | [] => rfl
  | a :: l => by simp only [List.map_cons, toPs, h, toPs_map h l]
theorem toDs_map {f : α → D} {g : α → PyData} (h : ∀ a, toD (f a) = some (g a)) : ∀ l : List α, toDs (l.map f) = some (l.map g)
  | [] => rfl
  | a :: l => by simp only [List.map_cons, toDs, h, toDs_map h l]
theorem depthAll_map {g : α → PyData} {n : Nat} (h : ∀ a, (g a).depth ≤ n) : ∀ l : List α, PyData.depthAll (l.map g) ≤ n
  | [] => by simp [PyData.depthAll]
  | a :: l => by
    have h1 := h a
    have h2 := depthAll_map h l
    simp only [List.map_cons, PyData.depthAll]
    omega
theorem eqvAll_map {g : α → PyData} (h : ∀ a, PyData.eqv (g a) (g a) = true) : ∀ l : List α, PyData.eqvAll (l.map g) (l.map g) = true
  | [] => by simp [PyData.eqvAll]
  | a :: l => by simp only [List.map_cons, PyData.eqvAll, h, eqvAll_map h l, Bool.and_self]
theorem showAll_map {g : α → PyData} : ∀ l : List α, (∀ a ∈ l, (g a).showable = true) → PyData.showableAll (l.map g) = true
  | [], _ => rfl
  | a :: l, h => by simp only [List.map_cons, PyData.showableAll, h a (.head _), showAll_map l fun b hb => h b (.tail _ hb), Bool.and_self]
theorem bndAll_map {g : α → PyData} {n : Nat} : ∀ l : List α, (∀ a ∈ l, bnd (g a) ≤ n) → bndAll (l.map g) ≤ l.length * (n + 2)
  | [], _ => by simp [bndAll]
  | a :: l, h => by
    have h1 := h a (.head _)
    have h2 := bndAll_map l fun b hb => h b (.tail _ hb)
    simp only [List.map_cons, bndAll, List.length_cons, Nat.add_mul]
    omega
end
theorem toP_pq (q : Rat) : toP (dr q) = some (pqD q) := rfl
theorem toP_encR (r : Row) : toP (encR r) = some (rowD r) := by
  unfold encR rowD encK
  simp only [toP, toPs, toPs_map toP_pq, Option.map_some]
theorem toP_rows (L : List Row) : toP (.tup (L.map encR)) = some (.tuple (L.map rowD)) := by simp only [toP, toPs_map toP_encR, Option.map_some]
theorem toD_encR (r : Row) : toD (encR r) = some (rowD r) := by
  unfold encR rowD encK
  simp only [toD, toDs, toDs_dr, Option.map_some]
theorem toD_rows (L : List Row) : toD (.tup (L.map encR)) = some (.tuple (L.map rowD)) := by simp only [toD, toDs_map toD_encR, Option.map_some]
theorem depth_pqD (q : Rat) : (pqD q).depth ≤ 1 := by simp [pqD, PyData.depth, PyData.depthAll]
theorem depth_rowD (r : Row) : (rowD r).depth ≤ 3 := by
  have := depthAll_map depth_pqD r.2
  simp only [rowD, PyData.depth, PyData.depthAll]
  omega
theorem depth_rows (L : List Row) : PyData.depth (.tuple (L.map rowD)) ≤ 4 := by
  have := depthAll_map depth_rowD L
  simp only [PyData.depth]
  omega
theorem eqv_pqD (q : Rat) : PyData.eqv (pqD q) (pqD q) = true := by simp [pqD, PyData.eqv, PyData.eqvAll]
theorem eqv_rowD (r : Row) : PyData.eqv (rowD r) (rowD r) = true := by simp [rowD, PyData.eqv, PyData.eqvAll, eqvAll_map eqv_pqD]
theorem o_eqRows {S : Sto} {L : List Row} {q : Bool → Prop} (h : q true) : wO (cmpD S .Eq (.tup (L.map encR)) (.tup (L.map encR))) q := by
  refine wO_some ?_ h
  show eqPy S (.tup (L.map encR)) (.tup (L.map encR)) = _
  have := depth_rows L
  unfold eqPy
  simp only [der, toP_rows]
  rw [if_pos (by unfold deep; omega)]
  simp [PyData.eqv, eqvAll_map eqv_rowD]
/-- rows that can be shown -/
structure Shows (L : List Row) : Prop where
  len : L.length ≤ 100
  ks : ∀ r ∈ L, r.2.length ≤ 10
  wt : ∀ r ∈ L, Bd 900 r.1
  nb : ∀ r ∈ L, ∀ q ∈ r.2, Bq 900 q
theorem Shows.data {L : List Row} (h : Shows L) : PyData.showable (.tuple (L.map rowD)) = true ∧ bnd (.tuple (L.map rowD)) ≤ 10000000 := by
  constructor
  · simp only [PyData.showable]
    refine showAll_map L fun r hr => ?_
    have h1 := (h.wt r hr).show
    have h2 : PyData.showableAll (r.2.map pqD) = true := showAll_map r.2 fun q hq => by
      have a := (h.nb r hr q hq).top.show
      have b := (h.nb r hr q hq).bot.show
      simp only [pqD, PyData.showable, PyData.showableAll, a, b, decide_true, Bool.and_self]
    simp only [rowD, PyData.showable, PyData.showableAll, h1, h2, decide_true, Bool.and_self]
  · have h1 : bndAll (L.map rowD) ≤ L.length * (50000 + 2) := bndAll_map L fun r hr => by
      have h2 : bndAll (r.2.map pqD) ≤ r.2.length * (4000 + 2) := bndAll_map r.2 fun q hq => by simp [pqD, bnd, bndAll]
      have h3 := h.ks r hr
      have h4 : r.2.length * (4000 + 2) ≤ 10 * (4000 + 2) := Nat.mul_le_mul_right _ h3
      simp only [rowD, bnd, bndAll]
      omega
    have h5 : L.length * (50000 + 2) ≤ 100 * (50000 + 2) := Nat.mul_le_mul_right _ h.len
    simp only [bnd]
    omega
theorem Shows.rep {L : List Row} (h : Shows L) : repX (.tup (L.map encR)) = true := by
  have h1 := depth_rows L
  obtain ⟨h2, h3⟩ := h.data
  unfold repX
  simp only [notLoc, toD_rows, h2, Bool.true_and, Bool.and_eq_true, decide_eq_true_eq]
  exact ⟨by unfold deep; omega, Nat.le_trans h3 (by decide)⟩
theorem Shows.rep2 {L : List Row} (h : Shows L) {k : Int} (hk : Bd 900 k) : repX (.tup [.int k, .tup (L.map encR)]) = true := by
  have h1 := depth_rows L
  obtain ⟨h2, h3⟩ := h.data
  have e : toD (.tup [.int k, .tup (L.map encR)]) = some (.tuple [.int k, .tuple (L.map rowD)]) := by
    have := toD_rows L
    simp only [toD, toDs] at this ⊢
    rw [this]; rfl
  unfold repX
  rw [e]
  have h4 := hk.show
  simp only [notLoc, PyData.showable, PyData.showableAll] at h2 ⊢
  simp only [h2, h4, decide_true, Bool.true_and, Bool.and_true, Bool.and_eq_true, decide_eq_true_eq]
  have h5 : LIM = 16777216 := rfl
  refine ⟨?_, ?_⟩
  · simp only [PyData.depth, PyData.depthAll] at h1 ⊢; unfold deep; omega
  · simp only [bnd, bndAll] at h3 ⊢; omega
theorem o_rep {x : D} {q : D → Prop} (h : repX x = true) {S : Sto} (hq : ∀ s, (∀ S', bltD S' .repr [x] = some (.str s)) → q (.str s)) : wO (bltD S .repr [x]) q := by
  obtain ⟨s, hs⟩ := repX_ok h
  exact wO_some (hs S) (hq s hs)
/-! what a def hands back when the pen has moved -/
theorem okT_pen {n : Nat} {p p' : MO} (hp : ∀ n, lfM n p' = true) (T U : Sto) : okT n (p :: T) (p' :: T ++ U) = true := by
  simp only [List.cons_append, okT, hp, Bool.or_true, Bool.true_and]
  exact okT_app n T U
theorem Pen.lf {c : Nat} {p : MO} (h : Pen c p) (n : Nat) : lfM n p = true := by
  obtain ⟨cs, a, dg, ct, fo, rfl, _⟩ := h
  simp [lfM, lfK, Mi.lf, lfs_ints]
/-- a def that hands back its own list -/
theorem f_list {p p' : MO} {T : Sto} {xs : List D} {Q : D → Sto → Prop} {X : XP} (hp : ∀ n, lfM n p' = true) (hd : pureL xs = true) (h : Q (.lst xs) (p' :: T)) :
    wX (fin false (p :: T) (.loc (T.length + 1)) (p' :: T ++ [.lst xs])) Q X := by
  unfold fin
  rw [if_neg (by simp), if_pos (okT_pen hp T _), if_neg Bool.false_ne_true]
  have e : fz (p :: T).length (p' :: T ++ [.lst xs]) (.loc (T.length + 1)) = some (.lst xs) := by
    unfold fz
    rw [if_neg (by simp)]
    have : (p' :: T ++ [MO.lst xs])[T.length + 1]? = some (.lst xs) := by simp
    rw [this]
    simp only [pureL_lf xs hd, if_true]
  rw [e]
  simp only
  rw [show (p' :: T ++ [MO.lst xs]).take (p :: T).length = p' :: T by simp]
  exact h
/-! the last object a list -/
theorem ki_L {S S1 : Sto} {xs : List D} {q : Ki → Prop} (hs : S1 = S ++ [.lst xs]) (h : q .lst) : wO (kiD S1 (.loc S.length)) q := by
  subst hs
  refine wO_some ?_ h
  show (match (S ++ [.lst xs])[S.length]? with | some (.lst _) => some Ki.lst | some (.dk _) => _ | some (.dn _ _) => _ | _ => none) = _
  rw [app_get]
theorem o_appN {S S1 : Sto} {xs : List D} {y : D} {q : D × Sto → Prop} (hs : S1 = S ++ [.lst xs]) (hl : xs.length < 16777216) (h : q (.non, S ++ [.lst (xs ++ [y])])) : wO (bmtD S1 .lst .append (.loc S.length) [y]) q := by
  subst hs
  refine wO_some ?_ h
  show (match (S ++ [.lst xs])[S.length]? with | some (.lst zs) => (if zs.length < LIM then some (D.non, (S ++ [MO.lst xs]).set S.length (MO.lst (zs ++ [y]))) else none) | _ => none) = _
  rw [app_get]
  simp only [app_set]
  rw [if_pos (show xs.length < LIM from hl)]
end Mi
end
section
set_option autoImplicit false
set_option linter.all false
/-! Pl12: codes -/
namespace Mi
open PySem PySem.W PyProof.Rows
/-- how the values of a type stand as trees and as data -/
structure Cod {α : Type} [DecidableEq α] (f : α → D) (g : α → PyData) (n : Nat) : Prop where
  p : ∀ a, toP (f a) = some (g a)
  d : ∀ a, toD (f a) = some (g a)
  e : ∀ a b, PyData.eqv (g a) (g b) = decide (a = b)
  n : ∀ a, (g a).depth ≤ n
  u : ∀ a, pureD (f a) = true
theorem eqvAll_dec {α : Type} [DecidableEq α] {g : α → PyData} (h : ∀ a b, PyData.eqv (g a) (g b) = decide (a = b)) : ∀ l m : List α, PyData.eqvAll (l.map g) (m.map g) = decide (l = m)
  | [], [] => by simp [PyData.eqvAll]
  | [], _ :: _ => by simp [PyData.eqvAll]
  | _ :: _, [] => by simp [PyData.eqvAll]
  | a :: l, b :: m => by
    simp only [List.map_cons, PyData.eqvAll, h, eqvAll_dec h l m]
    by_cases z : a = b
    · subst z; simp
    · simp [z]
theorem Cod.int : Cod D.int PyData.int 0 := ⟨fun _ => rfl, fun _ => rfl, fun a b => by by_cases h : a = b <;> simp [PyData.eqv, h], fun _ => by simp [PyData.depth], fun _ => rfl⟩
theorem Cod.bool : Cod D.bl PyData.bool 0 := ⟨fun _ => rfl, fun _ => rfl, fun a b => by cases a <;> cases b <;> simp [PyData.eqv], fun _ => by simp [PyData.depth], fun _ => rfl⟩
theorem Cod.rat : Cod dr pqD 1 := by
  refine ⟨fun _ => rfl, fun _ => rfl, fun a b => ?_, depth_pqD, fun _ => rfl⟩
  by_cases h : a = b
  · subst h; simp [eqv_pqD]
  · have : ¬ (a.num = b.num ∧ a.den = b.den) := fun z => h (Rat.ext z.1 z.2)
    have e : PyData.eqv (pqD a) (pqD b) = (decide (a.num = b.num) && decide ((a.den : Int) = b.den)) := by
      by_cases h1 : a.num = b.num <;> by_cases h2 : (a.den : Int) = b.den <;> simp [pqD, PyData.eqv, PyData.eqvAll, h1, h2]
    rw [e, decide_eq_false h]
    by_cases h1 : a.num = b.num
    · have h2 : ¬ (a.den : Int) = b.den := fun z => this ⟨h1, by omega⟩
      simp [h2]
    · simp [h1]
section
variable {α β : Type} [DecidableEq α] [DecidableEq β] {f : α → D} {g : α → PyData} {n : Nat} {f' : β → D} {g' : β → PyData} {m : Nat}
theorem Cod.tup (c : Cod f g n) : Cod (fun l : List α => D.tup (l.map f)) (fun l => .tuple (l.map g)) (n + 1) := by
  refine ⟨fun l => ?_, fun l => ?_, fun a b => ?_, fun l => ?_, fun l => ?_⟩
  · simp only [toP, toPs_map c.p, Option.map_some]
  · simp only [toD, toDs_map c.d, Option.map_some]
  · simp only [PyData.eqv, eqvAll_dec c.e]
  · have := depthAll_map c.n l
    simp only [PyData.depth]; omega
  · simp only [pureD, pureL_map c.u]
theorem Cod.lst (c : Cod f g n) : Cod (fun l : List α => D.lst (l.map f)) (fun l => .list (l.map g)) (n + 1) := by
  refine ⟨fun l => ?_, fun l => ?_, fun a b => ?_, fun l => ?_, fun l => ?_⟩
  · simp only [toP, toPs_map c.p, Option.map_some]
  · simp only [toD, toDs_map c.d, Option.map_some]
  · simp only [PyData.eqv, eqvAll_dec c.e]
  · have := depthAll_map c.n l
    simp only [PyData.depth]; omega
  · simp only [pureD, pureL_map c.u]
theorem Cod.pair (c : Cod f g n) (c' : Cod f' g' m) : Cod (fun p : α × β => D.tup [f p.1, f' p.2]) (fun p => .tuple [g p.1, g' p.2]) (max n m + 1) := by
  refine ⟨fun l => ?_, fun l => ?_, fun a b => ?_, fun l => ?_, fun l => ?_⟩
  · simp only [toP, toPs, c.p, c'.p, Option.map_some]
  · simp only [toD, toDs, c.d, c'.d, Option.map_some]
  · simp only [PyData.eqv, PyData.eqvAll, c.e, c'.e, Bool.and_true]
    obtain ⟨a1, a2⟩ := a
    obtain ⟨b1, b2⟩ := b
    by_cases h1 : a1 = b1 <;> by_cases h2 : a2 = b2 <;> simp [h1, h2]
  · have := c.n l.1; have := c'.n l.2
    simp only [PyData.depth, PyData.depthAll]; omega
  · simp only [pureD, pureL, c.u, c'.u, Bool.and_self]
theorem der_toP {S : Sto} {x : D} {p : PyData} (h : toP x = some p) : der S x = x := by cases x <;> first | rfl | cases h
theorem Cod.eq (c : Cod f g n) (S : Sto) (a b : α) (hn : n ≤ 60 := by omega) : eqPy S (f a) (f b) = some (decide (a = b)) := by
  unfold eqPy
  rw [der_toP (c.p a), der_toP (c.p b), c.p, c.p]
  simp only
  have := c.n a
  rw [if_pos (by unfold deep; omega), c.e]
theorem Cod.o_eq (c : Cod f g n) {S : Sto} {a b : α} {q : Bool → Prop} (h : q (decide (a = b))) (hn : n ≤ 60 := by omega) : wO (cmpD S .Eq (f a) (f b)) q :=
  wO_some (c.eq S a b hn) h
theorem Cod.o_ne (c : Cod f g n) {S : Sto} {a b : α} {q : Bool → Prop} (h : q (!decide (a = b))) (hn : n ≤ 60 := by omega) : wO (cmpD S .NotEq (f a) (f b)) q :=
  wO_some (by show (eqPy S (f a) (f b)).map (!·) = _; rw [c.eq S a b hn]; rfl) h
theorem any_dec {α : Type} [DecidableEq α] {g : α → PyData} (h : ∀ a b, PyData.eqv (g a) (g b) = decide (a = b)) (a : α) : ∀ l : List α, ((l.map g).any fun y => PyData.eqv y (g a)) = decide (a ∈ l)
  | [] => by simp
  | b :: l => by
    simp only [List.map_cons, List.any_cons, h, any_dec h a l]
    by_cases z : a = b
    · subst z; simp
    · have : ¬ b = a := fun q => z q.symm
      simp [z, this]
theorem Cod.inPy (c : Cod f g n) (S : Sto) (a : α) (l : List α) {y : D} (hy : seqOf S y = some (l.map f)) (hn : n ≤ 60 := by omega) : Mi.inPy S (f a) y = some (decide (a ∈ l)) := by
  unfold Mi.inPy
  rw [der_toP (c.p a), c.p, hy, Option.bind_some, toPs_map c.p]
  simp only
  have := c.n a
  rw [if_pos (by unfold deep; omega)]
  congr 1
  exact any_dec c.e a l
theorem Cod.o_in (c : Cod f g n) {S : Sto} {a : α} {l : List α} {q : Bool → Prop} (h : q (decide (a ∈ l))) (hn : n ≤ 60 := by omega) : wO (cmpD S .In (f a) (.lst (l.map f))) q :=
  wO_some (c.inPy S a l rfl hn) h
theorem Cod.o_nin (c : Cod f g n) {S : Sto} {a : α} {l : List α} {q : Bool → Prop} (h : q (!decide (a ∈ l))) (hn : n ≤ 60 := by omega) : wO (cmpD S .NotIn (f a) (.lst (l.map f))) q :=
  wO_some (by show (Mi.inPy S (f a) (.lst (l.map f))).map (!·) = _; rw [c.inPy S a l rfl hn]; rfl) h
theorem Cod.o_in2 (c : Cod f g n) {S : Sto} {a : α} {l : List α} {q : Bool → Prop} (h1 : a ∈ l → q true) (h2 : a ∉ l → q false) (hn : n ≤ 60 := by omega) : wO (cmpD S .In (f a) (.lst (l.map f))) q := by
  refine c.o_in ?_ hn
  by_cases z : a ∈ l
  · rw [decide_eq_true z]; exact h1 z
  · rw [decide_eq_false z]; exact h2 z
theorem Cod.o_nin2 (c : Cod f g n) {S : Sto} {a : α} {l : List α} {q : Bool → Prop} (h1 : a ∈ l → q false) (h2 : a ∉ l → q true) (hn : n ≤ 60 := by omega) : wO (cmpD S .NotIn (f a) (.lst (l.map f))) q := by
  refine c.o_nin ?_ hn
  by_cases z : a ∈ l
  · rw [decide_eq_true z]; exact h1 z
  · rw [decide_eq_false z]; exact h2 z
theorem Cod.o_eq2 (c : Cod f g n) {S : Sto} {a b : α} {q : Bool → Prop} (h1 : a = b → q true) (h2 : a ≠ b → q false) (hn : n ≤ 60 := by omega) : wO (cmpD S .Eq (f a) (f b)) q := by
  refine c.o_eq ?_ hn
  by_cases z : a = b
  · rw [decide_eq_true z]; exact h1 z
  · rw [decide_eq_false z]; exact h2 z
theorem Cod.o_ne2 (c : Cod f g n) {S : Sto} {a b : α} {q : Bool → Prop} (h1 : a = b → q false) (h2 : a ≠ b → q true) (hn : n ≤ 60 := by omega) : wO (cmpD S .NotEq (f a) (f b)) q := by
  refine c.o_ne ?_ hn
  by_cases z : a = b
  · rw [decide_eq_true z]; exact h1 z
  · rw [decide_eq_false z]; exact h2 z
theorem Cod.o_inT (c : Cod f g n) {S : Sto} {a : α} {l : List α} {q : Bool → Prop} (h : q (decide (a ∈ l))) (hn : n ≤ 60 := by omega) : wO (cmpD S .In (f a) (.tup (l.map f))) q :=
  wO_some (c.inPy S a l rfl hn) h
theorem Cod.o_ninT (c : Cod f g n) {S : Sto} {a : α} {l : List α} {q : Bool → Prop} (h : q (!decide (a ∈ l))) (hn : n ≤ 60 := by omega) : wO (cmpD S .NotIn (f a) (.tup (l.map f))) q :=
  wO_some (by show (Mi.inPy S (f a) (.tup (l.map f))).map (!·) = _; rw [c.inPy S a l rfl hn]; rfl) h
end
abbrev encI (k : List Int) : D := .tup (k.map .int)
abbrev encJ (r : Int × List Int) : D := .tup [.int r.1, encI r.2]
theorem codK : Cod encK (fun k => .tuple (k.map pqD)) 2 := Cod.rat.tup
theorem codR : Cod encR rowD 3 := Cod.int.pair codK
theorem codI : Cod encI (fun k => .tuple (k.map .int)) 1 := Cod.int.tup
theorem codJ : Cod encJ (fun r => .tuple [.int r.1, .tuple (r.2.map .int)]) 2 := Cod.int.pair codI
/-! slices -/
theorem slc_take {S : Sto} {xs : List D} {i : Int} (h0 : 0 ≤ i) : slcD S (.lst xs) none (some i) = some (.lst (xs.take i.toNat)) := by
  show some (D.lst (cutD xs none (some i))) = _
  unfold cutD
  obtain ⟨k, rfl⟩ := Int.eq_ofNat_of_zero_le h0
  rw [HT.sIx_none, HT.sIx_nat, List.drop_zero, Nat.sub_zero, Int.toNat_natCast]
  congr 2
  by_cases h : k ≤ xs.length
  · rw [Nat.min_eq_left h]
  · rw [Nat.min_eq_right (by omega), List.take_length, List.take_of_length_le (by omega)]
theorem slc_drop {S : Sto} {xs : List D} {i : Int} (h0 : 0 ≤ i) : slcD S (.lst xs) (some i) none = some (.lst (xs.drop i.toNat)) := by
  show some (D.lst (cutD xs (some i) none)) = _
  unfold cutD
  obtain ⟨k, rfl⟩ := Int.eq_ofNat_of_zero_le h0
  rw [HT.sIx_none, HT.sIx_nat, Int.toNat_natCast]
  congr 2
  by_cases h : k ≤ xs.length
  · rw [Nat.min_eq_left h, List.take_of_length_le (by rw [List.length_drop]; omega)]
  · rw [Nat.min_eq_right (by omega), Nat.sub_self, List.take_zero, List.drop_eq_nil_of_le (by omega)]
theorem o_take {S : Sto} {xs : List D} {i : Int} {a b : Option Int × Sto} {q : D → Prop} (ea : a.1 = none) (eb : b.1 = some i) (h0 : 0 ≤ i) (h : q (.lst (xs.take i.toNat))) : wO (slcD S (.lst xs) a.1 b.1) q := by
  rw [ea, eb]; exact wO_some (slc_take h0) h
theorem o_drop {S : Sto} {xs : List D} {i : Int} {a b : Option Int × Sto} {q : D → Prop} (ea : a.1 = some i) (eb : b.1 = none) (h0 : 0 ≤ i) (h : q (.lst (xs.drop i.toNat))) : wO (slcD S (.lst xs) a.1 b.1) q := by
  rw [ea, eb]; exact wO_some (slc_drop h0) h
theorem o_tupN {S S1 : Sto} {xs : List D} {q : D → Prop} (hs : S1 = S ++ [.lst xs]) (h : q (.tup xs)) : wO (bltD S1 .tuple [.loc S.length]) q := by
  subst hs
  refine wO_some ?_ h
  show (seqOf (S ++ [.lst xs]) (.loc S.length)).map D.tup = _
  unfold seqOf der
  simp only [app_get, Option.map_some]
theorem take_one {α : Type} {l : List α} {j : Nat} {a : α} (h : l[j]? = some a) : l.take (j + 1) = l.take j ++ [a] := by rw [List.take_succ, h]; rfl
/-! isinstance(x, C) -/
theorem e_isc {P : Pg} {F : Fo} {v : Env} {S : Sto} {Q : D → Sto → Prop} {X : XP} {es : List ME} (h : wL (evs P F es v S) (fun ds S1 => wO (iscD P S1 ds) fun d => Q d S1) X) : wX (ev P F (.isc es) v S) Q X := by
  simp only [ev]
  refine x_bindL ?_
  cases h1 : evs P F es v S <;> rw [h1] at h <;> try exact h
  exact x_ofO h
theorem w_isc {P : Pg} {S : Sto} {c c' : Nat} {fs : List (Nat × D)} {b : Bool} {q : D → Prop} (e : iscD P S [.ins c' fs, .cls c] = some (.bl b)) (h : q (.bl b)) : wO (iscD P S [.ins c' fs, .cls c]) q := by rw [e]; exact h
theorem o_att {P : Pg} {S : Sto} {c f : Nat} {fs : List (Nat × D)} {d : D} {q : D → Prop} (e1 : fldOk P S (.ins c fs) f = true) (e2 : lookF f fs = some d) (h : q d) : fldOk P S (.ins c fs) f = true ∧ wO (attD S (.ins c fs) f) q :=
  ⟨e1, wO_some (show lookF f fs = some d from e2) h⟩
/-! ranges -/
theorem rgG_ok {i : Int} (h0 : -4611686018427387904 ≤ i) (h1 : i < 4611686018427387904) : rgG i = true := by
  unfold rgG; simp only [Bool.and_eq_true, decide_eq_true_eq]; exact ⟨h0, h1⟩
theorem rg_and {i : Int} {p : Prop} (h0 : -4611686018427387904 ≤ i) (h1 : i < 4611686018427387904) (h : p) : rgG i = true ∧ p := ⟨rgG_ok h0 h1, h⟩
theorem rg_and2 {i j : Int} {p : Prop} (h0 : -4611686018427387904 ≤ i) (h1 : i < 4611686018427387904) (h2 : -4611686018427387904 ≤ j) (h3 : j < 4611686018427387904) (h : p) : (rgG i && rgG j) = true ∧ p := ⟨by rw [rgG_ok h0 h1, rgG_ok h2 h3]; rfl, h⟩
/-! a list of the store, or a value -/
/-- a tuple, a list, or a list of the store -/
def TS (S : Sto) (xs : List D) (x : D) : Prop := TL xs x ∨ ∃ l, x = .loc l ∧ S[l]? = some (.lst xs)
theorem TS.app {S : Sto} {xs : List D} {x : D} (h : TS S xs x) (U : Sto) : TS (S ++ U) xs x := by
  rcases h with h | ⟨l, rfl, h⟩
  · exact .inl h
  · refine .inr ⟨l, rfl, ?_⟩
    have hl := (List.getElem?_eq_some_iff.mp h).1
    rw [List.getElem?_append_left hl]; exact h
theorem q_TS {S : Sto} {xs : List D} {x : D} {q : List D → Prop} (h : TS S xs x) (hq : q xs) : wO (seqOf S x) q := by
  rcases h with h | ⟨l, rfl, h⟩
  · exact q_TL h hq
  · refine wO_some ?_ hq
    unfold seqOf der
    simp only [h]
theorem TS.guard {S S' : Sto} {xs : List D} {x : D} (h : TS S xs x) (h' : TS S' xs x) : guards (gOf S x) S' = true := by
  rcases h with h | ⟨l, rfl, h⟩
  · rw [g_TL h]; rfl
  · rcases h' with h' | ⟨l', e, h'⟩
    · rcases h' with e | e <;> cases e
    · cases e
      unfold gOf guards
      simp only [h, List.all_cons, List.all_nil, Bool.and_true, h']
      exact (eqDs_iff _ _).mpr rfl
end Mi
end
section
set_option autoImplicit false
set_option linter.all false
/-! Pl13: rows kept in order -/
namespace Mi
open PySem
/-- a key put where it belongs -/
def insK (K : List (List Rat)) (k : List Rat) : List (List Rat) := K.takeWhile (fun j => lexR j k) ++ [k] ++ K.dropWhile (fun j => lexR j k)
theorem insK_mem {K : List (List Rat)} {k j : List Rat} : j ∈ insK K k ↔ j ∈ K ∨ j = k := by
  unfold insK
  conv => rhs; lhs; rw [← List.takeWhile_append_dropWhile (p := fun j => lexR j k) (l := K)]
  simp only [List.mem_append, List.mem_singleton]
  constructor
  · rintro ((h | h) | h)
    · exact .inl (.inl h)
    · exact .inr h
    · exact .inl (.inr h)
  · rintro ((h | h) | h)
    · exact .inl (.inl h)
    · exact .inr h
    · exact .inl (.inr h)
theorem mem_takeWhile_p {α : Type} {p : α → Bool} {a : α} : ∀ {l : List α}, a ∈ l.takeWhile p → p a = true
  | b :: l, h => by
    rw [List.takeWhile_cons] at h
    split at h
    · rcases List.mem_cons.mp h with rfl | h
      · assumption
      · exact mem_takeWhile_p h
    · cases h
theorem dropWhile_lt {k : List Rat} : ∀ {K : List (List Rat)}, K.Pairwise (fun a b => lexR a b = true) → k ∉ K → ∀ j ∈ K.dropWhile (fun j => lexR j k), lexR k j = true
  | a :: K, hs, hn, j, hj => by
    rw [List.dropWhile_cons] at hj
    obtain ⟨h1, h2⟩ := List.pairwise_cons.mp hs
    split at hj
    · exact dropWhile_lt h2 (fun z => hn (.tail _ z)) j hj
    · rename_i e
      have : lexR k a = true := (lexR_total k a (fun z => hn (by rw [z]; exact .head _))).resolve_right e
      rcases List.mem_cons.mp hj with rfl | hj
      · exact this
      · exact lexR_trans _ _ _ this (h1 j hj)
theorem insK_srt {K : List (List Rat)} {k : List Rat} (hs : K.Pairwise fun a b => lexR a b = true) (hn : k ∉ K) : (insK K k).Pairwise fun a b => lexR a b = true := by
  unfold insK
  have h := hs
  rw [← List.takeWhile_append_dropWhile (p := fun j => lexR j k) (l := K), List.pairwise_append] at h
  have hd := dropWhile_lt hs hn
  rw [List.append_assoc, List.pairwise_append]
  refine ⟨h.1, ?_, ?_⟩
  · rw [List.singleton_append, List.pairwise_cons]
    exact ⟨hd, h.2.1⟩
  · intro a ha b hb
    rcases List.mem_append.mp hb with hb | hb
    · rw [List.mem_singleton.mp hb]; exact mem_takeWhile_p (p := fun j => lexR j k) ha
    · exact h.2.2 a ha b hb
theorem takeWhile_take {α : Type} (p : α → Bool) : ∀ l : List α, l.take (l.takeWhile p).length = l.takeWhile p
  | [] => rfl
  | a :: l => by
    rw [List.takeWhile_cons]
    split
    · simp only [List.length_cons, List.take_succ_cons, takeWhile_take p l]
    · rfl
theorem takeWhile_drop {α : Type} (p : α → Bool) : ∀ l : List α, l.drop (l.takeWhile p).length = l.dropWhile p
  | [] => rfl
  | a :: l => by
    rw [List.takeWhile_cons, List.dropWhile_cons]
    split
    · simp only [List.length_cons, List.drop_succ_cons, takeWhile_drop p l]
    · rfl
theorem takeWhile_at {α : Type} {p : α → Bool} : ∀ {l : List α} {a : α}, l[(l.takeWhile p).length]? = some a → p a = false
  | b :: l, a, h => by
    rw [List.takeWhile_cons] at h
    split at h
    · rw [List.length_cons, List.getElem?_cons_succ] at h
      exact takeWhile_at h
    · rename_i e
      simp only [List.length_nil, List.getElem?_cons_zero, Option.some.injEq] at h
      subst h; simpa using e
theorem takeWhile_lt {α : Type} {p : α → Bool} : ∀ {l : List α} {a : α} {i : Nat}, i < (l.takeWhile p).length → l[i]? = some a → p a = true
  | b :: l, a, i, hi, h => by
    rw [List.takeWhile_cons] at hi
    split at hi
    · cases i with
      | zero => simp only [List.getElem?_cons_zero, Option.some.injEq] at h; subst h; assumption
      | succ i => exact takeWhile_lt (by simpa using hi) (by simpa using h)
    · cases hi
theorem takeWhile_le {α : Type} (p : α → Bool) : ∀ l : List α, (l.takeWhile p).length ≤ l.length
  | [] => by simp
  | a :: l => by
    rw [List.takeWhile_cons]
    split
    · have := takeWhile_le p l; simp only [List.length_cons]; omega
    · simp
theorem insK_map (K : List (List Rat)) (k : List Rat) : (K.map encK).take ((K.takeWhile fun j => lexR j k).length : Int).toNat ++ [encK k] ++ (K.map encK).drop ((K.takeWhile fun j => lexR j k).length : Int).toNat = (insK K k).map encK := by
  unfold insK
  rw [Int.toNat_natCast, ← List.map_take, ← List.map_drop, takeWhile_take, takeWhile_drop]
  simp
theorem insK_len (K : List (List Rat)) (k : List Rat) : (insK K k).length = K.length + 1 := by
  have := congrArg List.length (List.takeWhile_append_dropWhile (p := fun j => lexR j k) (l := K))
  unfold insK
  simp only [List.length_append, List.length_cons, List.length_nil] at this ⊢
  omega
/-- the rows that stay -/
def keepR (rows : List Row) (k : List Rat) : Bool := !decide (sumW rows k = 0) && k.any fun q => decide (0 < q.num)
theorem plain_of_keys {rows : List Row} {K : List (List Rat)} (hs : K.Pairwise fun a b => lexR a b = true) (hm : ∀ k, k ∈ K ↔ ∃ r ∈ rows, r.2 = k) :
    IsPlain rows ((K.filter (keepR rows)).map fun k => (sumW rows k, k)) := by
  refine ⟨?_, fun w k => ?_⟩
  · rw [List.pairwise_map]
    exact hs.filter _
  · simp only [List.mem_map, List.mem_filter, Prod.mk.injEq, keepR, Bool.and_eq_true, Bool.not_eq_true', decide_eq_false_iff_not, List.any_eq_true, decide_eq_true_eq]
    constructor
    · rintro ⟨k', ⟨h0, h1, q, hq, h2⟩, rfl, rfl⟩
      exact ⟨(hm _).mp h0, rfl, h1, q, hq, num_pos.mp h2⟩
    · rintro ⟨hr, rfl, h1, q, hq, h2⟩
      exact ⟨k, ⟨(hm k).mpr hr, h1, q, hq, num_pos.mpr h2⟩, rfl, rfl⟩
theorem nodup_len {α : Type} [DecidableEq α] : ∀ {l m : List α}, l.Nodup → l ⊆ m → l.length ≤ m.length
  | [], m, _, _ => Nat.zero_le _
  | a :: l, m, hn, hs => by
    obtain ⟨h1, h2⟩ := List.nodup_cons.mp hn
    have ha : a ∈ m := hs (.head _)
    have := nodup_len (m := m.erase a) h2 fun b hb => by
      have ne : b ≠ a := fun z => h1 (by rw [← z]; exact hb)
      exact (List.mem_erase_of_ne ne).mpr (hs (.tail _ hb))
    rw [List.length_erase_of_mem ha] at this
    have := List.length_pos_of_mem ha
    simp only [List.length_cons]; omega
theorem IsPlain.len {rows L : List Row} (h : IsPlain rows L) : L.length ≤ rows.length := by
  have h1 : (L.map (·.2)).Nodup := by
    rw [List.Nodup, List.pairwise_map]
    exact h.srt.imp fun {a b} e z => by rw [z, lexR_irrefl] at e; cases e
  have h2 : L.map (·.2) ⊆ rows.map (·.2) := fun k hk => by
    obtain ⟨⟨w, j⟩, hr, rfl⟩ := List.mem_map.mp hk
    obtain ⟨r, hr, e⟩ := ((h.mem w j).mp hr).1
    exact List.mem_map.mpr ⟨r, hr, e⟩
  have := nodup_len h1 h2
  simpa using this
/-! bounds of what is told -/
theorem sum_bd {b : Nat} : ∀ (l : List Int), (∀ i ∈ l, Bd b i) → Bd (b + l.length) l.sum
  | [], _ => by unfold Bd; simp; exact Nat.pow_pos (by decide)
  | i :: l, h => by
    have h1 := h i (.head _)
    have h2 := sum_bd l fun j hj => h j (.tail _ hj)
    rw [List.sum_cons, List.length_cons]
    exact ((h1.mono (by omega) : Bd (b + l.length) i).add h2).mono (by omega)
theorem sumW_bd {b : Nat} {rows : List Row} (h : ∀ r ∈ rows, Bd b r.1) (k : List Rat) : Bd (b + rows.length) (sumW rows k) := by
  unfold sumW
  refine (sum_bd (b := b) _ fun i hi => ?_).mono ?_
  · obtain ⟨r, hr, rfl⟩ := List.mem_map.mp hi
    exact h r (List.mem_filter.mp hr).1
  · have := List.length_filter_le (fun r : Row => decide (r.2 = k)) rows
    rw [List.length_map]; omega
theorem IsPlain.shows {rows L : List Row} {b : Nat} (h : IsPlain rows L) (hl : rows.length ≤ 100) (hb : b ≤ 800) (hk : ∀ r ∈ rows, r.2.length ≤ 10) (hw : ∀ r ∈ rows, Bd b r.1) (hq : ∀ r ∈ rows, ∀ q ∈ r.2, Bq 900 q) : Shows L := by
  refine ⟨Nat.le_trans h.len hl, fun r hr => ?_, fun r hr => ?_, fun r hr q hq' => ?_⟩
  · obtain ⟨⟨r', h1, h2⟩, _⟩ := (h.mem r.1 r.2).mp hr
    rw [← h2]; exact hk r' h1
  · obtain ⟨_, h2, _⟩ := (h.mem r.1 r.2).mp hr
    rw [h2]; exact (sumW_bd hw _).mono (by omega)
  · obtain ⟨⟨r', h1, h2⟩, _⟩ := (h.mem r.1 r.2).mp hr
    exact hq r' h1 q (by rw [h2]; exact hq')
theorem sum_perm {l m : List Int} (h : l.Perm m) : l.sum = m.sum := by
  induction h with
  | nil => rfl
  | cons a _ ih => simp only [List.sum_cons, ih]
  | swap a b l => simp only [List.sum_cons]; omega
  | trans _ _ h1 h2 => exact h1.trans h2
theorem sumW_perm {rows rows' : List Row} (h : rows.Perm rows') (k : List Rat) : sumW rows k = sumW rows' k := by
  unfold sumW
  exact sum_perm ((h.filter _).map _)
theorem sumW_app (rows rows' : List Row) (k : List Rat) : sumW (rows ++ rows') k = sumW rows k + sumW rows' k := by
  unfold sumW
  rw [List.filter_append, List.map_append, List.sum_append]
/-! lists of the store -/
theorem q_lsN {S S1 : Sto} {xs : List D} {q : List D → Prop} (hs : S1 = S ++ [.lst xs]) (h : q xs) : wO (lsOf S1 (.loc S.length)) q := by
  subst hs
  refine wO_some ?_ h
  unfold lsOf der
  simp only [app_get]
theorem rep_one {α : Type} (x : α) : ∀ n : Nat, (List.replicate n [x]).flatten = List.replicate n x
  | 0 => rfl
  | n + 1 => by rw [List.replicate_succ, List.flatten_cons, rep_one x n]; rfl
theorem o_mulT1 {S : Sto} {x : D} {k : Nat} {q : D → Prop} (h2 : k ≤ 1000) (h : q (.tup (List.replicate k x))) : wO (binD S .Mult (.tup [x]) (.int k)) q := by
  refine wO_some ?_ h
  show (if decide (0 < [x].length) && decide ([x].length ≤ 1000) && decide (-1000 ≤ (k : Int)) && decide ((k : Int) ≤ 1000) then some (D.tup (List.replicate (k : Int).toNat [x]).flatten) else none) = _
  have e : (decide (0 < [x].length) && decide ([x].length ≤ 1000) && decide (-1000 ≤ (k : Int)) && decide ((k : Int) ≤ 1000)) = true := by
    simp only [List.length_cons, List.length_nil, Bool.and_eq_true, decide_eq_true_eq]; omega
  rw [e, if_pos rfl, Int.toNat_natCast, rep_one]
theorem Pq.pure {q : Rat} {x : D} (h : Pq q x) : pureD x = true := by cases h <;> rfl
end Mi
end
section
set_option autoImplicit false
set_option maxRecDepth 100000
namespace Pr
open PySem Mi
def b_BadNumber____init__ : List MS := []
def b_BadRow____init__ : List MS := []
def b_Unlike____init__ : List MS := []
/-- value -/
def b_is_whole : List MS := [.ret (.and [(.blt .isinst [(.var 0), (.cst (.ty "int"))]), (.not (.v (.blt .isinst [(.var 0), (.cst (.ty "bool"))])))])]
/-- value -/
def b_is_ratio : List MS := [.iff (.v (.call 3 [(.var 0)])) [.ret (.cst (.bl true))] [], .iff (.or [(.not (.v (.blt .isinst [(.var 0), (.tup [(.cst (.ty "tuple")), (.cst (.ty "list"))])]))), (.v (.cmp .NotEq (.blt .len [(.var 0)]) (.cst (.int 2))))]) [.ret (.cst (.bl false))] [], .ret (.and [(.call 3 [(.idx (.var 0) (.cst (.int 0)))]), (.call 3 [(.idx (.var 0) (.cst (.int 1)))]), (.cmp .Gt (.idx (.var 0) (.cst (.int 1))) (.cst (.int 0)))])]
/-- one other -/
def b_divisor : List MS := [.whl (.v (.cmp .NotEq (.var 1) (.cst (.int 0)))) [.asg (.tp [(.nm 0), (.nm 1)]) (.tup [(.var 1), (.bin .Mod (.var 0) (.var 1))])], .ret (.blt .abs [(.var 0)])]
/-- top bottom by -/
def b_lowest : List MS := [.asg (.nm 2) (.call 5 [(.var 0), (.var 1)]), .ret (.tup [(.bin .FloorDiv (.var 0) (.var 2)), (.bin .FloorDiv (.var 1) (.var 2))])]
/-- value what -/
def b_told : List MS := [.iff (.not (.v (.call 4 [(.var 0)]))) [.rse 1 [(.var 1), (.var 0)]] [], .ret (.ite (.v (.call 3 [(.var 0)])) (.tup [(.var 0), (.cst (.int 1))]) (.call 6 [(.idx (.var 0) (.cst (.int 0))), (.idx (.var 0) (.cst (.int 1)))]))]
/-- ratios found top bottom -/
def b_bottom_of : List MS := [.asg (.nm 1) (.cst (.int 1)), .for (.tp [(.nm 2), (.nm 3)]) (.seq (.var 0)) [.asg (.nm 1) (.bin .Mult (.bin .FloorDiv (.var 1) (.call 5 [(.var 1), (.var 3)])) (.var 3))], .ret (.var 1)]
/-- kinds -/
def b_need_kinds : List MS := [.iff (.or [(.not (.v (.call 3 [(.var 0)]))), (.not (.v (.chn .LtE .LtE (.cst (.int 1)) (.var 0) (.glb 10))))]) [.rse 1 [(.cst (.str "kinds")), (.var 0)]] []]
/-- value kinds number -/
def b_is_price_row : List MS := [.iff (.or [(.not (.v (.blt .isinst [(.var 0), (.tup [(.cst (.ty "tuple")), (.cst (.ty "list"))])]))), (.v (.cmp .NotEq (.blt .len [(.var 0)]) (.var 1))), (.not (.v (.blt .all [(.lc (.call 4 [(.var 2)]) (.nm 2) (.seq (.var 0)) none [2])])))]) [.ret (.cst (.bl false))] [], .ret (.blt .all [(.lc (.cmp .GtE (.idx (.call 7 [(.var 2), (.cst (.str "number"))]) (.cst (.int 0))) (.cst (.int 0))) (.nm 2) (.seq (.var 0)) none [2])])]
/-- value kinds -/
def b_is_bid : List MS := [.iff (.or [(.not (.v (.blt .isinst [(.var 0), (.tup [(.cst (.ty "tuple")), (.cst (.ty "list"))])]))), (.v (.cmp .NotEq (.blt .len [(.var 0)]) (.cst (.int 2))))]) [.ret (.cst (.bl false))] [], .ret (.and [(.call 3 [(.idx (.var 0) (.cst (.int 0)))]), (.call 10 [(.idx (.var 0) (.cst (.int 1))), (.var 1)])])]
/-- rows found weight numbers key number by kept order top bottom whole -/
def b_plain_rows : List MS := [.asg (.nm 1) .dnw, .for (.tp [(.nm 2), (.nm 3)]) (.seq (.var 0)) [.asg (.nm 4) (.blt .tuple [(.lc (.call 7 [(.var 5), (.cst (.str "number"))]) (.nm 5) (.seq (.var 3)) none [5])]), .setI (.var 1) (.var 4) (.bin .Add (.bmt .get (.var 1) [(.var 4), (.cst (.int 0))]) (.var 2))], .asg (.nm 6) (.call 8 [(.thw 1 (.lc2 (.var 5) (.nm 4) (.dky 1) none (.nm 5) (.seq (.var 4)) none [4, 5] [5]))]), .asg (.nm 7) (.thw 1 (.lc (.var 4) (.nm 4) (.dky 1) (some (.and [(.v (.cmp .NotEq (.idx (.var 1) (.var 4)) (.cst (.int 0)))), (.v (.blt .any [(.lc (.cmp .Gt (.idx (.var 5) (.cst (.int 0))) (.cst (.int 0))) (.nm 5) (.seq (.var 4)) none [5])]))])) [4])), .asg (.nm 8) (.blt .sorted [(.lc (.tup [(.blt .tuple [(.lc (.bin .Mult (.var 9) (.bin .FloorDiv (.var 6) (.var 10))) (.tp [(.nm 9), (.nm 10)]) (.seq (.var 4)) none [9, 10])]), (.var 4)]) (.nm 4) (.seq (.var 7)) none [4])]), .ret (.blt .tuple [(.lc (.tup [(.idx (.var 1) (.var 4)), (.var 4)]) (.tp [(.nm 11), (.nm 4)]) (.seq (.var 8)) none [11, 4])])]
/-- self kinds rows row -/
def b_Bids____init__ : List MS := [.exp (.call 9 [(.var 1)]), .for (.nm 3) (.seq (.var 2)) [.iff (.not (.v (.call 11 [(.var 3), (.var 1)]))) [.rse 2 [(.var 3)]] []], .setA (.var 0) 0 (.var 1), .setA (.var 0) 1 (.call 12 [(.var 2)])]
/-- self other -/
def b_Bids____eq__ : List MS := [.ret (.and [(.isc [(.var 1), (.glb 15)]), (.cmp .Eq (.att (.var 0) 0) (.att (.var 1) 0)), (.cmp .Eq (.att (.var 0) 1) (.att (.var 1) 1))])]
/-- self other -/
def b_Bids____add__ : List MS := [.iff (.v (.cmp .NotEq (.att (.var 0) 0) (.att (.var 1) 0))) [.rse 3 [(.cst (.str "kinds"))]] [], .ret (.mk true 4 [(.att (.var 0) 0), (.bin .Add (.att (.var 0) 1) (.att (.var 1) 1))])]
/-- self weight numbers -/
def b_Bids____neg__ : List MS := [.ret (.mk true 4 [(.att (.var 0) 0), (.lc (.tup [(.neg (.var 1)), (.var 2)]) (.tp [(.nm 1), (.nm 2)]) (.seq (.att (.var 0) 1)) none [1, 2])])]
/-- self number weight numbers -/
def b_Bids____mul__ : List MS := [.ret (.mk true 4 [(.att (.var 0) 0), (.lc (.tup [(.bin .Mult (.var 1) (.var 2)), (.var 3)]) (.tp [(.nm 2), (.nm 3)]) (.seq (.att (.var 0) 1)) none [2, 3])])]
/-- self number weight numbers -/
def b_Bids____rmul__ : List MS := [.ret (.mk true 4 [(.att (.var 0) 0), (.lc (.tup [(.bin .Mult (.var 1) (.var 2)), (.var 3)]) (.tp [(.nm 2), (.nm 3)]) (.seq (.att (.var 0) 1)) none [2, 3])])]
/-- _law_script _law_fold _law_cell -/
def b__law_pen : List MS := [.asg (.nm 1) (.cst (.int 0)), .for (.nm 2) (.seq (.var 0)) [.asg (.nm 1) (.bin .Mod (.blt .int [(.bin .Add (.bin .Mult (.var 1) (.cst (.int 43))) (.var 2))]) (.cst (.int 1000000007)))], .ret (.alc (.dct [.inr "cells", .inr "at", .inr "digits", .inr "count", .inr "fold"] [(.blt .list [(.var 0)]), (.cst (.int 0)), (.cst (.int 0)), (.cst (.int 0)), (.var 1)]))]
/-- _law_pen_here _law_many _law_cell _law_digit _law_mixed -/
def b__law_draw : List MS := [.setI (.var 0) (.cst (.str "count")) (.bin .Add (.idx (.var 0) (.cst (.str "count"))) (.cst (.int 1))), .iff (.and [(.v (.cmp .Eq (.idx (.var 0) (.cst (.str "digits"))) (.cst (.int 0)))), (.v (.cmp .Lt (.idx (.var 0) (.cst (.str "at"))) (.blt .len [(.idx (.var 0) (.cst (.str "cells")))])))]) [.asg (.nm 2) (.idx (.idx (.var 0) (.cst (.str "cells"))) (.idx (.var 0) (.cst (.str "at")))), .setI (.var 0) (.cst (.str "at")) (.bin .Add (.idx (.var 0) (.cst (.str "at"))) (.cst (.int 1))), .iff (.v (.cmp .GtE (.var 2) (.bin .Pow (.cst (.int 10)) (.cst (.int 18))))) [.setI (.var 0) (.cst (.str "digits")) (.bin .Sub (.var 2) (.bin .Pow (.cst (.int 10)) (.cst (.int 18))))] [.setI (.var 0) (.cst (.str "fold")) (.bin .Mod (.blt .int [(.bin .Add (.bin .Mult (.idx (.var 0) (.cst (.str "fold"))) (.cst (.int 69069))) (.var 2))]) (.cst (.int 2147483587)))]] [], .iff (.v (.cmp .Gt (.idx (.var 0) (.cst (.str "digits"))) (.cst (.int 0)))) [.asg (.nm 3) (.bin .Mod (.blt .int [(.idx (.var 0) (.cst (.str "digits")))]) (.var 1)), .setI (.var 0) (.cst (.str "digits")) (.bin .FloorDiv (.idx (.var 0) (.cst (.str "digits"))) (.var 1)), .ret (.var 3)] [], .asg (.nm 4) (.bin .Add (.bin .Add (.idx (.var 0) (.cst (.str "fold"))) (.bin .Mult (.idx (.var 0) (.cst (.str "count"))) (.cst (.int 7907)))) (.cst (.int 41))), .ret (.bin .Mod (.bin .FloorDiv (.blt .int [(.bin .Mod (.bin .Pow (.var 4) (.cst (.int 17))) (.cst (.int 2305843009213693951)))]) (.cst (.int 128))) (.var 1))]
/-- _law_pen_here _law_some -/
def b__law_pick : List MS := [.ret (.idx (.var 1) (.call 20 [(.var 0), (.blt .len [(.var 1)])]))]
/-- _law_one _law_two _law_lap -/
def b__law_gcd : List MS := [.asg (.tp [(.nm 0), (.nm 1)]) (.tup [(.blt .abs [(.var 0)]), (.blt .abs [(.var 1)])]), .for (.nm 2) (.rg1 (.cst (.int 2000))) [.iff (.v (.cmp .Eq (.var 1) (.cst (.int 0)))) [.brk] [], .asg (.tp [(.nm 0), (.nm 1)]) (.tup [(.var 1), (.bin .Mod (.blt .int [(.var 0)]) (.var 1))])], .ret (.var 0)]
/-- _law_top _law_bottom _law_by -/
def b__law_q : List MS := [.asg (.nm 2) (.call 22 [(.var 0), (.var 1)]), .ret (.tup [(.bin .FloorDiv (.var 0) (.var 2)), (.bin .FloorDiv (.var 1) (.var 2))])]
/-- _law_one _law_two -/
def b__law_less : List MS := [.ret (.cmp .Lt (.bin .Mult (.idx (.var 0) (.cst (.int 0))) (.idx (.var 1) (.cst (.int 1)))) (.bin .Mult (.idx (.var 1) (.cst (.int 0))) (.idx (.var 0) (.cst (.int 1)))))]
/-- _law_pen_here _law_ratio _law_by -/
def b__law_passed : List MS := [.iff (.and [(.v (.cmp .Eq (.idx (.var 1) (.cst (.int 1))) (.cst (.int 1)))), (.v (.cmp .Eq (.call 20 [(.var 0), (.cst (.int 2))]) (.cst (.int 0))))]) [.ret (.idx (.var 1) (.cst (.int 0)))] [], .asg (.nm 2) (.call 21 [(.var 0), (.lst [(.cst (.int 1)), (.cst (.int 1)), (.cst (.int 2)), (.cst (.int 5))])]), .ret (.call 21 [(.var 0), (.lst [(.tup [(.bin .Mult (.idx (.var 1) (.cst (.int 0))) (.var 2)), (.bin .Mult (.idx (.var 1) (.cst (.int 1))) (.var 2))]), (.lst [(.bin .Mult (.idx (.var 1) (.cst (.int 0))) (.var 2)), (.bin .Mult (.idx (.var 1) (.cst (.int 1))) (.var 2))])])])]
/-- _law_pen_here _law_kinds _law_rows _law_some _law_lap _law_k -/
def b__law_given : List MS := [.asg (.tp [(.nm 2), (.nm 3)]) (.tup [(.alc (.lst [])), (.lst [(.tup [(.cst (.int 0)), (.cst (.int 1))]), (.tup [(.cst (.int 0)), (.cst (.int 1))]), (.call 23 [(.call 20 [(.var 0), (.cst (.int 60))]), (.bin .Add (.cst (.int 1)) (.call 20 [(.var 0), (.cst (.int 12))]))]), (.call 23 [(.call 20 [(.var 0), (.cst (.int 9))]), (.cst (.int 1))])])]), .asg (.nm 3) (.bin .Add (.var 3) (.lst [(.call 23 [(.bin .Add (.cst (.int 1)) (.call 20 [(.var 0), (.cst (.int 9999))])), (.cst (.int 1000))]), (.tup [(.call 20 [(.var 0), (.bin .Pow (.cst (.int 10)) (.cst (.int 6)))]), (.cst (.int 1))])])), .for (.nm 4) (.rg1 (.call 20 [(.var 0), (.cst (.int 12))])) [.exp (.bmt .append (.var 2) [(.tup [(.bin .Sub (.call 20 [(.var 0), (.cst (.int 9))]) (.cst (.int 4))), (.blt .tuple [(.lc (.call 21 [(.var 0), (.var 3)]) (.nm 5) (.rg1 (.var 1)) none [5])])])])], .ret (.var 2)]
/-- _law_rows _law_keys _law_found _law_weight _law_numbers _law_at _law_lap _law_key _law_one _law_top _law_bottom -/
def b__law_plain : List MS := [.asg (.tp [(.nm 1), (.nm 2)]) (.tup [(.lst []), (.alc (.lst []))]), .for (.tp [(.nm 3), (.nm 4)]) (.seq (.var 0)) [.iff (.v (.cmp .NotIn (.var 4) (.var 1))) [.asg (.nm 5) (.cst (.int 0)), .for (.nm 6) (.rg1 (.blt .len [(.var 1)])) [.iff (.and [(.v (.cmp .Lt (.var 5) (.blt .len [(.var 1)]))), (.v (.call 28 [(.idx (.var 1) (.var 5)), (.var 4)]))]) [.asg (.nm 5) (.bin .Add (.var 5) (.cst (.int 1)))] []], .asg (.nm 1) (.bin .Add (.bin .Add (.slc (.var 1) none (some (.var 5))) (.lst [(.var 4)])) (.slc (.var 1) (some (.var 5)) none))] []], .for (.nm 7) (.seq (.var 1)) [.asg (.nm 3) (.blt .sum [(.lc (.var 8) (.tp [(.nm 8), (.nm 4)]) (.seq (.var 0)) (some (.v (.cmp .Eq (.var 4) (.var 7)))) [8, 4])]), .iff (.and [(.v (.cmp .NotEq (.var 3) (.cst (.int 0)))), (.v (.cmp .NotEq (.lc (.cst (.int 1)) (.tp [(.nm 9), (.nm 10)]) (.seq (.var 7)) (some (.v (.cmp .Gt (.var 9) (.cst (.int 0))))) [9, 10]) (.lst [])))]) [.exp (.bmt .append (.var 2) [(.tup [(.var 3), (.var 7)])])] []], .ret (.blt .tuple [(.var 2)])]
/-- _law_one _law_other _law_first _law_second -/
def b__law_is_ahead : List MS := [.for (.tp [(.nm 2), (.nm 3)]) (.zip (.var 0) (.var 1)) [.iff (.v (.cmp .NotEq (.var 2) (.var 3))) [.ret (.call 24 [(.var 2), (.var 3)])] []], .ret (.cst (.bl false))]
/-- _law_script _law_pen_here _law_lap _law_kinds _law_rows _law_due _law_given_here _law_weight _law_numbers _law_passed_here _law_number _law_made _law_again -/
def b_law : List MS := [.asg (.nm 1) (.call 19 [(.var 0)]), .for (.nm 2) (.rg1 (.cst (.int 4))) [.asg (.nm 3) (.bin .Add (.cst (.int 1)) (.call 20 [(.var 1), (.cst (.int 3))])), .asg (.nm 4) (.call 26 [(.var 1), (.var 3)]), .asg (.tp [(.nm 5), (.nm 6)]) (.tup [(.call 27 [(.var 4)]), (.alc (.lst []))]), .for (.tp [(.nm 7), (.nm 8)]) (.seq (.var 4)) [.asg (.nm 9) (.lc (.call 25 [(.var 1), (.var 10)]) (.nm 10) (.seq (.var 8)) none [10]), .exp (.bmt .append (.var 6) [(.call 21 [(.var 1), (.lst [(.tup [(.var 7), (.blt .tuple [(.var 9)])]), (.lst [(.var 7), (.var 9)])])])])], .asg (.nm 11) (.mk true 4 [(.var 3), (.call 21 [(.var 1), (.lst [(.var 6), (.blt .tuple [(.var 6)])])])]), .iff (.v (.cmp .NotEq (.blt .repr [(.tup [(.att (.var 11) 0), (.att (.var 11) 1)])]) (.blt .repr [(.tup [(.var 3), (.var 5)])]))) [.ret (.cst (.bl false))] [], .asg (.nm 12) (.mk true 4 [(.var 3), (.bin .Add (.rev (.var 6)) (.lst [(.tup [(.cst (.int 0)), (.bin .Mult (.tup [(.cst (.int 3))]) (.var 3))]), (.tup [(.cst (.int 7)), (.bin .Mult (.tup [(.cst (.int 0))]) (.var 3))])]))]), .iff (.or [(.v (.cmp .NotEq (.blt .repr [(.att (.var 12) 1)]) (.blt .repr [(.var 5)]))), (.not (.v (.eqo 2 (.var 12) (.var 11))))]) [.ret (.cst (.bl false))] []], .ret (.cst (.bl true))]
abbrev f_BadNumber____init__ : Nat := 0
abbrev f_BadRow____init__ : Nat := 1
abbrev f_Unlike____init__ : Nat := 2
abbrev f_is_whole : Nat := 3
abbrev f_is_ratio : Nat := 4
abbrev f_divisor : Nat := 5
abbrev f_lowest : Nat := 6
abbrev f_told : Nat := 7
abbrev f_bottom_of : Nat := 8
abbrev f_need_kinds : Nat := 9
abbrev f_is_price_row : Nat := 10
abbrev f_is_bid : Nat := 11
abbrev f_plain_rows : Nat := 12
abbrev f_Bids____init__ : Nat := 13
abbrev f_Bids____eq__ : Nat := 14
abbrev f_Bids____add__ : Nat := 15
abbrev f_Bids____neg__ : Nat := 16
abbrev f_Bids____mul__ : Nat := 17
abbrev f_Bids____rmul__ : Nat := 18
abbrev f__law_pen : Nat := 19
abbrev f__law_draw : Nat := 20
abbrev f__law_pick : Nat := 21
abbrev f__law_gcd : Nat := 22
abbrev f__law_q : Nat := 23
abbrev f__law_less : Nat := 24
abbrev f__law_passed : Nat := 25
abbrev f__law_given : Nat := 26
abbrev f__law_plain : Nat := 27
abbrev f__law_is_ahead : Nat := 28
abbrev f_law : Nat := 29
abbrev i_BadNumber____init__ : FnI := ⟨0, 0, b_BadNumber____init__, false, false, false⟩
abbrev i_BadRow____init__ : FnI := ⟨0, 0, b_BadRow____init__, false, false, false⟩
abbrev i_Unlike____init__ : FnI := ⟨0, 0, b_Unlike____init__, false, false, false⟩
abbrev i_is_whole : FnI := ⟨1, 1, b_is_whole, false, true, false⟩
abbrev i_is_ratio : FnI := ⟨1, 1, b_is_ratio, false, true, false⟩
abbrev i_divisor : FnI := ⟨2, 2, b_divisor, false, true, false⟩
abbrev i_lowest : FnI := ⟨2, 3, b_lowest, false, true, false⟩
abbrev i_told : FnI := ⟨2, 2, b_told, false, true, false⟩
abbrev i_bottom_of : FnI := ⟨1, 4, b_bottom_of, false, true, false⟩
abbrev i_need_kinds : FnI := ⟨1, 1, b_need_kinds, false, true, false⟩
abbrev i_is_price_row : FnI := ⟨2, 3, b_is_price_row, false, true, false⟩
abbrev i_is_bid : FnI := ⟨2, 2, b_is_bid, false, true, false⟩
abbrev i_plain_rows : FnI := ⟨1, 12, b_plain_rows, false, true, false⟩
abbrev i_Bids____init__ : FnI := ⟨3, 4, b_Bids____init__, false, true, false⟩
abbrev i_Bids____eq__ : FnI := ⟨2, 2, b_Bids____eq__, false, true, false⟩
abbrev i_Bids____add__ : FnI := ⟨2, 2, b_Bids____add__, false, true, false⟩
abbrev i_Bids____neg__ : FnI := ⟨1, 3, b_Bids____neg__, false, true, false⟩
abbrev i_Bids____mul__ : FnI := ⟨2, 4, b_Bids____mul__, false, true, false⟩
abbrev i_Bids____rmul__ : FnI := ⟨2, 4, b_Bids____rmul__, false, true, false⟩
abbrev i__law_pen : FnI := ⟨1, 3, b__law_pen, true, true, false⟩
abbrev i__law_draw : FnI := ⟨2, 5, b__law_draw, false, true, false⟩
abbrev i__law_pick : FnI := ⟨2, 2, b__law_pick, false, true, false⟩
abbrev i__law_gcd : FnI := ⟨2, 3, b__law_gcd, false, true, false⟩
abbrev i__law_q : FnI := ⟨2, 3, b__law_q, false, true, false⟩
abbrev i__law_less : FnI := ⟨2, 2, b__law_less, false, true, false⟩
abbrev i__law_passed : FnI := ⟨2, 3, b__law_passed, false, true, false⟩
abbrev i__law_given : FnI := ⟨2, 6, b__law_given, false, true, false⟩
abbrev i__law_plain : FnI := ⟨1, 11, b__law_plain, false, true, false⟩
abbrev i__law_is_ahead : FnI := ⟨2, 4, b__law_is_ahead, false, true, false⟩
abbrev i_law : FnI := ⟨1, 13, b_law, false, true, false⟩
abbrev c_BidError : Nat := 0
abbrev c_BadNumber : Nat := 1
abbrev c_BadRow : Nat := 2
abbrev c_Unlike : Nat := 3
abbrev c_Bids : Nat := 4
def fns : List FnI := [⟨0, 0, b_BadNumber____init__, false, false, false⟩, ⟨0, 0, b_BadRow____init__, false, false, false⟩, ⟨0, 0, b_Unlike____init__, false, false, false⟩, ⟨1, 1, b_is_whole, false, true, false⟩, ⟨1, 1, b_is_ratio, false, true, false⟩, ⟨2, 2, b_divisor, false, true, false⟩, ⟨2, 3, b_lowest, false, true, false⟩, ⟨2, 2, b_told, false, true, false⟩, ⟨1, 4, b_bottom_of, false, true, false⟩, ⟨1, 1, b_need_kinds, false, true, false⟩, ⟨2, 3, b_is_price_row, false, true, false⟩, ⟨2, 2, b_is_bid, false, true, false⟩, ⟨1, 12, b_plain_rows, false, true, false⟩, ⟨3, 4, b_Bids____init__, false, true, false⟩, ⟨2, 2, b_Bids____eq__, false, true, false⟩, ⟨2, 2, b_Bids____add__, false, true, false⟩, ⟨1, 3, b_Bids____neg__, false, true, false⟩, ⟨2, 4, b_Bids____mul__, false, true, false⟩, ⟨2, 4, b_Bids____rmul__, false, true, false⟩, ⟨1, 3, b__law_pen, true, true, false⟩] ++ [⟨2, 5, b__law_draw, false, true, false⟩, ⟨2, 2, b__law_pick, false, true, false⟩, ⟨2, 3, b__law_gcd, false, true, false⟩, ⟨2, 3, b__law_q, false, true, false⟩, ⟨2, 2, b__law_less, false, true, false⟩, ⟨2, 3, b__law_passed, false, true, false⟩, ⟨2, 6, b__law_given, false, true, false⟩, ⟨1, 11, b__law_plain, false, true, false⟩, ⟨2, 4, b__law_is_ahead, false, true, false⟩, ⟨1, 13, b_law, false, true, false⟩]
def glb : List D := [(.cls 0), (.cls 1), (.cls 2), (.cls 3), (.fn 3), (.fn 4), (.fn 5), (.fn 6), (.fn 7), (.fn 8), (.int 3), (.fn 9), (.fn 10), (.fn 11), (.fn 12), (.cls 4), (.fn 19), (.fn 20), (.fn 21), (.fn 22), (.fn 23), (.fn 24), (.fn 25), (.fn 26), (.fn 27), (.fn 28), (.fn 29)]
def cls : List ClI := [⟨none, [], (some []), [], false, false⟩, ⟨none, [], (some [3, 4]), [], true, true⟩, ⟨none, [], (some [5]), [], true, true⟩, ⟨none, [], (some [3]), [], true, true⟩, ⟨(some 13), [(6, 13), (2, 14), (7, 15), (8, 16), (9, 17), (10, 18)], none, [0, 1], false, false⟩]
abbrev a_kinds : Nat := 0
abbrev a_rows : Nat := 1
abbrev a___eq__ : Nat := 2
abbrev a_what : Nat := 3
abbrev a_number : Nat := 4
abbrev a_row : Nat := 5
abbrev a___init__ : Nat := 6
abbrev a___add__ : Nat := 7
abbrev a___neg__ : Nat := 8
abbrev a___mul__ : Nat := 9
abbrev a___rmul__ : Nat := 10
def whys : List WhyI := []
def pg : Pg := ⟨fns, glb, cls, whys⟩
end Pr
end
section
set_option autoImplicit false
set_option maxRecDepth 100000
namespace Pr
open PySem Mi
local macro_rules | `(tactic| walk_at "k") => `(tactic| with_reducible first
  | refine e_cst ?_ | refine s_cons ?_ | refine s_nil ?_ | refine e_bin ?_ | refine e_idx ?_ | refine e_cmp ?_ | refine e_call ?_ | refine e_blt ?_
  | refine e_tup ?_ | refine e_lst ?_ | refine e_dct ?_ | refine e_and ?_ | refine e_and2 ?_ | refine e_and1 ?_ | refine e_or ?_ | refine e_or2 ?_ | refine e_or1 ?_
  | refine e_not ?_ | refine e_ite ?_ | refine e_neg ?_ | refine e_slc ?_ | refine e_att ?_ | refine e_mth ?_ | refine e_bmt ?_ | refine e_alcL ?_
  | refine wp_none ?_ | refine wp_some ?_
  | refine t_v ?_ | refine t_and ?_ | refine t_or ?_ | refine t_not ?_ | refine t_ite ?_ | refine ta_nil ?_ | refine ta_cons ?_ | refine to_nil ?_ | refine to_cons ?_
  | refine wi_seq ?_ | refine wi_rg1 ?_ | refine wi_rg2 ?_
  | refine b_cons ?_ | refine b_nil ?_ | refine s_asg ?_ | refine s_setI ?_ | refine s_setA ?_ | refine s_exp ?_ | refine s_ret ?_ | refine s_retN ?_ | refine s_iff ?_
  | refine s_pas ?_ | refine s_brk ?_ | refine s_cnt ?_ | refine s_for ?_
  | refine o_add ?_ | refine o_sub ?_ | refine o_lt ?_ | refine o_le ?_ | refine o_gt ?_ | refine o_ge ?_ | refine o_eq ?_ | refine o_ne ?_ | refine o_trub ?_
  | refine ab_nx ?_ | refine ab_rt ?_ | refine ab_bk ?_ | refine ab_ct ?_
  | refine m_tp ?_ | refine ms_cons ?_ | refine ms_nil ?_ | refine m_nm (by repeat first | exact SetR.z | apply SetR.s) ?_
  | refine o_int ?_ | refine o_abs ?_
  | refine lim_ok (by with_unfolding_all exact rfl) ?_ | refine e_var (by with_unfolding_all exact rfl) ?_
  | refine e_glb (by with_unfolding_all exact rfl) ?_)

local macro_rules | `(tactic| walk_at "k") => `(tactic| with_reducible first
  | refine g_cells ?_ | refine g_at ?_ | refine g_digits ?_ | refine g_count ?_ | refine g_fold ?_
  | refine p_at ?_ | refine p_digits ?_ | refine p_count ?_ | refine p_fold ?_)
local macro_rules | `(tactic| walk_at "k") => `(tactic| with_reducible first | refine o_lenL ?_ | refine o_lenT ?_ | refine o_idxL ?_ | refine o_idxT ?_)
local macro_rules | `(tactic| walk_at "k") => `(tactic| with_reducible first | refine at2_0 ?_ | refine at2_1 ?_ | refine n_int ?_ | refine o_isT ?_)
local macro_rules | `(tactic| walk_at "b") => `(tactic| with_reducible first
  | assumption | exact Bq.top (by assumption) | exact Bq.bot (by assumption)
  | (refine Bd.mul ?_ ?_; · walk_at "b"; · walk_at "b") | exact Bd.lit (k := 64) (by with_unfolding_all decide)
  | (refine Bd.add2 ?_ ?_; · walk_at "b"; · walk_at "b") | (refine Bd.sub2 ?_ ?_; · walk_at "b"; · walk_at "b") | (refine Bd.neg ?_; · walk_at "b")
  | (refine Bq.add ?_ ?_; · walk_at "b"; · walk_at "b") | (refine Bq.sub ?_ ?_; · walk_at "b"; · walk_at "b") | (refine Bq.mul ?_ ?_; · walk_at "b"; · walk_at "b") | (refine Bq.neg ?_; · walk_at "b"))
local macro_rules | `(tactic| walk_at "k") => `(tactic| with_reducible first
  | (refine o_mul ?_ ?_; · exact Bd.mulG (by walk_at "b") (by walk_at "b"))
  | refine tt_l ?_ | refine ff_l ?_ | refine tt_n ?_ | refine ff_n ?_
  | refine e_lc ?_ | refine wc_none ?_ | refine wc_some ?_)
local macro_rules | `(tactic| walk_at "w") => `(tactic| repeat walk_at "k")
local macro_rules | `(tactic| walk_at "k") => `(tactic| with_reducible first
  | (refine s_rse (ns := ?ns) ?hc ?h; case hc => with_unfolding_all exact rfl) | refine ab_ex ?_ | (refine f_sameX ?_ ?_; · with_unfolding_all exact rfl) | (refine f_same ?_ ?_; · with_unfolding_all exact rfl)
  | (refine and_rfl ?_ ?_; · with_unfolding_all exact rfl) | refine andF_ex ?_ | refine andF_rt ?_ | refine andF_nx ?_
  | (refine o_isTrue ?_ ?_; · with_unfolding_all exact rfl) | (refine o_isFalse ?_ ?_; · with_unfolding_all exact rfl))
local macro_rules | `(tactic| walk_at "k") => `(tactic| with_reducible first
  | (refine tt_c ?_ ?_; · with_unfolding_all exact rfl) | (refine ff_c ?_ ?_; · with_unfolding_all exact rfl))
local macro_rules | `(tactic| walk_at "k") => `(tactic| with_reducible first
  | (refine e_why (W := ?W) ?hw ?h; case hw => with_unfolding_all exact rfl)
  | (refine e_cal (f := ?f) ?e ?hf ?h; case e => with_unfolding_all exact rfl; case hf => with_unfolding_all decide)
  | (refine s_aug (x := ?x) ?hv ?h; case hv => with_unfolding_all exact rfl))
local macro_rules | `(tactic| walk_at "k") => `(tactic| with_reducible first
  | (refine o_addL (Nat.le_of_ble_eq_true ?_) ?_; · with_unfolding_all exact rfl) | (refine o_addT (Nat.le_of_ble_eq_true ?_) ?_; · with_unfolding_all exact rfl))
local macro_rules | `(tactic| walk_at "k") => `(tactic| with_reducible first
  | refine e_chn ?_ | refine e_rev ?_ | refine e_dnw ?_ | refine q_tup ?_ | refine q_lst ?_ | refine q_ls ?_ | refine o_tupL ?_ | refine o_tupT ?_ | refine o_lstL ?_ | refine o_lstT ?_ | refine wi_zip ?_ | refine wi_enm ?_
  | refine e_lc2 ?_)
local macro_rules | `(tactic| walk_at "k") => `(tactic| with_reducible first
  | (apply lcS_w2; focus (repeat first | exact WipR.nil | apply WipR.cons | exact SetR.z | apply SetR.s))
  | (apply lc2S_w2; focus (repeat first | exact WipR.nil | apply WipR.cons | exact SetR.z | apply SetR.s)))
local macro_rules | `(tactic| walk_at "k") => `(tactic| first
  | ((with_reducible refine rg_and ?_ ?_ ?_); (· first | omega | (simp only [List.length_map]; omega)); (· first | omega | (simp only [List.length_map]; omega))) | ((with_reducible refine rg_and2 ?_ ?_ ?_ ?_ ?_); (· first | omega | (simp only [List.length_map]; omega)); (· first | omega | (simp only [List.length_map]; omega)); (· first | omega | (simp only [List.length_map]; omega)); (· first | omega | (simp only [List.length_map]; omega))))
local macro_rules | `(tactic| walk_at "k") => `(tactic| with_reducible first
  | refine e_isc ?_ | (refine w_isc (b := true) ?_ ?_; · with_unfolding_all exact rfl) | (refine w_isc (b := false) ?_ ?_; · with_unfolding_all exact rfl))
local macro_rules | `(tactic| walk_at "k") => `(tactic| with_reducible first
  | (refine o_att (d := ?d) ?e1 ?e2 ?h; (case e1 => with_unfolding_all exact rfl); (case e2 => with_unfolding_all exact rfl)))
local macro_rules | `(tactic| walk_at "k") => `(tactic| with_reducible first
  | (refine e_cal (f := ?f) ?e ?hf ?h; (case e => with_unfolding_all exact rfl); (case hf => with_unfolding_all decide)))
/-! the pen's draws -/
section
variable {c n : Nat} {p : MO} {T S : Sto} {Q : D → Sto → Prop} {X : XP}
theorem s_pen {ns : List Int} (h : ∀ p, Pen 0 p → Q (.loc 0) [p]) : wX (Mi.run pg (n + 1) f__law_pen [.scr (ns.map .int)] []) Q X :=
  run_w i__law_pen rfl rfl rfl (pen_w h)
theorem s_draw {m : Int} (hp : Pen c p) (hc : c < 1000000000000) (hm : 0 < m) (hm2 : m < 2 ^ 64) (h : ∀ (r : Int) p', 0 ≤ r → r < m → Pen (c + 1) p' → Q (.int r) (p' :: T)) :
    wX (Mi.run pg (n + 1) f__law_draw [.loc 0, .int m] (p :: T)) Q X :=
  run_w i__law_draw rfl rfl rfl (draw_w hp hc hm hm2 fun r p' h0 h1 hp' => f_same rfl (h r p' h0 h1 hp'))
theorem s_pick {xs : List D} (hp : Pen c p) (hc : c < 1000000000000) (h0 : 0 < xs.length) (h1 : xs.length < 2 ^ 64) (h : ∀ x p', x ∈ xs → Pen (c + 1) p' → Q x (p' :: T)) :
    wX (Mi.run pg (n + 2) f__law_pick [.loc 0, .lst xs] (p :: T)) Q X := by
  refine run_w i__law_pick rfl rfl rfl ?_
  show wR (evB pg _ b__law_pick [some (.loc 0), some (.lst xs)] (p :: T)) _
  unfold b__law_pick
  walk_at "w"
  refine s_draw hp hc (by omega) (by omega) fun r p' k0 k1 hp' => ?_
  walk_at "w"
  refine at_ok k0 k1 fun j x hj _ => ?_
  walk_at "w"
  exact (h x p' (List.mem_of_getElem? hj) hp')
/-! the law's ratios -/
theorem s_gcd {a b : Int} (hb : Bd 900 b) (h : Q (.int (Int.gcd a b)) S) : wX (Mi.run pg (n + 1) f__law_gcd [.int a, .int b] S) Q X := by
  refine run_w i__law_gcd rfl rfl rfl ?_
  show wR (evB pg _ b__law_gcd [some (.int a), some (.int b), none] S) _
  unfold b__law_gcd
  walk_at "w"
  refine gcd_loop 900 _ _ _ _ _ (by simp [rngD]) (by omega) (by omega) (by unfold Bd at hb; omega) fun o => ?_
  refine ab_nx ?_
  walk_at "w"
  exact h
theorem s_q {t b : Int} (hb0 : 0 < b) (hb : Bd 900 b) (h : Q (dr ((t : Rat) / (b : Rat))) S) : wX (Mi.run pg (n + 2) f__law_q [.int t, .int b] S) Q X := by
  refine run_w i__law_q rfl rfl rfl ?_
  show wR (evB pg _ b__law_q [some (.int t), some (.int b), none] S) _
  unfold b__law_q
  have hg := gcd_pos (t := t) hb0
  have hG := (Bd.gcd (t := t) hb (by omega)).divG hg
  rw [← low_dr hb0] at h
  walk_at "w"
  refine s_gcd hb ?_
  walk_at "w"
  refine o_div hG ?_
  walk_at "w"
  refine o_div hG ?_
  walk_at "w"
  exact h
end
/-! the program's ratios -/
section
variable {c n : Nat} {p : MO} {T S : Sto} {Q : D → Sto → Prop} {X : XP}
theorem s_whole {i : Int} (h : Q (.bl true) S) : wX (Mi.run pg (n + 1) f_is_whole [.int i] S) Q X := by
  refine run_w i_is_whole rfl rfl rfl ?_
  show wR (evB pg _ b_is_whole [some (.int i)] S) _
  unfold b_is_whole
  walk_at "w"
  exact h
theorem s_wholeT {xs : List D} (h : Q (.bl false) S) : wX (Mi.run pg (n + 1) f_is_whole [.tup xs] S) Q X := by
  refine run_w i_is_whole rfl rfl rfl ?_
  show wR (evB pg _ b_is_whole [some (.tup xs)] S) _
  unfold b_is_whole
  walk_at "w"
  exact h
theorem s_wholeL {xs : List D} (h : Q (.bl false) S) : wX (Mi.run pg (n + 1) f_is_whole [.lst xs] S) Q X := by
  refine run_w i_is_whole rfl rfl rfl ?_
  show wR (evB pg _ b_is_whole [some (.lst xs)] S) _
  unfold b_is_whole
  walk_at "w"
  exact h
theorem s_isratio {q : Rat} {x : D} (hx : Pq q x) (h : Q (.bl true) S) : wX (Mi.run pg (n + 2) f_is_ratio [x] S) Q X := by
  refine run_w i_is_ratio rfl rfl rfl ?_
  show wR (evB pg _ b_is_ratio [some x] S) _
  unfold b_is_ratio
  rcases hx with ⟨e⟩ | ⟨hb, e, hk⟩ | ⟨hb, e, hk⟩
  · walk_at "w"
    refine s_whole ?_
    walk_at "w"
    exact h
  · walk_at "w"
    refine s_wholeT ?_
    walk_at "w"
    refine s_whole ?_
    walk_at "w"
    refine s_whole ?_
    walk_at "w"
    rw [decide_eq_true hb]
    exact h
  · walk_at "w"
    refine s_wholeL ?_
    walk_at "w"
    refine s_whole ?_
    walk_at "w"
    refine s_whole ?_
    walk_at "w"
    rw [decide_eq_true hb]
    exact h
end
section
variable {c n : Nat} {p : MO} {T S : Sto} {Q : D → Sto → Prop} {X : XP} {q r : Rat} {x y : D}
theorem s_divisor {a b : Int} (hb0 : 0 < b) (hb : Bd 900 b) (h : Q (.int (Int.gcd a b)) S) : wX (Mi.run pg (n + 1) f_divisor [.int a, .int b] S) Q X := by
  refine run_w i_divisor rfl rfl rfl ?_
  show wR (evB pg _ b_divisor [some (.int a), some (.int b)] S) _
  unfold b_divisor
  refine b_cons (s_whl (div_any a b _ hb0 (by unfold Bd at hb; omega) (ab_nx ?_)))
  walk_at "w"
  exact h
theorem s_lowest {t b : Int} (hb0 : 0 < b) (hb : Bd 900 b) (h : Q (dr ((t : Rat) / (b : Rat))) S) : wX (Mi.run pg (n + 2) f_lowest [.int t, .int b] S) Q X := by
  refine run_w i_lowest rfl rfl rfl ?_
  show wR (evB pg _ b_lowest [some (.int t), some (.int b), none] S) _
  unfold b_lowest
  rw [← low_dr hb0] at h
  have hg := gcd_pos (t := t) hb0
  have hG := (Bd.gcd (t := t) hb (by omega)).divG hg
  walk_at "w"
  refine s_divisor hb0 hb ?_
  walk_at "w"
  refine o_div hG ?_
  walk_at "w"
  refine o_div hG ?_
  walk_at "w"
  exact h
theorem s_told {w : D} (hx : Pq q x) (h : Q (dr q) S) : wX (Mi.run pg (n + 3) f_told [x, w] S) Q X := by
  refine run_w i_told rfl rfl rfl ?_
  show wR (evB pg _ b_told [some x, some w] S) _
  unfold b_told
  walk_at "w"
  refine s_isratio hx ?_
  walk_at "w"
  rcases hx with ⟨rfl⟩ | ⟨hb, rfl, hk⟩ | ⟨hb, rfl, hk⟩
  · refine s_whole ?_
    walk_at "w"
    exact h
  · refine s_wholeT ?_
    walk_at "w"
    refine s_lowest hb (hk.mono (by omega)) ?_
    exact f_same rfl h
  · refine s_wholeL ?_
    walk_at "w"
    refine s_lowest hb (hk.mono (by omega)) ?_
    exact f_same rfl h
end
/-! rows of bids -/
/-- numbers as a caller may pass them -/
inductive PqL : List Rat → List D → Prop
  | nil : PqL [] []
  | cons {q : Rat} {x : D} {qs : List Rat} {xs : List D} : Pq q x → PqL qs xs → PqL (q :: qs) (x :: xs)
theorem PqL.len {qs : List Rat} {xs : List D} (h : PqL qs xs) : qs.length = xs.length := by
  induction h with
  | nil => rfl
  | cons _ _ ih => simp [ih]
theorem PqL.get {qs : List Rat} {xs : List D} (h : PqL qs xs) {j : Nat} {x : D} (hx : xs[j]? = some x) : ∃ q, qs[j]? = some q ∧ Pq q x := by
  induction h generalizing j with
  | nil => simp at hx
  | cons h _ ih =>
    cases j with
    | zero => simp only [List.getElem?_cons_zero, Option.some.injEq] at hx; subst hx; exact ⟨_, rfl, h⟩
    | succ j => exact ih (by simpa using hx)
def RowP (r : Row) (x : D) : Prop := ∃ xs y, PqL r.2 xs ∧ TL xs y ∧ TL [.int r.1, y] x
inductive RowsP : List Row → List D → Prop
  | nil : RowsP [] []
  | cons {r : Row} {x : D} {rs : List Row} {xs : List D} : RowP r x → RowsP rs xs → RowsP (r :: rs) (x :: xs)
theorem RowsP.len {qs : List Row} {xs : List D} (h : RowsP qs xs) : qs.length = xs.length := by
  induction h with
  | nil => rfl
  | cons _ _ ih => simp [ih]
theorem RowsP.get {qs : List Row} {xs : List D} (h : RowsP qs xs) {j : Nat} {x : D} (hx : xs[j]? = some x) : ∃ q, qs[j]? = some q ∧ RowP q x := by
  induction h generalizing j with
  | nil => simp at hx
  | cons h _ ih =>
    cases j with
    | zero => simp only [List.getElem?_cons_zero, Option.some.injEq] at hx; subst hx; exact ⟨_, rfl, h⟩
    | succ j => exact ih (by simpa using hx)
section
variable {c n : Nat} {p : MO} {T S : Sto} {Q : D → Sto → Prop} {X : XP} {q : Rat} {x y : D} {qs : List Rat} {xs : List D}
theorem s_needkinds {k : Int} (h0 : 1 ≤ k) (h1 : k ≤ 3) (h : Q .non S) : wX (Mi.run pg (n + 2) f_need_kinds [.int k] S) Q X := by
  refine run_w i_need_kinds rfl rfl rfl ?_
  show wR (evB pg _ b_need_kinds [some (.int k)] S) _
  unfold b_need_kinds
  walk_at "w"
  refine s_whole ?_
  walk_at "w"
  refine dec_t h0 ?_
  walk_at "w"
  rw [decide_eq_true h1]
  walk_at "w"
  exact h
theorem all_true {α : Type} (l : List α) : (l.map fun _ => true).all id = true := by simp
theorem s_pricerow (hx : PqL qs xs) (hy : TL xs x) (hl : qs.length ≤ 1000) (h0 : ∀ q ∈ qs, 0 ≤ q) (h : Q (.bl true) S) : wX (Mi.run pg (n + 4) f_is_price_row [x, .int qs.length] S) Q X := by
  refine run_w i_is_price_row rfl rfl rfl ?_
  show wR (evB pg _ b_is_price_row [some x, some (.int qs.length), none] S) _
  unfold b_is_price_row
  have hlen := hx.len
  have c1 : ∀ g, guards g S = true → ∀ (X : XP) (Q : D → Sto → Prop), Q (.lst ((qs.map fun _ => true).map .bl)) S → wX (lcL g (lcS pg (Mi.run pg (n + 3)) (.call f_is_ratio [(.var 2)]) (.nm 2) none [2] [some x, some (.int qs.length), none]) xs [] S) Q X := by
    intro g hg X Q hq
    refine lcL_get hg xs _ (by simp [hlen]) (by simp; omega) (fun j z b hz hb => ?_) hq
    obtain ⟨q, e, hp⟩ := hx.get hz
    simp only [List.getElem?_map, e, Option.map_some, Option.some.injEq] at hb
    subst hb
    walk_at "w"
    refine s_isratio hp ?_
    exact ⟨rfl, rfl⟩
  have c2 : ∀ g, guards g S = true → ∀ (X : XP) (Q : D → Sto → Prop), Q (.lst ((qs.map fun _ => true).map .bl)) S → wX (lcL g (lcS pg (Mi.run pg (n + 3)) (.cmp .GtE (.idx (.call f_told [(.var 2), (.cst (.str "number"))]) (.cst (.int 0))) (.cst (.int 0))) (.nm 2) none [2] [some x, some (.int qs.length), none]) xs [] S) Q X := by
    intro g hg X Q hq
    refine lcL_get hg xs _ (by simp [hlen]) (by simp; omega) (fun j z b hz hb => ?_) hq
    obtain ⟨q, e, hp⟩ := hx.get hz
    simp only [List.getElem?_map, e, Option.map_some, Option.some.injEq] at hb
    subst hb
    walk_at "w"
    refine s_told hp ?_
    walk_at "w"
    have := Rat.num_nonneg.mpr (h0 q (List.mem_of_getElem? e))
    rw [decide_eq_true this]
    exact ⟨rfl, rfl⟩
  rcases hy with rfl | rfl <;>
  · walk_at "w"
    refine ff_c (b := !decide ((xs.length : Int) = (qs.length : Int))) (by rw [hlen, decide_eq_true rfl]; rfl) ?_
    walk_at "w"
    refine c1 [] rfl _ _ ?_
    walk_at "w"
    refine o_all ?_
    walk_at "w"
    refine ff_c (by simp) ?_
    walk_at "w"
    refine c2 [] rfl _ _ ?_
    walk_at "w"
    refine o_all ?_
    walk_at "w"
    rw [all_true]
    exact h
theorem s_isbid {r : Row} {k : Int} (hx : RowP r x) (hk : k = r.2.length) (hl : r.2.length ≤ 1000) (h0 : ∀ q ∈ r.2, 0 ≤ q) (h : Q (.bl true) S) : wX (Mi.run pg (n + 5) f_is_bid [x, .int k] S) Q X := by
  subst hk
  refine run_w i_is_bid rfl rfl rfl ?_
  show wR (evB pg _ b_is_bid [some x, some (.int r.2.length)] S) _
  unfold b_is_bid
  obtain ⟨xs, y, hp, hy, hx⟩ := hx
  rcases hx with rfl | rfl <;>
  · walk_at "w"
    refine s_whole ?_
    walk_at "w"
    refine s_pricerow hp hy hl h0 ?_
    walk_at "w"
    exact h
theorem dvd_lcm {a b g : Int} (hg : g = (Int.gcd a b : Int)) (hb : 0 < b) : a ∣ a / g * b ∧ b ∣ a / g * b := by
  have h1 : g ∣ a := by rw [hg]; exact Int.gcd_dvd_left ..
  have h2 : g ∣ b := by rw [hg]; exact Int.gcd_dvd_right ..
  refine ⟨?_, Int.dvd_mul_left ..⟩
  obtain ⟨c, hc⟩ := h2
  have : a / g * b = a * c := by
    rw [hc, ← Int.mul_assoc, Int.ediv_mul_cancel h1]
  rw [this]
  exact Int.dvd_mul_right ..
theorem lcm_pos {a b g : Int} (hg : g = (Int.gcd a b : Int)) (ha : 0 < a) (hb : 0 < b) : 0 < a / g * b := by
  have h0 : 0 < g := by rw [hg]; exact Int.ofNat_lt.mpr (Int.gcd_pos_of_ne_zero_right a (by omega))
  have h1 : g ∣ a := by rw [hg]; exact Int.gcd_dvd_left ..
  exact Int.mul_pos (Int.ediv_pos_of_pos_of_dvd ha (by omega) h1) hb
theorem s_bottom {L : List Rat} (hL : L.length ≤ 1000) (hB : ∀ q ∈ L, Bq 64 q) (h : ∀ m, 0 < m → (∀ q ∈ L, (q.den : Int) ∣ m) → Bd (64 * L.length + 1) m → Q (.int m) S) :
    wX (Mi.run pg (n + 2) f_bottom_of [.lst (L.map dr)] S) Q X := by
  refine run_w i_bottom_of rfl rfl rfl ?_
  show wR (evB pg _ b_bottom_of [some (.lst (L.map dr)), none, none, none] S) _
  unfold b_bottom_of
  walk_at "w"
  refine forL_thru (fun j v S' => j ≤ L.length ∧ ∃ m o2 o3, v = [some (.lst (L.map dr)), some (.int m), o2, o3] ∧ S' = S ∧ 0 < m ∧ (∀ q ∈ L.take j, (q.den : Int) ∣ m) ∧ Bd (64 * j + 1) m) _ 0 _ _
    ⟨by omega, 1, none, none, rfl, rfl, by omega, by simp, by unfold Bd; simp⟩ (fun _ _ _ _ => rfl) ?_ ?_
  · rintro j x v S' hx ⟨hj, m, o2, o3, rfl, rfl, hm, hd, hb⟩
    rw [Nat.zero_add] at hj hd hb
    simp only [List.getElem?_map] at hx
    obtain ⟨q, hq, rfl⟩ := Option.map_eq_some_iff.mp hx
    have hjl : j < L.length := (List.getElem?_eq_some_iff.mp hq).1
    have hBq := hB q (List.mem_of_getElem? hq)
    have hq0 := den_pos q
    have hdv := hBq.bot
    refine step_w ?_
    walk_at "w"
    refine s_divisor hq0 (hdv.mono (by omega)) ?_
    have hg := gcd_pos (t := m) hq0
    have hG := (Bd.gcd (t := m) (hdv.mono (by omega) : Bd 900 _) (by omega)).divG hg
    walk_at "w"
    refine o_div hG ?_
    walk_at "w"
    have hb2 : Bd (64 * j + 1) (m / (Int.gcd m q.den : Int)) := Bd.div _ hb
    refine o_mul (Bd.mulG hb2 hdv) ?_
    walk_at "w"
    refine ⟨by omega, _, _, _, rfl, rfl, lcm_pos rfl hm hq0, ?_, ?_⟩
    · rw [Nat.zero_add, List.take_succ, hq]
      intro q' hq'
      simp only [List.mem_append, Option.toList_some, List.mem_singleton] at hq'
      rcases hq' with hq' | rfl
      · exact Int.dvd_trans (hd q' hq') (dvd_lcm rfl hq0).1
      · exact (dvd_lcm rfl hq0).2
    · rw [Nat.zero_add]; exact (hb2.mul hdv).mono (by omega)
  · rintro v S' ⟨_, m, o2, o3, rfl, rfl, hm, hd, hb⟩
    rw [Nat.zero_add, List.length_map] at hd hb
    refine ab_nx ?_
    walk_at "w"
    exact h m hm (by rwa [List.take_length] at hd) hb
theorem s_plainrows {rows : List Row} {k : Nat} (hx : RowsP rows xs) (hy : TS S xs x) (hr : rows.length ≤ 100) (hk : ∀ r ∈ rows, r.2.length = k) (hk2 : k ≤ 10) (hB : ∀ r ∈ rows, ∀ q ∈ r.2, Bq 64 q) (h : ∀ L, IsPlain rows L → Q (.tup (L.map encR)) S) :
    wX (Mi.run pg (n + 4) f_plain_rows [x] S) Q X := by
  refine run_w i_plain_rows rfl rfl rfl ?_
  show wR (evB pg _ b_plain_rows [some x, none, none, none, none, none, none, none, none, none, none, none] S) _
  unfold b_plain_rows
  walk_at "w"
  refine q_TS (hy.app _) ?_
  refine forL_thru (fun j v S' => j ≤ rows.length ∧ ∃ L o2 o3 o4 o5, v = [some x, some (.loc S.length), o2, o3, o4, o5, none, none, none, none, none, none] ∧ S' = S ++ [.dn false (L.map encE)] ∧ Acc (rows.take j) L ∧ L.length ≤ j) _ 0 _ _
    ⟨by omega, [], none, none, none, none, rfl, rfl, Acc.nil, by simp⟩ (fun _ _ _ h => by obtain ⟨_, L, _, _, _, _, _, rfl, _⟩ := h; exact (hy.app _).guard (hy.app _)) ?_ ?_
  · rintro j z v S' hz ⟨hj, L, o2, o3, o4, o5, rfl, rfl, ha, hl⟩
    rw [Nat.zero_add] at hj ha hl
    obtain ⟨r, hr1, ys, y, hp, hy2, hz2⟩ := hx.get hz
    have hrm := List.mem_of_getElem? hr1
    have hjl : j < rows.length := (List.getElem?_eq_some_iff.mp hr1).1
    refine step_w ?_
    refine m_TL hz2 ?_
    walk_at "w"
    refine q_TL hy2 ?_
    rw [g_TL hy2]
    refine lcL_get rfl ys (r.2.map dr) (by rw [List.length_map]; exact hp.len) (by rw [List.length_map, hk r hrm]; omega) (fun i u w hu hw => ?_) ?_
    · obtain ⟨q, e, hq⟩ := hp.get hu
      simp only [List.getElem?_map, e, Option.map_some, Option.some.injEq] at hw
      subst hw
      walk_at "w"
      refine s_told hq ?_
      exact ⟨rfl, rfl⟩
    walk_at "w"
    refine ki_N rfl ?_
    refine ⟨rfl, ?_⟩
    walk_at "w"
    refine o_getN rfl ?_
    walk_at "w"
    refine o_setN rfl (Nat.lt_of_lt_of_le (show L.length < 1000 by omega) (by decide)) ?_
    walk_at "w"
    rw [Nat.zero_add]
    refine ⟨by omega, _, _, _, _, _, rfl, rfl, ?_, ?_⟩
    · rw [List.take_succ, hr1]
      exact ha.snoc r
    · have := addK_len r.2 ((getK r.2 L).getD 0 + r.1) L
      omega
  · rintro v S' ⟨_, L, o2, o3, o4, o5, rfl, rfl, ha, hl⟩
    rw [Nat.zero_add, ← hx.len] at ha hl
    rw [List.take_length] at ha
    refine ab_nx ?_
    have hLr : ∀ k' ∈ L.map (·.1), ∃ r ∈ rows, r.2 = k' := fun k' hk' => by
      obtain ⟨e, he, rfl⟩ := List.mem_map.mp hk'
      exact ((ha.mem e.1 e.2).mp he).1
    have hLk : ∀ k' ∈ L.map (·.1), k'.length = k := fun k' hk' => by
      obtain ⟨r, hr, rfl⟩ := hLr k' hk'
      exact hk r hr
    have hLB : ∀ k' ∈ L.map (·.1), ∀ q ∈ k', Bq 64 q := fun k' hk' => by
      obtain ⟨r, hr, rfl⟩ := hLr k' hk'
      exact hB r hr
    walk_at "w"
    refine e_thwN rfl rfl ?_
    walk_at "w"
    refine wi_dkyN rfl rfl ?_
    have hfl := fl_len (fun k' : List Rat => (id k').map dr) k (L.map (·.1)) fun k' hk' => by show (k'.map dr).length ≤ k; rw [List.length_map, hLk k' hk']; omega
    have hfl2 : (L.map (·.1)).length * k ≤ 100 * 10 := Nat.mul_le_mul (by rw [List.length_map]; omega) hk2
    refine lcL2_enc (g := []) (S := S ++ [.dn true (L.map encE)]) encK (fun k' => (id k').map dr) rfl (L.map (·.1)) [] (fun k' hk' acc' hacc => ?_) ?_
    · walk_at "w"
      refine lcL_enc dr (fun q => some (dr q)) (by rfl) k' acc' (by rw [List.length_map, List.length_nil] at hacc; simp only [id] at hacc hfl; omega) (fun q hq => ?_) ?_
      · walk_at "w"
        exact ⟨rfl, rfl⟩
      · exact ⟨rfl, by rw [List.filterMap_eq_map']; rfl⟩
    refine ⟨rfl, ?_⟩
    rw [List.nil_append, fl_map]
    walk_at "w"
    refine s_bottom (by rw [fl_map, List.length_map] at hfl; omega) (fun q hq => by
      obtain ⟨k', hk', hq⟩ := List.mem_flatMap.mp hq
      exact hLB k' hk' q hq) fun m hm hd hb => ?_
    walk_at "w"
    refine e_thwN rfl rfl ?_
    walk_at "w"
    refine wi_dkyN rfl rfl ?_
    refine lcL_enc (g := []) (S := S ++ [.dn true (L.map encE)]) encK (fun k' => if keepK L k' = true then some (encK k') else none) rfl (L.map (·.1)) [] (by rw [List.length_map, List.length_nil]; omega) (fun k' hk' => ?_) ?_
    · walk_at "w"
      obtain ⟨w, hw⟩ := getK_ex hk'
      refine o_idxN rfl hw ?_
      walk_at "w"
      have ek : keepK L k' = (!decide (w = 0) && k'.any fun q => decide (0 < q.num)) := by unfold keepK; rw [hw]; rfl
      refine ⟨fun h1 => ?_, fun h1 => ?_⟩
      · walk_at "w"
        refine lcL_map (g := []) (S := S ++ [.dn true (L.map encE)]) dr (fun q => .bl (decide (0 < q.num))) rfl k' (by rw [hLk k' hk']; omega) (fun q hq => ?_) ?_
        · walk_at "w"
          exact ⟨rfl, rfl⟩
        have e2 : (k'.map fun q => D.bl (decide (0 < q.num))) = (k'.map fun q => decide (0 < q.num)).map .bl := by rw [List.map_map]; rfl
        rw [e2]
        walk_at "w"
        refine o_any ?_
        walk_at "w"
        rw [h1, Bool.true_and] at ek
        have e3 : (k'.map fun q => decide (0 < q.num)).any id = k'.any fun q => decide (0 < q.num) := by rw [List.any_map]; rfl
        rw [e3, ← ek]
        refine ⟨fun h2 => ?_, fun h2 => ?_⟩
        · walk_at "w"
          exact ⟨rfl, by rw [if_pos h2]⟩
        · refine ff_l ?_
          exact ⟨rfl, by rw [h2]; rfl⟩
      · walk_at "w"
        rw [h1, Bool.false_and] at ek
        exact ⟨rfl, by rw [ek]; rfl⟩
    refine ⟨rfl, ?_⟩
    rw [List.nil_append, fm_if]
    walk_at "w"
    have hK : ∀ k' ∈ (L.map (·.1)).filter (keepK L), k' ∈ L.map (·.1) := fun k' hk' => (List.mem_filter.mp hk').1
    have hKl : ((L.map (·.1)).filter (keepK L)).length ≤ 100 := Nat.le_trans (List.length_filter_le ..) (by rw [List.length_map]; omega)
    refine lcL_map (g := []) (S := S ++ [.dn false (L.map encE)]) encK (encS m) rfl ((L.map (·.1)).filter (keepK L)) (by omega) (fun k' hk' => ?_) ?_
    · walk_at "w"
      refine lcL_map (g := []) (S := S ++ [.dn false (L.map encE)]) dr (fun q => .int (scl m q)) rfl k' (by rw [hLk k' (hK k' hk')]; omega) (fun q hq => ?_) ?_
      · have hBq := hLB k' (hK k' hk') q hq
        have hG := (hBq.bot.mono (by omega) : Bd 900 _).divG (den_pos q)
        walk_at "w"
        refine o_div hG ?_
        refine o_mul (Bd.mulG hBq.top (Bd.div _ hb) (by omega) (by omega) (by rw [fl_map, List.length_map] at hfl; omega)) ?_
        exact ⟨rfl, rfl⟩
      walk_at "w"
      exact ⟨rfl, rfl⟩
    walk_at "w"
    have hdv : ∀ k' ∈ (L.map (·.1)).filter (keepK L), ∀ q ∈ k', (q.den : Int) ∣ m := fun k' hk' q hq => hd q (List.mem_flatMap.mpr ⟨k', hK k' hk', hq⟩)
    refine o_sorted (sortOk_encS m _ (by omega)) ?_
    rw [sort_encS hm (n := k) (fun k' hk' => hLk k' (hK k' hk')) hdv]
    walk_at "w"
    refine lcL_map (g := []) (S := S ++ [.dn false (L.map encE)]) (encS m) (fun k' => encR ((getK k' L).getD 0, k')) rfl (((L.map (·.1)).filter (keepK L)).mergeSort leR) (by rw [List.length_mergeSort]; omega) (fun k' hk' => ?_) ?_
    · obtain ⟨w, hw⟩ := getK_ex (hK k' (List.mem_mergeSort.mp hk'))
      walk_at "w"
      refine o_idxN rfl hw ?_
      walk_at "w"
      exact ⟨rfl, by rw [hw]; rfl⟩
    walk_at "w"
    have e9 : (((L.map (·.1)).filter (keepK L)).mergeSort leR).map (fun k' => encR ((getK k' L).getD 0, k')) = ((((L.map (·.1)).filter (keepK L)).mergeSort leR).map fun k' => ((getK k' L).getD 0, k')).map encR := by rw [List.map_map]; rfl
    rw [e9]
    refine f_drop (pure_rows _) ?_
    exact h _ (plain_of_acc ha)
theorem s_bids {rows : List Row} {k : Nat} (hx : RowsP rows xs) (hy : TS S xs x) (hr : rows.length ≤ 100) (hk : ∀ r ∈ rows, r.2.length = k) (h1 : 1 ≤ k) (h3 : k ≤ 3) (h0 : ∀ r ∈ rows, ∀ q ∈ r.2, 0 ≤ q)
    (hB : ∀ r ∈ rows, ∀ q ∈ r.2, Bq 64 q) (h : ∀ L, IsPlain rows L → Q .non (S ++ [.ins c_Bids [(0, .int k), (1, .tup (L.map encR))]])) : wX (Mi.run pg (n + 6) f_Bids____init__ [.loc S.length, .int k, x] (S ++ [.ins c_Bids []])) Q X := by
  refine run_w i_Bids____init__ rfl rfl rfl ?_
  show wR (evB pg _ b_Bids____init__ [some (.loc S.length), some (.int k), some x, none] (S ++ [.ins c_Bids []])) _
  unfold b_Bids____init__
  walk_at "w"
  refine s_needkinds (by omega) (by omega) ?_
  walk_at "w"
  refine q_TS (hy.app _) ?_
  refine forL_thru (fun j v S' => ∃ o, v = [some (.loc S.length), some (.int k), some x, o] ∧ S' = S ++ [.ins c_Bids []]) _ 0 _ _ ⟨none, rfl, rfl⟩ (fun _ _ _ h => by obtain ⟨_, _, rfl⟩ := h; exact (hy.app _).guard (hy.app _)) ?_ ?_
  · rintro j z v S' hz ⟨o, rfl, rfl⟩
    obtain ⟨r, hr1, hp⟩ := hx.get hz
    have hrm := List.mem_of_getElem? hr1
    refine step_w ?_
    walk_at "w"
    refine s_isbid hp (by rw [hk r hrm]) (by rw [hk r hrm]; omega) (h0 r hrm) ?_
    walk_at "w"
    exact ⟨_, rfl, rfl⟩
  · rintro v S' ⟨o, rfl, rfl⟩
    refine ab_nx ?_
    walk_at "w"
    refine ⟨fld_N rfl rfl, o_setF rfl (by decide) ?_⟩
    walk_at "w"
    refine s_plainrows hx (hy.app _) hr hk (by omega) hB fun L hL => ?_
    walk_at "w"
    refine ⟨fld_N rfl rfl, o_setF rfl (show 1 < 900 by decide) ?_⟩
    walk_at "w"
    exact f_same (by simp) (h L hL)
end
/-! less, of the law -/
section
variable {c n : Nat} {p : MO} {T S : Sto} {Q : D → Sto → Prop} {X : XP} {q r : Rat} {x y : D}
theorem s_lless (h1 : Bq 300 q) (h2 : Bq 300 r) (h : Q (.bl (decide (q < r))) S) : wX (Mi.run pg (n + 1) f__law_less [dr q, dr r] S) Q X := by
  refine run_w i__law_less rfl rfl rfl ?_
  show wR (evB pg _ b__law_less [some (dr q), some (dr r)] S) _
  unfold b__law_less
  rw [← lt_frac] at h
  walk_at "w"
  exact h
end
/-! the law's plain list -/
section
variable {c n : Nat} {p : MO} {T S : Sto} {Q : D → Sto → Prop} {X : XP} {q : Rat} {x y : D}
theorem ahead_loop {v0 v1 : Option D} {QR : RS → Prop} : ∀ (a b : List Rat) (o2 o3 : Option D), a.length = b.length → (∀ q ∈ a, Bq 64 q) → (∀ q ∈ b, Bq 64 q) →
    (a = b → ∀ o2 o3, QR (.nx [v0, v1, o2, o3] S)) → (a ≠ b → QR (.rt (.bl (lexR a b)) S)) →
    wR (forL [] (stepF pg (Mi.run pg (n + 1)) (.tp [(.nm 2), (.nm 3)]) [.iff (.v (.cmp .NotEq (.var 2) (.var 3))) [.ret (.call f__law_less [(.var 2), (.var 3)])] []]) (zipD (a.map dr) (b.map dr)) [v0, v1, o2, o3] S) QR
  | [], [], o2, o3, _, _, _, hn, _ => forL_nil rfl (hn rfl _ _)
  | q :: a, r :: b, o2, o3, hl, ha, hb, hn, hr => by
    refine forL_cons rfl ?_
    refine step_w ?_
    walk_at "w"
    refine Cod.rat.o_ne ?_
    refine ndec_c (fun e => ?_) (fun e => ?_)
    · walk_at "w"
      refine s_lless ((ha q (.head _)).mono (by omega)) ((hb r (.head _)).mono (by omega)) ?_
      walk_at "w"
      have := hr (fun z => e (by cases z; rfl))
      simpa only [lexR, if_neg e] using this
    · subst e
      walk_at "w"
      refine ahead_loop a b _ _ (by simpa using hl) (fun q hq => ha q (.tail _ hq)) (fun q hq => hb q (.tail _ hq)) (fun e => hn (by rw [e])) (fun e => ?_)
      have := hr (fun z => e (by cases z; rfl))
      simpa only [lexR, if_true] using this
theorem s_ahead {a b : List Rat} (hl : a.length = b.length) (ha : ∀ q ∈ a, Bq 64 q) (hb : ∀ q ∈ b, Bq 64 q) (h : Q (.bl (lexR a b)) S) : wX (Mi.run pg (n + 2) f__law_is_ahead [encK a, encK b] S) Q X := by
  refine run_w i__law_is_ahead rfl rfl rfl ?_
  show wR (evB pg _ b__law_is_ahead [some (encK a), some (encK b), none, none] S) _
  unfold b__law_is_ahead
  walk_at "w"
  refine ⟨rfl, ?_⟩
  refine ahead_loop a b _ _ hl ha hb (fun e o2 o3 => ?_) (fun e => ?_)
  · subst e
    rw [lexR_irrefl] at h
    refine ab_nx ?_
    walk_at "w"
    exact h
  · walk_at "w"
    exact h
end
section
variable {c n : Nat} {p : MO} {T S : Sto} {Q : D → Sto → Prop} {X : XP} {q : Rat} {x y : D}
theorem at_map {α : Type} {f : α → D} {l : List α} {i : Nat} {a : α} {q : D → Prop} (ha : l[i]? = some a) (h : q (f a)) : wO (L2.atI (l.map f) (i : Nat)) q := by
  have hl := (List.getElem?_eq_some_iff.mp ha).1
  refine at_ok (by omega) (by rw [List.length_map]; omega) fun j x hj e => ?_
  have : j = i := by omega
  subst this
  rw [List.getElem?_map, ha, Option.map_some, Option.some.injEq] at hj
  subst hj; exact h
/-- where a key belongs -/
theorem find_loop {K : List (List Rat)} {k : List Rat} {m : Nat} {v0 v2 v3 v7 v8 v9 v10 o6 : Option D} {QR : RS → Prop} (hk : k.length = m) (hKk : ∀ j ∈ K, j.length = m) (hb : ∀ q ∈ k, Bq 64 q) (hB : ∀ j ∈ K, ∀ q ∈ j, Bq 64 q)
    (h : ∀ o6, QR (.nx [v0, some (.lst (K.map encK)), v2, v3, some (encK k), some (.int (K.takeWhile fun j => lexR j k).length), o6, v7, v8, v9, v10] S)) :
    wR (forL [] (stepF pg (Mi.run pg (n + 2)) (.nm 6) [.iff (.and [(.v (.cmp .Lt (.var 5) (.blt .len [(.var 1)]))), (.v (.call f__law_is_ahead [(.idx (.var 1) (.var 5)), (.var 4)]))]) [.asg (.nm 5) (.bin .Add (.var 5) (.cst (.int 1)))] []])
      (rngD 0 ((K.map encK).length : Int).toNat) [v0, some (.lst (K.map encK)), v2, v3, some (encK k), some (.int 0), o6, v7, v8, v9, v10] S) QR := by
  have hle := takeWhile_le (fun j => lexR j k) K
  have hlen : (rngD 0 ((K.map encK).length : Int).toNat).length = K.length := by simp [rngD]
  refine forL_thru (fun j v S' => ∃ o6, v = [v0, some (.lst (K.map encK)), v2, v3, some (encK k), some (.int (min j (K.takeWhile fun j => lexR j k).length : Nat)), o6, v7, v8, v9, v10] ∧ S' = S) _ 0 _ _ ⟨o6, by simp, rfl⟩ (fun _ _ _ _ => rfl) ?_ ?_
  · rintro j x v S' hx ⟨o6, rfl, rfl⟩
    rw [Nat.zero_add]
    refine step_w ?_
    walk_at "w"
    refine dec_c (fun e => ?_) (fun e => ?_)
    · walk_at "w"
      have hlt : min j (K.takeWhile fun j => lexR j k).length < K.length := by rw [List.length_map] at e; omega
      obtain ⟨a, ha⟩ : ∃ a, K[min j (K.takeWhile fun j => lexR j k).length]? = some a := ⟨_, List.getElem?_eq_getElem hlt⟩
      have ham := List.mem_of_getElem? ha
      refine at_map ha ?_
      walk_at "w"
      refine s_ahead ((hKk a ham).trans hk.symm) (hB a ham) hb ?_
      walk_at "w"
      by_cases z : j < (K.takeWhile fun j => lexR j k).length
      · rw [Nat.min_eq_left (by omega)] at ha ⊢
        have := takeWhile_lt (p := fun j => lexR j k) z ha
        refine tt_c this ?_
        walk_at "w"
        refine ⟨some x, ?_, rfl⟩
        rw [Nat.min_eq_left (by omega)]; rfl
      · rw [Nat.min_eq_right (by omega)] at ha ⊢
        have := takeWhile_at (p := fun j => lexR j k) ha
        refine ff_c this ?_
        walk_at "w"
        refine ⟨some x, ?_, rfl⟩
        rw [Nat.min_eq_right (by omega)]
    · walk_at "w"
      rw [List.length_map] at e
      refine ⟨some x, ?_, rfl⟩
      rw [Nat.min_eq_right (by omega), Nat.min_eq_right (by omega)]
  · rintro v S' ⟨o6, rfl, rfl⟩
    rw [Nat.zero_add, hlen, Nat.min_eq_right hle]
    exact h o6
theorem s_lplain {rows : List Row} {k : Nat} (hr : rows.length ≤ 100) (hk : ∀ r ∈ rows, r.2.length = k) (hk2 : k ≤ 10) (hB : ∀ r ∈ rows, ∀ q ∈ r.2, Bq 64 q) (h : ∀ L, IsPlain rows L → Q (.tup (L.map encR)) S) :
    wX (Mi.run pg (n + 3) f__law_plain [.lst (rows.map encR)] S) Q X := by
  refine run_w i__law_plain rfl rfl rfl ?_
  show wR (evB pg _ b__law_plain [some (.lst (rows.map encR)), none, none, none, none, none, none, none, none, none, none] S) _
  unfold b__law_plain
  walk_at "w"
  refine wO_some (d := MO.lst []) rfl ?_
  walk_at "w"
  refine forL_thru (fun j v S' => j ≤ rows.length ∧ ∃ (K : List (List Rat)) (o3 o4 o5 o6 : Option D), v = [some (.lst (rows.map encR)), some (.lst (K.map encK)), some (.loc S.length), o3, o4, o5, o6, none, none, none, none] ∧ S' = S ++ [.lst []] ∧ K.Pairwise (fun a b => lexR a b = true) ∧ K.length ≤ j ∧ ∀ k', k' ∈ K ↔ ∃ r ∈ rows.take j, r.2 = k') _ 0 _ _
    ⟨by omega, [], none, none, none, none, rfl, rfl, List.Pairwise.nil, by simp, by simp⟩ (fun _ _ _ _ => rfl) ?_ ?_
  · rintro j z v S' hz ⟨hj, K, o3, o4, o5, o6, rfl, rfl, hs, hl, hm⟩
    rw [Nat.zero_add] at hj hl hm
    rw [List.getElem?_map] at hz
    obtain ⟨r, hr1, rfl⟩ := Option.map_eq_some_iff.mp hz
    have hrm := List.mem_of_getElem? hr1
    have hjl : j < rows.length := (List.getElem?_eq_some_iff.mp hr1).1
    have hKr : ∀ k' ∈ K, ∃ r ∈ rows, r.2 = k' := fun k' hk' => by
      obtain ⟨r, hr, e⟩ := (hm k').mp hk'
      exact ⟨r, List.mem_of_mem_take hr, e⟩
    have hstep : ∀ k', (∃ r' ∈ rows.take (0 + j + 1), r'.2 = k') ↔ (k' ∈ K ∨ k' = r.2) := fun k' => by
      rw [hm, Nat.zero_add, List.take_succ, hr1]
      simp only [Option.toList_some, List.mem_append, List.mem_singleton]
      constructor
      · rintro ⟨r', h' | rfl, e⟩
        · exact .inl ⟨r', h', e⟩
        · exact .inr e.symm
      · rintro (⟨r', h', e⟩ | e)
        · exact ⟨r', .inl h', e⟩
        · exact ⟨r, .inr rfl, e.symm⟩
    refine step_w ?_
    walk_at "w"
    refine codK.o_nin2 (fun e => ?_) (fun e => ?_)
    · walk_at "w"
      refine ⟨by omega, K, _, _, _, _, rfl, rfl, hs, by omega, fun k' => ?_⟩
      rw [hstep]
      exact ⟨.inl, fun h' => h'.elim id fun e' => by rw [e']; exact e⟩
    · walk_at "w"
      refine find_loop (hk r hrm) (fun k' hk' => by obtain ⟨r, hr, rfl⟩ := hKr k' hk'; exact hk r hr) (hB r hrm) (fun k' hk' => by obtain ⟨r, hr, rfl⟩ := hKr k' hk'; exact hB r hr) (fun o6' => ?_)
      walk_at "w"
      refine o_take rfl rfl (by omega) ?_
      walk_at "w"
      have hle := takeWhile_le (fun j => lexR j r.2) K
      have h16 : (16777216 : Nat) ≥ 1000 := by decide
      refine o_addL (by simp only [List.length_take, List.length_map, List.length_cons, List.length_nil]; omega) ?_
      walk_at "w"
      refine o_drop rfl rfl (by omega) ?_
      refine o_addL (by simp only [List.length_append, List.length_drop, List.length_take, List.length_map, List.length_cons, List.length_nil]; omega) ?_
      walk_at "w"
      rw [insK_map]
      refine ⟨by omega, insK K r.2, _, _, _, _, rfl, rfl, insK_srt hs e, by rw [insK_len]; omega, fun k' => ?_⟩
      rw [hstep]; exact insK_mem
  · rintro v S' ⟨_, K, o3, o4, o5, o6, rfl, rfl, hs, hl, hm⟩
    rw [Nat.zero_add, List.length_map] at hl hm
    rw [List.take_length] at hm
    have hKk : ∀ k' ∈ K, k'.length = k := fun k' hk' => by
      obtain ⟨r, hr, rfl⟩ := (hm k').mp hk'
      exact hk r hr
    refine ab_nx ?_
    walk_at "w"
    have h16 : (16777216 : Nat) ≥ 1000 := by decide
    refine forL_thru (fun j v S' => ∃ (o3 o7 : Option D), v = [some (.lst (rows.map encR)), some (.lst (K.map encK)), some (.loc S.length), o3, o4, o5, o6, o7, none, none, none] ∧ S' = S ++ [.lst ((((K.take j).filter (keepR rows)).map fun k => (sumW rows k, k)).map encR)]) _ 0 _ _
      ⟨_, _, rfl, rfl⟩ (fun _ _ _ _ => rfl) ?_ ?_
    · rintro j z v S' hz ⟨o3, o7, rfl, rfl⟩
      rw [Nat.zero_add]
      rw [List.getElem?_map] at hz
      obtain ⟨k', hk1, rfl⟩ := Option.map_eq_some_iff.mp hz
      have hkm := List.mem_of_getElem? hk1
      have hj : j < K.length := (List.getElem?_eq_some_iff.mp hk1).1
      refine step_w ?_
      walk_at "w"
      refine lcL_enc (g := []) encR (fun r : Row => if decide (r.2 = k') = true then some (.int r.1) else none) rfl rows [] (by rw [List.length_nil]; omega) (fun r hr => ?_) ?_
      · walk_at "w"
        refine codK.o_eq2 (fun e => ?_) (fun e => ?_)
        · walk_at "w"
          exact ⟨rfl, by rw [decide_eq_true e]; rfl⟩
        · walk_at "w"
          exact ⟨rfl, by rw [decide_eq_false e]; rfl⟩
      rw [List.nil_append, fm_if]
      have e1 : ((rows.filter fun r => decide (r.2 = k')).map fun r => D.int r.1) = ((rows.filter fun r => decide (r.2 = k')).map (·.1)).map .int := by rw [List.map_map]; rfl
      rw [e1]
      walk_at "w"
      refine o_sum ?_
      walk_at "w"
      have es : ((rows.filter fun r => decide (r.2 = k')).map (·.1)).sum = sumW rows k' := rfl
      rw [es]
      have ek : ((K.take (j + 1)).filter (keepR rows)) = ((K.take j).filter (keepR rows)) ++ (if keepR rows k' = true then [k'] else []) := by
        rw [take_one hk1, List.filter_append]
        congr 1
        cases e0 : keepR rows k' <;> simp [e0]
      have hfl : ((K.take j).filter (keepR rows)).length ≤ 100 := Nat.le_trans (List.length_filter_le ..) (by rw [List.length_take]; omega)
      refine ndec_c (fun e => ?_) (fun e => ?_)
      · walk_at "w"
        refine lcL_enc (g := []) dr (fun q => if decide (0 < q.num) = true then some (.int 1) else none) rfl k' [] (by rw [List.length_nil, hKk k' hkm]; omega) (fun q hq => ?_) ?_
        · walk_at "w"
          refine ⟨fun e => ?_, fun e => ?_⟩
          · walk_at "w"
            exact ⟨rfl, by rw [e]; rfl⟩
          · walk_at "w"
            exact ⟨rfl, by rw [e]; rfl⟩
        rw [List.nil_append, fm_if]
        walk_at "w"
        have e2 : ((k'.filter fun q => decide (0 < q.num)).map fun _ => D.int 1) = ((k'.filter fun q => decide (0 < q.num)).map fun _ => (1 : Int)).map .int := by rw [List.map_map]; rfl
        rw [e2]
        refine Cod.int.lst.o_ne2 (b := []) (fun z => ?_) (fun z => ?_)
        · walk_at "w"
          refine ⟨_, _, rfl, ?_⟩
          have : keepR rows k' = false := by
            have z : (k'.filter fun q => decide (0 < q.num)) = [] := List.map_eq_nil_iff.mp z
            unfold keepR
            rw [Bool.and_eq_false_iff]
            refine .inr ?_
            rw [List.any_eq_false]
            intro q hq
            exact List.filter_eq_nil_iff.mp z q hq
          rw [ek, this]
          simp
        · walk_at "w"
          refine ki_L rfl ?_
          refine ⟨rfl, ?_⟩
          walk_at "w"
          refine o_appN rfl (by rw [List.length_map, List.length_map]; omega) ?_
          walk_at "w"
          refine ⟨_, _, rfl, ?_⟩
          have : keepR rows k' = true := by
            have z : (k'.filter fun q => decide (0 < q.num)) ≠ [] := fun q => z (by rw [q]; rfl)
            unfold keepR
            rw [Bool.and_eq_true]
            refine ⟨by simp [e], ?_⟩
            obtain ⟨q, hq⟩ := List.exists_mem_of_ne_nil _ z
            obtain ⟨h1, h2⟩ := List.mem_filter.mp hq
            exact List.any_eq_true.mpr ⟨q, h1, h2⟩
          rw [ek, this]
          simp
      · walk_at "w"
        refine ⟨_, _, rfl, ?_⟩
        have : keepR rows k' = false := by
          unfold keepR
          rw [decide_eq_true e]; rfl
        rw [ek, this]
        simp
    · rintro v S' ⟨o3, o7, rfl, rfl⟩
      rw [Nat.zero_add, List.length_map, List.take_length]
      refine ab_nx ?_
      walk_at "w"
      refine o_tupN rfl ?_
      walk_at "w"
      refine f_drop (pure_rows _) ?_
      exact h _ (plain_of_keys hs hm)
end
/-! the law's rows -/
def GRow (k : Nat) (r : Row) : Prop := r.2.length = k ∧ Bd 8 r.1 ∧ ∀ q ∈ r.2, 0 ≤ q ∧ Bq 64 q
def TQ (x : D) : Prop := ∃ q : Rat, x = dr q ∧ 0 ≤ q ∧ Bq 64 q
theorem tq_frac {t b : Int} (h0 : 0 ≤ t) (hb : 0 < b) (h1 : Bd 64 t) (h2 : Bd 64 b) : TQ (dr ((t : Rat) / (b : Rat))) := by
  refine ⟨_, rfl, ?_, Bq.frac hb h1 h2⟩
  have hb' : (0 : Rat) < (b : Rat) := Rat.intCast_pos.mpr hb
  have e : (t : Rat) / (b : Rat) * (b : Rat) = (t : Rat) := Rat.div_mul_cancel (by grind)
  have h0' : (0 : Rat) ≤ (t : Rat) := Rat.intCast_nonneg.mpr h0
  by_cases z : 0 ≤ (t : Rat) / (b : Rat)
  · exact z
  · have z : (t : Rat) / (b : Rat) < 0 := by grind
    have := (Rat.mul_lt_mul_right hb').mpr z
    rw [e] at this
    grind
theorem tq_int {t : Int} (h0 : 0 ≤ t) (h1 : Bd 64 t) : TQ (.tup [.int t, .int 1]) := ⟨(t : Rat), (dr_int t).symm, Rat.intCast_nonneg.mpr h0, Bq.int h1 (by omega)⟩
section
variable {c n : Nat} {p : MO} {T S : Sto} {Q : D → Sto → Prop} {X : XP} {q : Rat} {x y : D}
theorem x_draw {m : Int} (hp : Pen c p) (hc : c < 1000000000000) (hm : 0 < m) (hm2 : m < 2 ^ 64) : ∃ (r : Int) (p' : MO), Mi.run pg (n + 1) f__law_draw [.loc 0, .int m] (p :: T) = .ok (.int r) (p' :: T) ∧ 0 ≤ r ∧ r < m ∧ Pen (c + 1) p' := by
  have h : wX (Mi.run pg (n + 1) f__law_draw [.loc 0, .int m] (p :: T)) (fun d S1 => ∃ (r : Int) (p' : MO), d = .int r ∧ S1 = p' :: T ∧ 0 ≤ r ∧ r < m ∧ Pen (c + 1) p') noX :=
    s_draw hp hc hm hm2 fun r p' a b hp' => ⟨r, p', rfl, rfl, a, b, hp'⟩
  cases e : Mi.run pg (n + 1) f__law_draw [.loc 0, .int m] (p :: T) <;> rw [e] at h <;> try exact h.elim
  obtain ⟨r, p', rfl, rfl, a, b, hp'⟩ := h
  exact ⟨r, p', rfl, a, b, hp'⟩
theorem x_pick {xs : List D} (hp : Pen c p) (hc : c < 1000000000000) (h0 : 0 < xs.length) (h1 : xs.length < 2 ^ 64) : ∃ (x : D) (p' : MO), Mi.run pg (n + 2) f__law_pick [.loc 0, .lst xs] (p :: T) = .ok x (p' :: T) ∧ x ∈ xs ∧ Pen (c + 1) p' := by
  have h : wX (Mi.run pg (n + 2) f__law_pick [.loc 0, .lst xs] (p :: T)) (fun d S1 => ∃ (p' : MO), S1 = p' :: T ∧ d ∈ xs ∧ Pen (c + 1) p') noX :=
    s_pick hp hc h0 h1 fun x p' hx hp' => ⟨p', rfl, hx, hp'⟩
  cases e : Mi.run pg (n + 2) f__law_pick [.loc 0, .lst xs] (p :: T) <;> rw [e] at h <;> try exact h.elim
  obtain ⟨p', rfl, a, hp'⟩ := h
  exact ⟨_, p', rfl, a, hp'⟩
theorem given_step {k : Nat} {told : List D} {rows : List Row} {z : D} {o4 o5 : Option D} {QR : RS → Prop} (hp : Pen c p) (hc : c < 10000) (h3 : k ≤ 3) (htq : ∀ x ∈ told, TQ x) (htl : told.length = 6) (hl : rows.length < 1000)
    (h : ∀ (r : Int) (qs : List Rat) (p2 : MO), 0 ≤ r → r < 9 → qs.length = k → (∀ q ∈ qs, 0 ≤ q ∧ Bq 64 q) → Pen (c + 4) p2 → QR (.nx [some (.loc 0), some (.int k), some (.loc (T.length + 1)), some (.lst told), some z, o5] (p2 :: (T ++ [.lst ((rows ++ [(r - 4, qs)]).map encR)])))) :
    wR (stepF pg (Mi.run pg (n + 2)) (.nm 4) [.exp (.bmt .append (.var 2) [(.tup [(.bin .Sub (.call 20 [(.var 0), (.cst (.int 9))]) (.cst (.int 4))), (.blt .tuple [(.lc (.call 21 [(.var 0), (.var 3)]) (.nm 5) (.rg1 (.var 1)) none [5])])])])] z
      [some (.loc 0), some (.int k), some (.loc (T.length + 1)), some (.lst told), o4, o5] (p :: (T ++ [.lst (rows.map encR)]))) QR := by
  obtain ⟨r, p1, er, a, b, hp1⟩ := x_draw (n := n + 1) (T := T ++ [.lst (rows.map encR)]) (m := 9) hp (by omega) (by omega) (by omega)
  refine step_w ?_
  walk_at "w"
  refine ki_L (S := p :: T) rfl ?_
  refine ⟨rfl, ?_⟩
  walk_at "w"
  refine wX_eq er ?_
  walk_at "w"
  refine lcL_inv (fun i acc S' => ∃ (qs : List Rat) (p' : MO), acc = qs.map dr ∧ qs.length = i ∧ S' = p' :: (T ++ [.lst (rows.map encR)]) ∧ Pen (c + 1 + i) p' ∧ ∀ q ∈ qs, 0 ≤ q ∧ Bq 64 q) _ 0 [] _ ⟨[], p1, rfl, rfl, rfl, hp1, by simp⟩ (fun _ _ _ _ => rfl) ?_ ?_
  · rintro i y acc S' hy ⟨qs, p2, rfl, hi, rfl, hp2, hqs⟩
    rw [Nat.zero_add] at hi hp2
    have hik := (List.getElem?_eq_some_iff.mp hy).1
    have : (rngD 0 ((k : Nat) : Int).toNat).length = k := by simp [rngD]
    rw [this] at hik
    refine ⟨by rw [List.length_map]; omega, ?_⟩
    walk_at "w"
    refine s_pick hp2 (by omega) (by omega) (by omega) fun z p3 hz hp3 => ?_
    obtain ⟨q, rfl, hq0, hqb⟩ := htq z hz
    refine ⟨qs ++ [q], p3, by simp, by simp; omega, rfl, by rw [Nat.zero_add]; exact hp3, ?_⟩
    intro q' hq'
    simp only [List.mem_append, List.mem_singleton] at hq'
    rcases hq' with hq' | rfl
    · exact hqs q' hq'
    · exact ⟨hq0, hqb⟩
  · rintro acc S' ⟨qs, p2, rfl, hi, rfl, hp2, hqs⟩
    have : (rngD 0 ((k : Nat) : Int).toNat).length = k := by simp [rngD]
    rw [this, Nat.zero_add] at hi hp2
    walk_at "w"
    refine o_appN (S := p2 :: T) rfl (by rw [List.length_map]; omega) ?_
    walk_at "w"
    have := h r qs p2 a b hi hqs (hp2.mono (by omega))
    simpa using this
theorem s_given {k : Nat} (hp : Pen c p) (hc : c < 8000) (h3 : k ≤ 3) (h : ∀ (rows : List Row) p', Pen (c + 100) p' → rows.length ≤ 12 → (∀ r ∈ rows, GRow k r) → Q (.lst (rows.map encR)) (p' :: T)) :
    wX (Mi.run pg (n + 3) f__law_given [.loc 0, .int k] (p :: T)) Q X := by
  refine run_w i__law_given rfl rfl rfl ?_
  show wR (evB pg _ b__law_given [some (.loc 0), some (.int k), none, none, none, none] (p :: T)) _
  unfold b__law_given
  walk_at "w"
  refine wO_some (d := MO.lst []) rfl ?_
  walk_at "w"
  show wX (Mi.run pg (n + 2) f__law_draw [.loc 0, .int 60] (p :: (T ++ [.lst []]))) _ _
  refine s_draw hp (by omega) (by omega) (by omega) fun r1 p1 a1 b1 hp1 => ?_
  walk_at "w"
  refine s_draw hp1 (by omega) (by omega) (by omega) fun r2 p2 a2 b2 hp2 => ?_
  walk_at "w"
  refine s_q (by omega) (by unfold Bd; omega) ?_
  walk_at "w"
  refine s_draw hp2 (by omega) (by omega) (by omega) fun r3 p3 a3 b3 hp3 => ?_
  walk_at "w"
  refine s_q (by omega) (by unfold Bd; omega) ?_
  walk_at "w"
  refine s_draw hp3 (by omega) (by omega) (by omega) fun r4 p4 a4 b4 hp4 => ?_
  walk_at "w"
  refine s_q (by omega) (by unfold Bd; omega) ?_
  walk_at "w"
  refine o_pow (by decide) ?_
  refine s_draw hp4 (by omega) (by decide) (by decide) fun r5 p5 a5 b5 hp5 => ?_
  walk_at "w"
  refine s_draw hp5 (by omega) (by decide) (by decide) fun r6 p6 a6 b6 hp6 => ?_
  walk_at "w"
  have htq : ∀ x ∈ ([D.tup [D.int 0, D.int 1], D.tup [D.int 0, D.int 1], dr ((r1 : Rat) / ((1 + r2 : Int) : Rat)), dr ((r3 : Rat) / ((1 : Int) : Rat))] ++ [dr (((1 + r4 : Int) : Rat) / ((1000 : Int) : Rat)), D.tup [D.int r5, D.int 1]] : List D), TQ x := by
    have b5 : r5 < 1000000 := by simpa using b5
    simp only [List.cons_append, List.nil_append, List.mem_cons, List.not_mem_nil, or_false]
    rintro x (rfl | rfl | rfl | rfl | rfl | rfl)
    · exact tq_int (by omega) (by unfold Bd; omega)
    · exact tq_int (by omega) (by unfold Bd; omega)
    · exact tq_frac a1 (by omega) (by unfold Bd; omega) (by unfold Bd; omega)
    · exact tq_frac a3 (by omega) (by unfold Bd; omega) (by unfold Bd; omega)
    · exact tq_frac (by omega) (by omega) (by unfold Bd; omega) (by unfold Bd; omega)
    · exact tq_int a5 (by unfold Bd; omega)
  obtain ⟨told, ht, htq, htl⟩ : ∃ told : List D, ([D.tup [D.int 0, D.int 1], D.tup [D.int 0, D.int 1], dr ((r1 : Rat) / ((1 + r2 : Int) : Rat)), dr ((r3 : Rat) / ((1 : Int) : Rat))] ++ [dr (((1 + r4 : Int) : Rat) / ((1000 : Int) : Rat)), D.tup [D.int r5, D.int 1]] : List D) = told ∧ (∀ x ∈ told, TQ x) ∧ told.length = 6 := ⟨_, rfl, htq, rfl⟩
  rw [ht]
  have hlen : (rngD 0 r6.toNat).length = r6.toNat := by simp [rngD]
  refine forL_thru (fun j v S' => ∃ (rows : List Row) (p' : MO) (o4 o5 : Option D), v = [some (.loc 0), some (.int k), some (.loc (T.length + 1)), some (.lst told), o4, o5] ∧ S' = p' :: (T ++ [.lst (rows.map encR)]) ∧ Pen (c + 6 + 5 * j) p' ∧ rows.length = j ∧ ∀ r ∈ rows, GRow k r) _ 0 _ _
    ⟨[], p6, none, none, rfl, rfl, hp6, rfl, by simp⟩ (fun _ _ _ _ => rfl) ?_ ?_
  · rintro j x v S' hx ⟨rows, p', o4, o5, rfl, rfl, hp', hl, hg⟩
    rw [Nat.zero_add] at hl hp'
    have hj := (List.getElem?_eq_some_iff.mp hx).1
    rw [hlen] at hj
    refine given_step hp' (by omega) h3 htq htl (by omega) fun r qs p2 ha hb hi hqs hp2 => ?_
    refine ⟨rows ++ [(r - 4, qs)], p2, _, _, rfl, by simp, hp2.mono (by omega), by simp; omega, ?_⟩
    intro r' hr'
    simp only [List.mem_append, List.mem_singleton] at hr'
    rcases hr' with hr' | rfl
    · exact hg r' hr'
    · exact ⟨hi, by unfold Bd; omega, hqs⟩
  · rintro v S' ⟨rows, p', o4, o5, rfl, rfl, hp', hl, hg⟩
    rw [Nat.zero_add, hlen] at hl hp'
    refine ab_nx ?_
    walk_at "w"
    refine f_list (fun n => Pen.lf hp' n) (pureL_map pure_encR rows) ?_
    exact h rows p' (hp'.mono (by omega)) (by omega) hg
end
section
variable {c n : Nat} {p : MO} {S T : Sto} {Q : D → Sto → Prop} {X : XP} {q : Rat}
/-- a ratio as a caller may pass it -/
theorem s_passed (hp : Pen c p) (hc : c < 10000000000) (hr : Bq 300 q) (h : ∀ x p', Pq q x → Pen (c + 3) p' → Q x (p' :: T)) : wX (Mi.run pg (n + 4) f__law_passed [.loc 0, dr q] (p :: T)) Q X := by
  refine run_w i__law_passed rfl rfl rfl ?_
  show wR (evB pg _ b__law_passed [some (.loc 0), some (dr q), none] (p :: T)) _
  unfold b__law_passed
  have rest : ∀ (p1 : MO), Pen (c + 1) p1 → wR (evB pg (Mi.run pg (n + 3)) [.asg (.nm 2) (.call f__law_pick [(.var 0), (.lst [(.cst (.int 1)), (.cst (.int 1)), (.cst (.int 2)), (.cst (.int 5))])]), .ret (.call f__law_pick [(.var 0), (.lst [(.tup [(.bin .Mult (.idx (.var 1) (.cst (.int 0))) (.var 2)), (.bin .Mult (.idx (.var 1) (.cst (.int 1))) (.var 2))]), (.lst [(.bin .Mult (.idx (.var 1) (.cst (.int 0))) (.var 2)), (.bin .Mult (.idx (.var 1) (.cst (.int 1))) (.var 2))])])])] [some (.loc 0), some (dr q), none] (p1 :: T)) (andF i__law_passed.keep (p :: T) Q X) := by
    intro p1 hp1
    walk_at "w"
    refine s_pick hp1 (by omega) (by decide) (by decide) fun x p2 hx hp2 => ?_
    have hx : ∃ k : Int, 0 < k ∧ Bd 3 k ∧ x = .int k := by
      simp only [List.mem_cons, List.not_mem_nil, or_false] at hx
      rcases hx with rfl | rfl | rfl | rfl <;> first | exact ⟨1, by omega, by unfold Bd; omega, rfl⟩ | exact ⟨2, by omega, by unfold Bd; omega, rfl⟩ | exact ⟨5, by omega, by unfold Bd; omega, rfl⟩
    obtain ⟨k, hk, hk3, rfl⟩ := hx
    walk_at "w"
    refine s_pick hp2 (by omega) (by simp) (by simp) fun x p3 hx hp3 => ?_
    simp only [List.mem_cons, List.not_mem_nil, or_false] at hx
    have hB := (hr.bot.mul hk3).mono (show 300 + 3 ≤ 800 by omega)
    have h0 := Int.mul_pos (den_pos q) hk
    rcases hx with rfl | rfl
    · exact f_same rfl (h _ p3 (.tup h0 (frac_scale hk) hB) hp3)
    · exact f_same rfl (h _ p3 (.lst h0 (frac_scale hk) hB) hp3)
  walk_at "w"
  refine dec_c (fun e => ?_) fun _ => ff_l (b_nil (ab_nx (rest p (hp.mono (by omega)))))
  walk_at "w"
  refine s_draw hp (by omega) (by omega) (by omega) fun r p1 h0 h1 hp1 => ?_
  walk_at "w"
  refine dec_c (fun _ => tt_l ?_) fun _ => ff_l (b_nil (ab_nx (rest p1 hp1)))
  walk_at "w"
  refine h _ p1 (.int (rat_int e)) (hp1.mono (by omega))
end
section
variable {c n : Nat} {p : MO} {T S : Sto} {Q : D → Sto → Prop} {X : XP} {q : Rat} {x y : D}
theorem s_beq {k : Nat} {L : List Row} (h : Q (.bl true) S) : wX (Mi.run pg (n + 1) f_Bids____eq__ [.ins c_Bids [(0, .int k), (1, .tup (L.map encR))], .ins c_Bids [(0, .int k), (1, .tup (L.map encR))]] S) Q X := by
  refine run_w i_Bids____eq__ rfl rfl rfl ?_
  show wR (evB pg _ b_Bids____eq__ [some (.ins c_Bids [(0, .int k), (1, .tup (L.map encR))]), some (.ins c_Bids [(0, .int k), (1, .tup (L.map encR))])] S) _
  unfold b_Bids____eq__
  walk_at "w"
  refine dec_t rfl ?_
  walk_at "w"
  refine codR.tup.o_eq2 (fun _ => ?_) (fun z => (z rfl).elim)
  walk_at "w"
  exact h
theorem PqL.snoc {q : Rat} {x : D} {qs : List Rat} {xs : List D} (h : PqL qs xs) (hx : Pq q x) : PqL (qs ++ [q]) (xs ++ [x]) := by
  induction h with
  | nil => exact .cons hx .nil
  | cons h _ ih => exact .cons h ih
theorem RowsP.snoc {q : Row} {x : D} {qs : List Row} {xs : List D} (h : RowsP qs xs) (hx : RowP q x) : RowsP (qs ++ [q]) (xs ++ [x]) := by
  induction h with
  | nil => exact .cons hx .nil
  | cons h _ ih => exact .cons h ih
theorem PqL.pure {qs : List Rat} {xs : List D} (h : PqL qs xs) : pureL xs = true := by
  induction h with
  | nil => rfl
  | cons h _ ih => simp only [pureL, h.pure, ih, Bool.and_self]
theorem TL.pure {xs : List D} {x : D} (h : TL xs x) (hx : pureL xs = true) : pureD x = true := by rcases h with rfl | rfl <;> exact hx
theorem RowP.pure {r : Row} {x : D} (h : RowP r x) : pureD x = true := by
  obtain ⟨xs, y, h1, h2, h3⟩ := h
  exact TL.pure h3 (by simp only [pureL, TL.pure h2 h1.pure, pureD, Bool.and_self])
theorem RowsP.pure {qs : List Row} {xs : List D} (h : RowsP qs xs) : pureL xs = true := by
  induction h with
  | nil => rfl
  | cons h _ ih => simp only [pureL, h.pure, ih, Bool.and_self]
theorem PqL.rep {q : Rat} {x : D} (h : Pq q x) : ∀ n : Nat, PqL (List.replicate n q) (List.replicate n x)
  | 0 => .nil
  | n + 1 => .cons h (PqL.rep h n)
theorem RowsP.app {a b : List Row} {xs ys : List D} (h : RowsP a xs) (h' : RowsP b ys) : RowsP (a ++ b) (xs ++ ys) := by
  induction h with
  | nil => exact h'
  | cons h _ ih => exact .cons h ih
theorem RowsP.reverse {a : List Row} {xs : List D} (h : RowsP a xs) : RowsP a.reverse xs.reverse := by
  induction h with
  | nil => exact .nil
  | cons h _ ih =>
    rw [List.reverse_cons, List.reverse_cons]
    exact ih.app (.cons h .nil)
/-- the lap behind the rows that are passed -/
abbrev lapR : List MS := (match b_law with
  | [_, .for _ _ b, _] => b.drop 4
  | _ => [])
theorem lap_w {k j : Nat} {rows L : List Row} {xs : List D} {U : List MO} {v0 v2 o7 o8 o9 o10 o11 o12 : Option D} {QR : RS → Prop} (hj : j < 4) (hp : Pen (1000 * j + 400) p) (h1 : 1 ≤ k) (h3 : k ≤ 3) (hl : rows.length ≤ 12) (hg : ∀ r ∈ rows, GRow k r) (hL : IsPlain rows L)
    (hR : RowsP rows xs) (hU : ∀ m ∈ U, ∀ n, lfM n m = true)
    (h : ∀ p' o11 o12, Pen (1000 * j + 401) p' → QR (.nx [v0, some (.loc 0), v2, some (.int k), some (.lst (rows.map encR)), some (.tup (L.map encR)), some (.loc (U.length + 1)), o7, o8, o9, o10, o11, o12] (p' :: (U ++ [MO.lst xs])))) :
    wR (evB pg (Mi.run pg (n + 7)) lapR [v0, some (.loc 0), v2, some (.int k), some (.lst (rows.map encR)), some (.tup (L.map encR)), some (.loc (U.length + 1)), o7, o8, o9, o10, o11, o12] (p :: (U ++ [MO.lst xs]))) QR := by
  have hk' : ∀ r ∈ rows, r.2.length = k := fun r hr => (hg r hr).1
  unfold lapR b_law
  simp only [List.drop]
  walk_at "w"
  refine e_mkT (f := f_Bids____init__) rfl ?_
  walk_at "w"
  refine o_tupN (S := p :: U) rfl ?_
  walk_at "w"
  refine s_pick hp (by omega) (by simp) (by simp) fun y p3 hy hp3 => ?_
  walk_at "w"
  have hy : TS (p3 :: (U ++ [MO.lst xs])) xs y := by
    simp only [List.mem_cons, List.not_mem_nil, or_false] at hy
    rcases hy with rfl | rfl
    · exact .inr ⟨_, rfl, app_get (S := p3 :: U)⟩
    · exact .inl (.inl rfl)
  have hcl : (p3 :: (U ++ [MO.lst xs])).all (lfM (p3 :: (U ++ [MO.lst xs])).length) = true := by
    rw [List.all_cons, hp3.lf, List.all_append, List.all_cons, Bool.true_and, Bool.and_eq_true]
    exact ⟨List.all_eq_true.mpr fun m hm => hU m hm _, by simp only [List.all_nil, Bool.and_true]; exact pureL_lf xs hR.pure⟩
  refine s_bids (S := p3 :: (U ++ [MO.lst xs])) hR hy (by omega) hk' (by omega) (by omega) (fun r hr q hq => ((hg r hr).2.2 q hq).1) (fun r hr q hq => ((hg r hr).2.2 q hq).2) fun L' hL' => ?_
  have := hL.uniq hL'
  subst this
  refine ⟨rfl, _, rfl, pureF_lf _ (by simp only [pureF, Bool.and_true, Bool.true_and]; exact pure_rows _), hcl, ?_⟩
  walk_at "w"
  have hsh : Shows L := hL.shows (b := 8) (by omega) (by omega) (fun r hr => by rw [hk' r hr]; omega) (fun r hr => (hg r hr).2.1) (fun r hr q hq => ((hg r hr).2.2 q hq).2.mono (by omega))
  obtain ⟨s1, es1⟩ := repX_ok (hsh.rep2 (show Bd 900 (k : Int) from Bd.mono (a := 8) (by unfold Bd; omega) (by omega)))
  refine wO_some (es1 _) ?_
  walk_at "w"
  refine wO_some (es1 _) ?_
  walk_at "w"
  refine o_ne_str (ff_c (by simp) ?_)
  walk_at "w"
  refine e_mkT (f := f_Bids____init__) rfl ?_
  walk_at "w"
  refine q_lsN (S := p3 :: U) rfl ?_
  walk_at "w"
  refine o_mulT1 (by omega) ?_
  walk_at "w"
  refine o_mulT1 (by omega) ?_
  walk_at "w"
  have hxl := hR.len
  have h16 : (16777216 : Nat) ≥ 1000 := by decide
  refine o_addL (by simp only [List.length_reverse, List.length_cons, List.length_nil]; omega) ?_
  walk_at "w"
  have hR2 : RowsP (rows.reverse ++ [(0, List.replicate k (3 : Rat)), (7, List.replicate k (0 : Rat))]) (xs.reverse ++ [D.tup [D.int 0, D.tup (List.replicate k (D.int 3))], D.tup [D.int 7, D.tup (List.replicate k (D.int 0))]]) := by
    refine hR.reverse.app (.cons ⟨_, _, PqL.rep (.int rfl) k, .inl rfl, .inl rfl⟩ (.cons ⟨_, _, PqL.rep (.int rfl) k, .inl rfl, .inl rfl⟩ .nil))
  have hm2 : ∀ r ∈ rows.reverse ++ [(0, List.replicate k (3 : Rat)), (7, List.replicate k (0 : Rat))], r.2.length = k ∧ ∀ q ∈ r.2, 0 ≤ q ∧ Bq 64 q := by
    intro r hr
    simp only [List.mem_append, List.mem_reverse, List.mem_cons, List.not_mem_nil, or_false] at hr
    rcases hr with hr | rfl | rfl
    · exact ⟨hk' r hr, (hg r hr).2.2⟩
    · refine ⟨List.length_replicate, fun q hq => ?_⟩
      rw [List.eq_of_mem_replicate hq]
      exact ⟨by decide, Bq.int (i := 3) (by unfold Bd; omega) (by omega)⟩
    · refine ⟨List.length_replicate, fun q hq => ?_⟩
      rw [List.eq_of_mem_replicate hq]
      exact ⟨by decide, Bq.int (i := 0) (by unfold Bd; omega) (by omega)⟩
  refine s_bids (S := p3 :: (U ++ [MO.lst xs])) hR2 (.inl (.inr rfl)) (by simp only [List.length_append, List.length_reverse, List.length_cons, List.length_nil]; omega) (fun r hr => (hm2 r hr).1) (by omega) (by omega) (fun r hr q hq => ((hm2 r hr).2 q hq).1) (fun r hr q hq => ((hm2 r hr).2 q hq).2) fun L2 hL2 => ?_
  have hsame : IsPlain (rows.reverse ++ [(0, List.replicate k (3 : Rat)), (7, List.replicate k (0 : Rat))]) L := by
    refine hL.of_same fun k' hx => ?_
    rw [sumW_app, sumW_perm (List.reverse_perm rows)]
    have : sumW [(0, List.replicate k (3 : Rat)), (7, List.replicate k (0 : Rat))] k' = 0 := by
      have ne : ¬ List.replicate k (0 : Rat) = k' := fun e => by
        obtain ⟨q, hq, h0⟩ := hx
        rw [← e] at hq
        rw [List.eq_of_mem_replicate hq] at h0
        exact absurd h0 (by decide)
      unfold sumW
      rw [List.filter_cons, List.filter_cons]
      rw [decide_eq_false ne]
      by_cases e : List.replicate k (3 : Rat) = k' <;> simp [e]
    omega
  have := hsame.uniq hL2
  subst this
  refine ⟨rfl, _, rfl, pureF_lf _ (by simp only [pureF, Bool.and_true, Bool.true_and]; exact pure_rows _), hcl, ?_⟩
  walk_at "w"
  obtain ⟨s2, es2⟩ := repX_ok hsh.rep
  refine wO_some (es2 _) ?_
  walk_at "w"
  refine wO_some (es2 _) ?_
  walk_at "w"
  refine o_ne_str (ff_c (by simp) ?_)
  walk_at "w"
  refine e_eqo ?_
  walk_at "w"
  refine wO_some (d := f_Bids____eq__) rfl ?_
  refine ⟨rfl, ?_⟩
  refine s_beq ?_
  refine ⟨true, rfl, ?_⟩
  walk_at "w"
  exact h _ _ _ hp3
theorem plain : ∀ ns : List Int, ns.length ≤ 63 → Mi.run pg 40 f_law [.scr (ns.map .int)] [] = .ok (.bl true) [] := by
  intro ns _
  suffices h : wX (Mi.run pg 40 f_law [.scr (ns.map .int)] []) (fun d S => d = .bl true ∧ S = []) noX by
    obtain ⟨d, S, e, rfl, rfl⟩ := wX_get h
    exact e
  refine run_w i_law rfl rfl rfl ?_
  show wR (evB pg _ b_law [some (.scr (ns.map .int)), none, none, none, none, none, none, none, none, none, none, none, none] []) _
  unfold b_law
  walk_at "w"
  refine s_pen fun p hp => ?_
  walk_at "w"
  refine forL_thru (fun j v S => ∃ p o2 o3 o4 o5 o6 o7 o8 o9 o10 o11 o12 U, v = [some (.scr (ns.map .int)), some (.loc 0), o2, o3, o4, o5, o6, o7, o8, o9, o10, o11, o12] ∧ S = p :: U ∧ (∀ m ∈ U, ∀ n, lfM n m = true) ∧ Pen (1000 * j) p) _ 0 _ _
    ⟨p, _, _, _, _, _, _, _, _, _, _, _, [], rfl, rfl, by simp, hp⟩ (fun _ _ _ _ => rfl) ?_ ?_
  · rintro j x v S hx ⟨p, o2, o3, o4, o5, o6, o7, o8, o9, o10, o11, o12, U, rfl, rfl, hU, hp⟩
    have hj : j < 4 := by
      have := (List.getElem?_eq_some_iff.mp hx).1
      simpa [rngD] using this
    rw [Nat.zero_add] at hp ⊢
    refine step_w ?_
    walk_at "w"
    refine s_draw hp (by omega) (by omega) (by omega) fun r p1 a1 b1 hp1 => ?_
    walk_at "w"
    obtain ⟨k, hk⟩ : ∃ k : Nat, 1 + r = k := ⟨(1 + r).toNat, by omega⟩
    rw [hk]
    refine s_given hp1 (by omega) (by omega) fun rows p2 hp2 hl hg => ?_
    walk_at "w"
    refine s_lplain (k := k) (by omega) (fun r hr => (hg r hr).1) (by omega) (fun r hr q hq => ((hg r hr).2.2 q hq).2) fun L hL => ?_
    walk_at "w"
    refine wO_some (d := MO.lst []) rfl ?_
    walk_at "w"
    have hk' : ∀ r ∈ rows, r.2.length = k := fun r hr => (hg r hr).1
    refine forL_thru (fun i v S => ∃ p o7 o8 o9 xs, v = [some (.scr (ns.map .int)), some (.loc 0), some x, some (.int k), some (.lst (rows.map encR)), some (.tup (L.map encR)), some (.loc (U.length + 1)), o7, o8, o9, o10, o11, o12] ∧ S = p :: (U ++ [MO.lst xs]) ∧ Pen (1000 * j + 101 + 20 * i) p ∧ RowsP (rows.take i) xs) _ 0 _ _
      ⟨p2, _, _, _, [], rfl, by simp, hp2.mono (by omega), .nil⟩ (fun _ _ _ _ => rfl) ?_ ?_
    · rintro i z v S hz ⟨p, o7, o8, o9, xs, rfl, rfl, hp, hR⟩
      rw [Nat.zero_add] at hp hR
      rw [List.getElem?_map] at hz
      obtain ⟨r, hr1, rfl⟩ := Option.map_eq_some_iff.mp hz
      have hrm := List.mem_of_getElem? hr1
      have hil : i < rows.length := (List.getElem?_eq_some_iff.mp hr1).1
      have hxl := hR.len
      rw [List.length_take] at hxl
      refine step_w ?_
      walk_at "w"
      refine lcL_inv (fun m acc S' => ∃ (p' : MO), PqL (r.2.take m) acc ∧ S' = p' :: (U ++ [MO.lst xs]) ∧ Pen (1000 * j + 101 + 20 * i + 3 * m) p') _ 0 [] _ ⟨p, .nil, rfl, hp⟩ (fun _ _ _ _ => rfl) ?_ ?_
      · rintro m y acc S' hy ⟨p', hP, rfl, hp'⟩
        rw [Nat.zero_add] at hP hp'
        rw [List.getElem?_map] at hy
        obtain ⟨q, hq1, rfl⟩ := Option.map_eq_some_iff.mp hy
        have hqm := List.mem_of_getElem? hq1
        have hml : m < r.2.length := (List.getElem?_eq_some_iff.mp hq1).1
        have := hP.len
        rw [List.length_take] at this
        have h3 := hk' r hrm
        refine ⟨by omega, ?_⟩
        walk_at "w"
        refine s_passed hp' (by omega) (((hg r hrm).2.2 q hqm).2.mono (by omega)) fun y p3 hy hp3 => ?_
        refine ⟨p3, ?_, rfl, hp3.mono (by omega)⟩
        rw [Nat.zero_add, take_one hq1]
        exact hP.snoc hy
      · rintro acc S' ⟨p', hP, rfl, hp'⟩
        rw [Nat.zero_add, List.length_map] at hP hp'
        rw [List.take_length] at hP
        have h3 := hk' r hrm
        walk_at "w"
        refine ki_L (S := p' :: U) (xs := xs) rfl ?_
        refine ⟨rfl, ?_⟩
        walk_at "w"
        refine s_pick hp' (by omega) (by simp) (by simp) fun y p3 hy hp3 => ?_
        walk_at "w"
        refine o_appN (S := p3 :: U) rfl (by omega) ?_
        walk_at "w"
        rw [Nat.zero_add]
        refine ⟨p3, _, _, _, xs ++ [y], rfl, by simp, hp3.mono (by omega), ?_⟩
        rw [take_one hr1]
        refine hR.snoc ?_
        simp only [List.mem_cons, List.not_mem_nil, or_false] at hy
        rcases hy with rfl | rfl
        · exact ⟨acc, _, hP, .inl rfl, .inl rfl⟩
        · exact ⟨acc, _, hP, .inr rfl, .inr rfl⟩
    · rintro v S ⟨p, o7, o8, o9, xs, rfl, rfl, hp, hR⟩
      rw [Nat.zero_add, List.length_map] at hR hp
      rw [List.take_length] at hR
      refine ab_nx ?_
      refine lap_w (n := 32) hj (hp.mono (by omega)) (by omega) (by omega) hl hg hL hR hU fun p' o11 o12 hp' => ?_
      refine ⟨p', _, _, _, _, _, _, _, _, _, _, _, U ++ [MO.lst xs], rfl, rfl, fun m hm n => ?_, hp'.mono (by omega)⟩
      rcases List.mem_append.mp hm with hm | hm
      · exact hU m hm n
      · rw [List.mem_singleton.mp hm]; exact pureL_lf xs hR.pure
  · rintro v S ⟨p, o2, o3, o4, o5, o6, o7, o8, o9, o10, o11, o12, U, rfl, rfl, hU, hp⟩
    refine ab_nx ?_
    walk_at "w"
    show wX (fin false [] (.bl true) (p :: U)) _ _
    exact f_drop (S := []) rfl ⟨rfl, rfl⟩
end
end Pr
end
section
set_option linter.all false
set_option maxRecDepth 100000
set_option maxHeartbeats 0
namespace Pr
open PySem PySem.Spec PyProof.Rows L2 Mi
def top (i : Nat) : Stmt := PySem.Challenge.pw_allbids_k03_whole_plain_lists.main.body.getD i (.Pass ⟨0, 0, 0, 0⟩)
def mk (n : Str) (i : Nat) : He.DefD := ⟨(n, none), n, n, defArgs (top i), defBody (top i), defScope (top i), [], []⟩
def mm (c m q : Str) (i j : Nat) : He.DefD := ⟨(c, some m), m, q, defArgs (inClass (top i) j), defBody (inClass (top i) j), defScope (inClass (top i) j), [], []⟩
def fn : List He.DefD := ([mm "BadNumber" "__init__" "BadNumber.__init__" 2 0, mm "BadRow" "__init__" "BadRow.__init__" 3 0, mm "Unlike" "__init__" "Unlike.__init__" 4 0, mk "is_whole" 6, mk "is_ratio" 7, mk "divisor" 8, mk "lowest" 9, mk "told" 10, mk "bottom_of" 11, mk "need_kinds" 14, mk "is_price_row" 15, mk "is_bid" 16, mk "plain_rows" 17, mm "Bids" "__init__" "Bids.__init__" 18 0, mm "Bids" "__eq__" "Bids.__eq__" 18 1, mm "Bids" "__add__" "Bids.__add__" 18 2, mm "Bids" "__neg__" "Bids.__neg__" 18 3, mm "Bids" "__mul__" "Bids.__mul__" 18 4, mm "Bids" "__rmul__" "Bids.__rmul__" 18 5, mk "_law_pen" 20] : List He.DefD) ++ ([mk "_law_draw" 21, mk "_law_pick" 22, mk "_law_gcd" 23, mk "_law_q" 24, mk "_law_less" 25, mk "_law_passed" 26, mk "_law_given" 27, mk "_law_plain" 28, mk "_law_is_ahead" 29, mk "law" 30] : List He.DefD)
def ns : List (List Str) := ([[], [], [], ["value"], ["value"], ["one", "other"], ["top", "bottom", "by"], ["value", "what"], ["ratios", "found", "top", "bottom"], ["kinds"]] : List (List Str)) ++ ([["value", "kinds", "number"], ["value", "kinds"], ["rows", "found", "weight", "numbers", "key", "number", "by", "kept", "order", "top", "bottom", "whole"], ["self", "kinds", "rows", "row"], ["self", "other"], ["self", "other"], ["self", "weight", "numbers"], ["self", "number", "weight", "numbers"], ["self", "number", "weight", "numbers"], ["_law_script", "_law_fold", "_law_cell"]] : List (List Str)) ++ ([["_law_pen_here", "_law_many", "_law_cell", "_law_digit", "_law_mixed"], ["_law_pen_here", "_law_some"], ["_law_one", "_law_two", "_law_lap"], ["_law_top", "_law_bottom", "_law_by"], ["_law_one", "_law_two"], ["_law_pen_here", "_law_ratio", "_law_by"], ["_law_pen_here", "_law_kinds", "_law_rows", "_law_some", "_law_lap", "_law_k"], ["_law_rows", "_law_keys", "_law_found", "_law_weight", "_law_numbers", "_law_at", "_law_lap", "_law_key", "_law_one", "_law_top", "_law_bottom"], ["_law_one", "_law_other", "_law_first", "_law_second"], ["_law_script", "_law_pen_here", "_law_lap", "_law_kinds", "_law_rows", "_law_due", "_law_given_here", "_law_weight", "_law_numbers", "_law_passed_here", "_law_number", "_law_made", "_law_again"]] : List (List Str))
def cl : List Str := (["BidError", "BadNumber", "BadRow", "Unlike", "Bids"] : List Str)
def gn : List Str := (["BidError", "BadNumber", "BadRow", "Unlike", "is_whole", "is_ratio", "divisor", "lowest", "told", "bottom_of", "MOST_KINDS", "need_kinds", "is_price_row", "is_bid", "plain_rows", "Bids", "_law_pen", "_law_draw", "_law_pick", "_law_gcd", "_law_q", "_law_less", "_law_passed", "_law_given", "_law_plain", "_law_is_ahead", "law"] : List Str)
def nm : List Str := (["kinds", "rows", "__eq__", "what", "number", "row", "__init__", "__add__", "__neg__", "__mul__", "__rmul__"] : List Str)
def ck : Ck := ⟨pg, gn, nm⟩
def xi : List (Nat × Nat × Str) := [(1, 0, "BidError"), (2, 1, "BidError"), (3, 2, "BidError")]
def hd : Hd := ⟨ck, fn, ns, cl, xi⟩
abbrev R : PySem.W.OpenRow := PySem.W.OpenLaw.row PySem.Challenge.rw_allbids_k03_whole_plain_lists
def lawi : Nat := 30
abbrev hk : PySem.W.Hook := hd.hook 5
def ob (s : PySem.W.SharedT) : He.AlD × Bool := hd.obsG 5 (HandSHeadRun.getT s)
theorem ob_eq (s : PySem.W.SharedT) : ob s = hk.obs s.abs := Hd.obsG_eq (HandSHeadRun.getT_eq s)
def loose : List Str := (["BidError", "BadNumber", "BadRow", "Unlike", "is_whole", "is_ratio", "divisor", "lowest", "told", "bottom_of", "MOST_KINDS", "need_kinds", "is_price_row", "is_bid", "plain_rows", "Bids", "_law_pen", "_law_draw", "_law_pick", "_law_gcd", "_law_q", "_law_less", "_law_passed", "_law_given", "_law_plain", "_law_is_ahead"] : List Str)
theorem txt : hd.txt = true := by decide +kernel
theorem run (w : World) : HandSHeadRun.RunEq R (PySem.W.view R.prog [30]) hk ob 6000 loose w := by
  intro os
  kernel_rfl
end Pr
end
section
open PySem PySem.W PySem.Calls PyProof.Rows Mi
set_option maxRecDepth 100000
set_option maxHeartbeats 0
theorem PySem.Challenge.cw_allbids_k03_whole_plain_lists_holds : PySem.Challenge.rw_allbids_k03_whole_plain_lists.Holds := by
  w_on; o_law
  refine HandSHeadRun.head_any (r := OpenLaw.row PySem.Challenge.rw_allbids_k03_whole_plain_lists) (q := view (OpenLaw.row PySem.Challenge.rw_allbids_k03_whole_plain_lists).prog [30]) (H := Pr.hk) (ob := Pr.ob) (M := 6000) (loose := Pr.loose) (d := HandSHeadRun.topDef (OpenLaw.row PySem.Challenge.rw_allbids_k03_whole_plain_lists).prog 30) (kwd := []) Pr.ob_eq
    (by kernel_rfl) (fun s => by kernel_rfl) Pr.run (by kernel_rfl) (by kernel_rfl) (by kernel_rfl) (by rfl) (by first | assumption | decide +kernel) (by decide +kernel) ⟨rfl, rfl, rfl, rfl, rfl, by decide +kernel⟩ ?hw ?hc
  case hw => w_witness2
  case hc => exact Mi.walkM (h := Pr.hd) (m := 63) (n := 40) (st := 5) (f := 29) rfl (by decide) (by kernel_rfl) ⟨rfl, by decide, by decide⟩ Pr.txt (by kernel_rfl) Pr.plain
end
