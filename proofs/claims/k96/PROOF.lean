import PyProof.Rows.All
import Wide.All
import OpenK.AllK
import Wide.FinOn
import HandS.ForMost
import HandS.Lambda
import KE.DataFind
import KE.KDictKeyed
import KE.SortData
import HandS.ForExc
import HandS.TryMany
import HandS.TupAny
import HandS.Deep
import HandS.SortInts
import HandS.Conv
import HandS.IsInst
import HandS.Zip
import HandS.RevTup
import HandS.TupLen
import HandS.Style
import HandS.Flow
import HandS.Wide
import HandS.Defaults
import HandS.ExcInit
import PyProof.ReprRoads
import HandS.TupMul
import KE.KDictPairs
import KE.GoesNew
import HandS.ExcField
import HandS.EndTab
import HandS.HeadWalk
import HandS.HeadHook4
import KE.KStateDown
import HandS.Base
import HandS.Call
import HandS.Ends
import HandS.More
import HandS.Words
import HandS.WordsExc
import HandS.Head0
import HandS.Head1
import HandS.Head2
import HandS.HeadEnd
import HandS.HeadHook1
import HandS.HeadHook2
import HandS.HeadHook3
import PyProof.FitsInt
import PyProof.StrLawsRepr
import PySem.Challenge.RW_surehues_k96_whole_ties_by_turns
/-! VM00: the evaluator's data, its syntax, and what it does. Plain Lean: no program in sight. -/
namespace VM
open PySem L2

/-! ### data -/
inductive D where
  | non | bl (b : Bool) | int (i : Int) | str (x : Str)
  | tup (xs : List D) | lst (xs : List D) | rol (xs : List D)
  | dK (kvs : List (Key × D)) | dN (kvs : List (NestedKey × D))
  | fn (i : Nat) | hnd (n : Nat) | prs (xs : List D)
  deriving Inhabited
/-- what a slot holds -/
inductive C where
  | un | sh (d : D) | ow (d : D) | hd (n : Nat) | clo (l : Nat) (snap : List C) | ex (fs : List (Str × D))
  deriving Inhabited
structure S where
  sl : List C
  om : List D
  deriving Inhabited
inductive Out (α : Type) where
  | ok (a : α) (s : S) | exc (k : Nat) (fs : List (Str × D)) (s : S) | bad
  deriving Inhabited
def Out.bind {α β : Type} : Out α → (α → S → Out β) → Out β
  | .ok a s, f => f a s
  | .exc k fs s, _ => .exc k fs s
  | .bad, _ => .bad
def Out.ofO {α : Type} (s : S) : Option α → Out α
  | some a => .ok a s
  | none => .bad

/-! ### operations on data -/
mutual
def toP : D → Option PyData
  | .non => some .none
  | .bl b => some (.bool b)
  | .int i => some (.int i)
  | .str x => some (.str x)
  | .tup xs => (toPs xs).map .tuple
  | .lst xs => (toPs xs).map .list
  | _ => none
def toPs : List D → Option (List PyData)
  | [] => some []
  | d :: ds => match toP d with
    | none => none
    | some p => (toPs ds).map (p :: ·)
end
def eqD (d e : D) : Option Bool := match toP d, toP e with
  | some p, some q => if SeqAt.shaped p && SeqAt.shaped q then some (PyData.eqv p q) else none
  | _, _ => none
def inD (d e : D) : Option Bool := match e with
  | .lst ds | .tup ds => (match toP d, toPs ds with
    | some p, some qs => if SeqAt.shaped p && SeqAt.shaped (.list qs) then some (qs.any fun z => PyData.eqv z p) else none
    | _, _ => none)
  | _ => none
def intsOf : List D → Option (List Int)
  | [] => some []
  | .int i :: ds => (intsOf ds).map (i :: ·)
  | _ => none
def boolsOf : List D → Option (List Bool)
  | [] => some []
  | .bl i :: ds => (boolsOf ds).map (i :: ·)
  | _ => none
def keyOf : D → Option Key
  | .int i => some (.inl i)
  | .str x => some (.inr x)
  | _ => none
mutual
/-- a key of any depth -/
def keyN : D → Option NestedKey
  | .non => some .none
  | .int i => some (.num i)
  | .str x => some (.text x)
  | .tup xs => (keyNs xs).map .tup
  | _ => none
def keyNs : List D → Option (List NestedKey)
  | [] => some []
  | d :: ds => match keyN d with
    | none => none
    | some k => (keyNs ds).map (k :: ·)
end
/-- a tuple that is a key -/
def keyT : D → Option NestedKey
  | .tup xs => (match keyNs xs with
    | none => none
    | some ks => if NestedKey.depthAll ks < 8 then some (.tup ks) else none)
  | _ => none
def kD : Key → D
  | .inl i => .int i
  | .inr x => .str x
mutual
def nD : NestedKey → D
  | .none => .non
  | .num i => .int i
  | .text x => .str x
  | .tup ks => .tup (nDs ks)
def nDs : List NestedKey → List D
  | [] => []
  | k :: ks => nD k :: nDs ks
end
def valD {κ : Type} [DecidableEq κ] (kvs : List (κ × D)) (k : κ) : Option D := (kvs.find? fun kv => decide (kv.1 = k)).map (·.2)
def putD {κ : Type} [DecidableEq κ] (kvs : List (κ × D)) (k : κ) (v : D) : List (κ × D) :=
  if (kvs.any fun kv => decide (kv.1 = k)) = true then kvs.map (fun kv => if kv.1 = k then (kv.1, v) else kv) else kvs ++ [(k, v)]
/-- d[k], k in d: none if it is no dict or no key of it -/
def dictGet (d k : D) : Option (Option D) := match d with
  | .dK kvs => (keyOf k).map (valD kvs)
  | .dN kvs => (keyT k).map (valD kvs)
  | _ => none
def dictPut (d k v : D) : Option D := match d with
  | .dK kvs => if kvs.length < sizeLine then (keyOf k).map fun k => .dK (putD kvs k v) else none
  | .dN kvs => if kvs.length < sizeLine then (keyT k).map fun k => .dN (putD kvs k v) else none
  | _ => none
def truth : D → Option Bool
  | .non => some false
  | .bl b => some b
  | .int i => some (i != 0)
  | .str x => if x.length ≤ sizeLine then some ((x.length : Int) != 0) else none
  | .tup xs => some (!xs.isEmpty)
  | .lst xs => some (!xs.isEmpty)
  | .dK kvs => some (!kvs.isEmpty)
  | _ => none
def small (i : Int) : Bool := decide (-(2 ^ 64) < i ∧ i < 2 ^ 64)
def ltInts : List Int → List Int → Bool
  | [], [] => false
  | [], _ :: _ => true
  | _ :: _, [] => false
  | x :: xs, y :: ys => if x = y then ltInts xs ys else decide (x < y)
def ltD : D → D → Option Bool
  | .int i, .int j => some (decide (i < j))
  | .tup xs, .tup ys => (match intsOf xs, intsOf ys with
    | some is, some js => some (ltInts is js)
    | _, _ => none)
  | _, _ => none
def cutD (xs : List D) (lo hi : Option Int) : List D := (xs.drop (HT.sIx xs.length 0 lo)).take (HT.sIx xs.length xs.length hi - HT.sIx xs.length 0 lo)
/-- the sum of two values; true: a new list -/
def addD : D → D → Option C
  | .int i, .int j => some (.sh (.int (i + j)))
  | .str x, .str y => if x.length + y.length ≤ sizeLine then some (.sh (.str (x ++ y))) else none
  | .lst xs, .lst ys => if xs.length + ys.length ≤ sizeLine then some (.ow (.lst (xs ++ ys))) else none
  | .tup xs, .tup ys => if xs.length + ys.length ≤ sizeLine then some (.sh (.tup (xs ++ ys))) else none
  | _, _ => none
def mulD : D → D → Option C
  | .int i, .int j => if small i || small j then some (.sh (.int (i * j))) else none
  | .lst xs, .int k => if decide (-(2 ^ 63) ≤ k) && decide (k < 2 ^ 63) && decide (xs.length * k.toNat ≤ sizeLine) then some (.ow (.lst (List.replicate k.toNat xs).flatten)) else none
  | .tup xs, .int k => if decide (-(2 ^ 63) ≤ k) && decide (k < 2 ^ 63) && decide (xs.length * k.toNat ≤ sizeLine) then some (.sh (.tup (List.replicate k.toNat xs).flatten)) else none
  | _, _ => none
def binD (op : Operator) (d e : D) : Option C := match op with
  | .Add => addD d e
  | .Mult => mulD d e
  | .Sub => (match d, e with
    | .int i, .int j => some (.sh (.int (i - j)))
    | _, _ => none)
  | .FloorDiv => (match d, e with
    | .int i, .int j => if decide (j ≠ 0) && decide (j.natAbs < 1073741824) then some (.sh (.int (i.fdiv j))) else none
    | _, _ => none)
  | .Mod => (match d, e with
    | .int i, .int j => if decide (j ≠ 0) then some (.sh (.int (i.fmod j))) else none
    | _, _ => none)
  | .Pow => (match d, e with
    | .int i, .int j => if decide (0 ≤ j) && decide (j ≤ 1000000) && decide (i.natAbs < 2 ^ 64) then some (.sh (.int (i ^ j.toNat))) else none
    | _, _ => none)
  | _ => none
def cmpD (op : CmpOp) (d e : D) : Option Bool := match op with
  | .Eq => eqD d e
  | .NotEq => (eqD d e).map (!·)
  | .Lt => ltD d e
  | .Gt => (match d, e with
    | .int i, .int j => some (decide (j < i))
    | _, _ => none)
  | .LtE => (match d, e with
    | .int i, .int j => some (decide (i ≤ j))
    | _, _ => none)
  | .GtE => (match d, e with
    | .int i, .int j => some (decide (j ≤ i))
    | _, _ => none)
  | .In => (match e with
    | .dK _ | .dN _ => (dictGet e d).map (·.isSome)
    | _ => inD d e)
  | .Is => (match d, e with
    | .bl a, .bl b => some (decide (a = b))
    | _, _ => none)
  | .IsNot => (match d, e with
    | .bl a, .bl b => some (!decide (a = b))
    | _, _ => none)
  | .NotIn => (match e with
    | .dK _ | .dN _ => (dictGet e d).map (!·.isSome)
    | _ => (inD d e).map (!·))
def idxD (d i : D) : Option D := match d with
  | .lst xs | .tup xs => (match i with
    | .int k => atI xs k
    | _ => none)
  | .str z => (match i with
    | .int k => if z.length ≤ sizeLine then (atI z.cps.toList k).map fun c => .str ⟨#[c]⟩ else none
    | _ => none)
  | .dK _ | .dN _ => (dictGet d i).bind id
  | _ => none
def lenD : D → Option Nat
  | .lst xs | .tup xs | .rol xs => some xs.length
  | .str x => if x.length ≤ sizeLine then some x.length else none
  | .dK kvs => some kvs.length
  | .dN kvs => some kvs.length
  | _ => none

/-! ### syntax -/
inductive Ty where
  | int | bool | str | list | tuple
  deriving DecidableEq
inductive Bi where
  | len | min2 | max2 | int1 | dict1 | list1 | listR | tuple1 | tupR | sorted | sum | all | any | repr
  deriving DecidableEq
inductive Me where
  | append | extend | pop0 | pop1
  deriving DecidableEq
/-- methods that only look -/
inductive Lm where
  | count | get
  deriving DecidableEq
mutual
inductive ME where
  | slot (i : Nat) | const (d : D) | glob (i : Nat)
  | bin (op : Operator) (a b : ME) | neg (a : ME)
  | not (a : ME) | and (a b : ME) | or (a b : ME)
  | cmp (op : CmpOp) (a b : ME) | isN (a : ME) | notN (a : ME)
  | ife (t a b : ME)
  | idx (a i : ME) | slc (a : ME) (lo hi : Option ME) | rev (a : ME)
  | lst (es : List ME) | tup (es : List ME) | dnew (tk : Bool) | disp (ks : List Str) (es : List ME)
  | call (f : Nat) (es : List ME) | callv (i : Nat) (ok : List Nat) (es : List ME)
  | bi (b : Bi) (es : List ME) | isi (e : ME) (ty : Ty)
  | meth (m : Me) (o : ME) (es : List ME)
  | att (i : Nat) (f : Str)
  | lc (e : ME) (tg : MG) (it : MI) (ifs : List ME) (vs : List Nat)
  | lc2 (e : ME) (tg : MG) (it : MI) (ifs : List ME) (tg1 : MG) (it1 : MI) (ifs1 : List ME) (vs vs1 : List Nat)
  | met (hs : List (List Nat × Str × List Str)) (a : ME) | brw (i : Nat) | alc (a : ME) | lm (m : Lm) (o : ME) (es : List ME)
inductive MG where
  | nm (i : Nat) | tp (gs : List MG)
inductive MI where
  | seq (e : ME) | rng1 (e : ME) | rng2 (a b : ME) | zip (a b : ME) | enum (e : ME)
end
inductive MS where
  | asg (g : MG) (e : ME) | par (is : List Nat) (es : List ME) | setI (o i e : ME)
  | aug (i : Nat) (op : Operator) (e : ME)
  | expr (e : ME) | ife (t : ME) (a b : List MS) | for (g : MG) (it : MI) (b : List MS) | whl (t : ME) (b : List MS)
  | ret (e : ME) | retN | raise (c : Nat) (es : List ME) | tryh (b : List MS) (hs : List (Nat × Nat × List MS)) | brk | cont | pass | bad
end VM

/-! VM01: what the evaluator does. -/
namespace VM
open PySem L2

/-- what a call comes to -/
inductive Rs where
  | ok (c : C) (om : List D) | exc (k : Nat) (fs : List (Str × D)) (om : List D) | bad
  deriving Inhabited
/-- what a statement comes to -/
inductive SO where
  | nx (s : S) | rt (c : C) (s : S) | bk (s : S) | ct (s : S) | exc (k : Nat) (fs : List (Str × D)) (s : S) | bad
  deriving Inhabited
/-- the calls of defs and lambdas, by number -/
abbrev Cm := Nat → List C → List D → Rs

def C.d? : C → Option D
  | .sh d => some d
  | .ow d => some d
  | _ => none
def S.get (s : S) (i : Nat) : C := s.sl.getD i .un
def S.put (s : S) (i : Nat) (c : C) : S := { s with sl := s.sl.set i c }
/-- try: return a() / except C as e: return (text, e.f, ..) -/
def fldsOf (fs : List (Str × D)) : List Str → Option (List D)
  | [] => some []
  | f :: r => match fs.lookup f with
    | none => none
    | some d => (fldsOf fs r).map (d :: ·)
def metOf (hs : List (List Nat × Str × List Str)) : Out C → Out C
  | .ok c s => .ok c s
  | .bad => .bad
  | .exc k fs s => match hs.find? fun h => h.1.contains k with
    | none => .bad
    | some h => match fldsOf fs h.2.2 with
      | none => .bad
      | some ds => .ok (.sh (.tup (.str h.2.1 :: ds))) s
/-- a value that is only looked at: a datum, or the place of a root -/
inductive PV where
  | val (d : D) | slot (i : Nat) | hnd (n : Nat)
  deriving Inhabited
def PV.de (s : S) : PV → Option D
  | .val d => some d
  | .slot i => (s.get i).d?
  | .hnd n => s.om[n]?
/-- a handle is looked at where it stands -/
def lkV : D → PV
  | .hnd n => .hnd n
  | d => .val d
def keepV : PV → S → Out C
  | .val d, s => .ok (.sh d) s
  | .hnd n, s => .ok (.sh (.hnd n)) s
  | _, _ => .bad
def truthV : D → Option Bool
  | .dK _ => none
  | d => truth d
def isL : Option D → Bool
  | some (.lst _) => true
  | _ => false
/-- the root at a place is changed -/
def PV.up (s : S) (d : D) : PV → Option S
  | .val _ => none
  | .slot i => match s.get i with
    | .ow _ => some (s.put i (.ow d))
    | _ => none
  | .hnd n => some { s with om := s.om.set n d }
def readSlot (s : S) (i : Nat) : Out C := match s.get i with
  | .sh d => .ok (.sh d) s
  | .ow d => .ok (.sh d) (s.put i (.sh d))
  | .clo l sn => .ok (.clo l sn) s
  | _ => .bad
def peekSlot (s : S) (i : Nat) : Out PV := match s.get i with
  | .sh d => .ok (lkV d) s
  | .ow _ => .ok (.slot i) s
  | .hd n => .ok (.hnd n) s
  | _ => .bad
/-- the slot's root goes among the handles -/
def borrow (s : S) (i : Nat) : Out C := match s.get i with
  | .hd n => .ok (.hd n) s
  | .ow d => .ok (.hd s.om.length) { sl := s.sl.set i (.hd s.om.length), om := s.om ++ [d] }
  | _ => .bad
def tyD (d : D) (t : Ty) : Option Bool := match d with
  | .non => some false
  | .bl _ => some (t = .bool || t = .int)
  | .int _ => some (t = .int)
  | .str _ => some (t = .str)
  | .tup _ => some (t = .tuple)
  | .lst _ => some (t = .list)
  | .rol _ => some (t = .list)
  | _ => none
def insertI (x : Int) : List Int → List Int
  | [] => [x]
  | y :: ys => if x ≤ y then x :: y :: ys else y :: insertI x ys
def sortI : List Int → List Int
  | [] => []
  | x :: xs => insertI x (sortI xs)
def sumI : List Int → Int
  | [] => 0
  | x :: xs => x + sumI xs
def rngD (a b : Int) : List D := (List.range (b - a).toNat).map fun (i : Nat) => .int (a + (i : Int))
def inRng (i : Int) : Bool := decide (-(2 ^ 62) ≤ i) && decide (i < 2 ^ 62)
def reprD (d : D) : Option C := match toP d with
  | some p => if p.showable && decide (p.shown.length ≤ sizeLine) && decide (p.depth ≤ 32) then some (.sh (.str p.shown)) else none
  | none => none
/-- pairs whose first ones are keys -/
def pairsK : List D → Option (List (Key × D))
  | [] => some []
  | .tup [k, v] :: ds => (match keyOf k with
    | none => none
    | some k => (pairsK ds).map ((k, v) :: ·))
  | _ => none
def pairsN : List D → Option (List (NestedKey × D))
  | [] => some []
  | .tup [k, v] :: ds => (match keyT k with
    | none => none
    | some k => (pairsN ds).map ((k, v) :: ·))
  | _ => none
def putAll' {κ : Type} [DecidableEq κ] (acc : List (κ × D)) (kvs : List (κ × D)) : List (κ × D) := kvs.foldl (fun r p => putD r p.1 p.2) acc
def dictOf (ds : List D) : Option C := match pairsK ds with
  | some kvs => some (.ow (.dK (putAll' [] kvs)))
  | none => (pairsN ds).map fun kvs => .ow (.dN (putAll' [] kvs))
/-! ### data in order -/
def pdD (d : D) : PyData := (toP d).getD .none
/-- x comes ahead of y, or they are as one -/
def leD (x y : D) : Bool := !PySem.W.dataLt (pdD y) (pdD x)
def insD (x : D) : List D → List D
  | [] => [x]
  | y :: ys => if leD x y = true then x :: y :: ys else y :: insD x ys
def sortDD : List D → List D
  | [] => []
  | x :: xs => insD x (sortDD xs)
def isTupC : PyData → Bool
  | .tuple (_ :: _) => true
  | _ => false
def isFlat : PyData → Bool
  | .tuple _ => false
  | .none => false
  | _ => true
def sortOkP (ps : List PyData) : Bool := (ps.all fun p => SeqAt.shaped p && ps.all fun q => PySem.W.alike p q) && (ps.all isTupC || ps.all isFlat)
def sortD (xs : List D) : Option C := match intsOf xs with
  | some is => some (.ow (.lst ((sortI is).map .int)))
  | none => (match toPs xs with
    | some ps => if sortOkP ps = true then some (.ow (.lst (sortDD xs))) else none
    | none => none)
/-- a built-in function's answer -/
def biD (b : Bi) (ds : List D) : Option C := match b, ds with
  | .len, [d] => (lenD d).map fun (n : Nat) => .sh (.int (n : Int))
  | .min2, [.int i, .int j] => some (.sh (.int (if j < i then j else i)))
  | .max2, [.int i, .int j] => some (.sh (.int (if j > i then j else i)))
  | .int1, [.int i] => some (.sh (.int i))
  | .dict1, [.lst xs] => dictOf xs
  | .list1, [.lst xs] => some (.ow (.lst xs))
  | .list1, [.rol xs] => some (.ow (.lst xs))
  | .list1, [.tup xs] => some (.ow (.lst xs))
  | .listR, [.int n] => if inRng n && decide (n ≤ 16777216) then some (.ow (.lst (rngD 0 n))) else none
  | .tupR, [.int n] => if inRng n && decide (n ≤ 16777216) then some (.sh (.tup (rngD 0 n))) else none
  | .tuple1, [.lst xs] => some (.sh (.tup xs))
  | .tuple1, [.tup xs] => some (.sh (.tup xs))
  | .sorted, [.lst xs] => sortD xs
  | .sorted, [.tup xs] => (intsOf xs).map fun is => .ow (.lst ((sortI is).map .int))
  | .sum, [.lst xs] => (intsOf xs).map fun is => .sh (.int (sumI is))
  | .all, [.lst xs] => (boolsOf xs).map fun bs => .sh (.bl (bs.all id))
  | .any, [.lst xs] => (boolsOf xs).map fun bs => .sh (.bl (bs.any id))
  | .repr, [.lst xs] => reprD (.lst xs)
  | .repr, [.tup xs] => reprD (.tup xs)
  | _, _ => none
/-- a method that changes its root: the answer, the new root -/
def meD (m : Me) (d : D) (as : List D) : Option (D × D) := match m, d, as with
  | .append, .lst xs, [a] => if xs.length < sizeLine then some (.non, .lst (xs ++ [a])) else none
  | .extend, .lst xs, [.lst ys] => if xs.length + ys.length ≤ sizeLine then some (.non, .lst (xs ++ ys)) else none
  | .pop0, .lst xs, [] => xs.getLast?.map fun a => (a, .lst xs.dropLast)
  | .pop1, .lst xs, [.int i] => if decide (-(2 ^ 63) ≤ i) && decide (i < 2 ^ 63) then (seqIndex? i xs.length).bind fun k => xs[k]?.map fun a => (a, .lst (xs.eraseIdx k)) else none
  | _, _, _ => none
def setD (d i v : D) : Option D := match d with
  | .lst xs => (match i with
    | .int k => (ixN xs.length k).map fun j => .lst (xs.set j v)
    | _ => none)
  | _ => dictPut d i v
def zipD : List D → List D → List D
  | x :: xs, y :: ys => .prs [x, y] :: zipD xs ys
  | _, _ => []
def enumD (k : Nat) : List D → List D
  | [] => []
  | x :: xs => .prs [.int k, x] :: enumD (k + 1) xs
def seqD : D → Option (List D)
  | .lst xs | .tup xs => some xs
  | _ => none
def zipDD (d e : D) : Option (List D) := match seqD d, seqD e with
  | some xs, some ys => some (zipD xs ys)
  | _, _ => none
def enumDD (d : D) : Option (List D) := (seqD d).map (enumD 0)
def itemsD : D → Option (List D)
  | .lst xs | .tup xs | .rol xs => some xs
  | .dK kvs => some (kvs.map fun kv => kD kv.1)
  | .dN kvs => some (kvs.map fun kv => nD kv.1)
  | _ => none
/-- a new root goes among the handles -/
def allocO : Out C → Out C
  | .ok (.ow d) s => .ok (.sh (.hnd s.om.length)) { s with om := s.om ++ [d] }
  | .exc k fs s => .exc k fs s
  | _ => .bad
/-- how often an item stands in a list or a tuple -/
def cntL (ds : List D) (a : List D) : Option C := match a with
  | [e] => (match toP e, toPs ds with
    | some p, some qs => if PyData.plainAll qs && p.plain && decide (PyData.depthAll qs ≤ 60) then some (.sh (.int ((qs.countP fun y => PyData.eqv y p : Nat) : Int))) else none
    | _, _ => none)
  | _ => none
/-- the kind of a receiver -/
def tag : D → Nat
  | .lst _ => 1
  | .tup _ => 2
  | .dK _ => 3
  | .dN _ => 3
  | .str _ => 4
  | _ => 0
def hasM (m : Lm) (t : Nat) : Bool := match m with
  | .count => t == 1 || t == 2
  | .get => t == 3
def getL (d : D) (as : List D) : Option C := match as with
  | [k] => (dictGet d k).map fun o => .sh (o.getD .non)
  | [k, x] => (dictGet d k).map fun o => .sh (o.getD x)
  | _ => none
/-- what a method tells that only looks -/
def lmD (m : Lm) (d : D) (as : List D) : Option C := match m with
  | .count => (match d with
    | .lst ds | .tup ds => cntL ds as
    | _ => none)
  | .get => getL d as
def tagO (o : Option D) : Nat := match o with
  | some d => tag d
  | none => 0
def lmF (m : Lm) (fo : S → Out PV) (fs : S → Out (List D)) : S → Out C := fun s => (fo s).bind fun x s => match hasM m (tagO (x.de s)) with
  | false => .bad
  | true => (fs s).bind fun a s' => Out.ofO s' ((x.de s').bind fun d => if tag d == tagO (x.de s) then lmD m d a else none)
/-- a name is stored -/
def putC (s : S) (i : Nat) (c : C) : Option S := match c with
  | .sh _ => if i < s.sl.length then some (s.put i c) else none
  | .ow _ => if i < s.sl.length then some (s.put i c) else none
  | _ => none
mutual
def asgC : MG → C → S → Option S
  | .nm i, c, s => putC s i c
  | .tp gs, c, s => match c with
    | .sh (.tup ds) => asgDs gs ds s
    | .sh (.prs ds) => asgDs gs ds s
    | _ => none
def asgDs : List MG → List D → S → Option S
  | [], [], s => some s
  | g :: gs, d :: ds, s => (asgC g (.sh d) s).bind (asgDs gs ds)
  | _, _, _ => none
end
def wipeC (sl : List C) : List Nat → List C
  | [] => sl
  | v :: vs => (wipeC sl vs).set v .un
/-- a comprehension's turns -/
def lcLoop (turn : D → List D → S → Out (List D)) : List D → List D → S → Out (List D)
  | [], acc, s => .ok acc s
  | d :: ds, acc, s => (turn d acc s).bind fun acc s => lcLoop turn ds acc s
def pushD (acc : List D) (d : D) : Option (List D) := if acc.length < sizeLine then some (acc ++ [d]) else none

def fromRs (s : S) : Rs → Out C
  | .ok (.sh d) om => .ok (.sh d) { s with om := om }
  | .ok (.ow d) om => .ok (.ow d) { s with om := om }
  | .ok _ _ => .bad
  | .exc k fs om => .exc k fs { s with om := om }
  | .bad => .bad
/-- what an expression does: its value kept; its truth; its value looked at -/
structure Bn where
  e : S → Out C
  t : S → Out Bool
  p : S → Out PV
def pOf (f : S → Out C) : S → Out PV := fun s => (f s).bind fun c s => match c.d? with
  | some d => .ok (lkV d) s
  | none => .bad
def tOf (p : S → Out PV) : S → Out Bool := fun s => (p s).bind fun x s => Out.ofO s ((x.de s).bind truth)
def Bn.of (f : S → Out C) : Bn := ⟨f, tOf (pOf f), pOf f⟩
/-- a datum that is kept -/
def Bn.d (b : Bn) : S → Out D := fun s => (b.e s).bind fun c s => match c.d? with
  | some d => .ok d s
  | none => .bad
def dsOf : List Bn → S → Out (List D)
  | [], s => .ok [] s
  | b :: bs, s => (b.d s).bind fun x s => (dsOf bs s).bind fun xs s => .ok (x :: xs) s
def psOf : List Bn → S → Out (List PV)
  | [], s => .ok [] s
  | b :: bs, s => (b.p s).bind fun x s => (psOf bs s).bind fun xs s => .ok (x :: xs) s
/-- values that are stored: what is new stays a root -/
def csOf : List Bn → S → Out (List C)
  | [], s => .ok [] s
  | b :: bs, s => (b.e s).bind fun c s => match c with
    | .ow d => (csOf bs s).bind fun cs s => .ok (.ow d :: cs) s
    | .sh d => (csOf bs s).bind fun cs s => .ok (.sh d :: cs) s
    | _ => .bad
/-- arguments -/
def asOf : List Bn → S → Out (List C)
  | [], s => .ok [] s
  | b :: bs, s => (b.e s).bind fun c s => match c with
    | .ow d => (asOf bs s).bind fun cs s => .ok (.sh d :: cs) s
    | .un => .bad
    | .ex _ => .bad
    | c => (asOf bs s).bind fun cs s => .ok (c :: cs) s
def ifsOf : List Bn → S → Out Bool
  | [], s => .ok true s
  | [b], s => b.t s
  | _, _ => .bad
def intOf : Option Bn → S → Out (Option Int)
  | none, s => .ok none s
  | some b, s => (b.d s).bind fun d s => match d with
    | .int i => .ok (some i) s
    | _ => .bad
def deAll (s : S) : List PV → Option (List D)
  | [] => some []
  | x :: xs => match x.de s with
    | none => none
    | some d => (deAll s xs).map (d :: ·)
/-- the names of a block are forgotten; what they held is shared, and comes back behind it -/
def shareAll (s : S) : List Nat → S
  | [] => s
  | v :: vs => match s.get v with
    | .ow d => shareAll (s.put v (.sh d)) vs
    | _ => shareAll s vs
def backC (sl old : List C) : List Nat → List C
  | [] => sl
  | v :: vs => (backC sl old vs).set v (old.getD v .un)
/-- no exception leaves -/
def noX {α : Type} : Out α → Out α
  | .ok a s => .ok a s
  | _ => .bad
def lcTurn (e : Bn) (tg : MG) (ifs : List Bn) (vs : List Nat) (d : D) (acc : List D) (s : S) : Out (List D) := match asgC tg (.sh d) s with
  | none => .bad
  | some s => (ifsOf ifs s).bind fun b s => match b with
    | false => .ok acc { s with sl := wipeC s.sl vs }
    | true => (e.d s).bind fun d s => match pushD acc d with
      | none => .bad
      | some acc => .ok acc { s with sl := wipeC s.sl vs }
def lcOf (e : Bn) (tg : MG) (it : S → Out (List D)) (ifs : List Bn) (vs : List Nat) (s : S) : Out C :=
  (it s).bind fun ds s1 => let s := shareAll s1 vs
    (noX (lcLoop (lcTurn e tg ifs vs) ds [] { s with sl := wipeC s.sl vs })).bind fun ds s' => .ok (.ow (.lst ds)) { s' with sl := backC s'.sl s.sl vs }
def lc2Turn (e : Bn) (tg : MG) (ifs : List Bn) (tg1 : MG) (it1 : S → Out (List D)) (ifs1 : List Bn) (vs vs1 : List Nat) (d : D) (acc : List D) (s : S) : Out (List D) := match asgC tg (.sh d) s with
  | none => .bad
  | some s => (ifsOf ifs s).bind fun b s => match b with
    | false => .ok acc { s with sl := wipeC s.sl vs }
    | true => (it1 s).bind fun ds1 s => (lcLoop (lcTurn e tg1 ifs1 vs1) ds1 acc { s with sl := wipeC s.sl vs1 }).bind fun acc s => .ok acc { s with sl := wipeC s.sl vs }
def lc2Of (e : Bn) (tg : MG) (it : S → Out (List D)) (ifs : List Bn) (tg1 : MG) (it1 : S → Out (List D)) (ifs1 : List Bn) (vs vs1 : List Nat) (s : S) : Out C :=
  (it s).bind fun ds s1 => let s := shareAll s1 vs
    (noX (lcLoop (lc2Turn e tg ifs tg1 it1 ifs1 vs vs1) ds [] { s with sl := wipeC s.sl vs })).bind fun ds s' => .ok (.ow (.lst ds)) { s' with sl := backC s'.sl s.sl vs }
/-- the def that a name holds -/
def fnAt (ok : List Nat) : C → Option Nat
  | .sh (.fn f) => if ok.contains f then some f else none
  | _ => none
section
variable (cm : Cm)
mutual
def ev : ME → Bn
  | .slot i => ⟨fun s => readSlot s i, tOf fun s => peekSlot s i, fun s => peekSlot s i⟩
  | .const d => .of fun s => .ok (.sh d) s
  | .glob i => .of fun s => .ok (.sh (.fn i)) s
  | .brw i => .of fun s => borrow s i
  | .bin op a b => .of fun s => ((ev a).p s).bind fun x s => ((ev b).p s).bind fun y s => Out.ofO s ((x.de s).bind fun d => (y.de s).bind fun e => binD op d e)
  | .neg a => .of fun s => ((ev a).p s).bind fun x s => Out.ofO s ((x.de s).bind fun d => match d with
    | .int i => some (.sh (.int (-i)))
    | _ => none)
  | .not a =>
    let f : S → Out C := fun s => ((ev a).p s).bind fun x s => Out.ofO s ((x.de s).bind fun d => (truthV d).map fun b => .sh (.bl (!b)))
    ⟨f, fun s => ((ev a).t s).bind fun b s => .ok (!b) s, pOf f⟩
  | .and a b =>
    let f : S → Out C := fun s => ((ev a).p s).bind fun x s => match (x.de s).bind truthV with
      | none => .bad
      | some true => (ev b).e s
      | some false => keepV x s
    ⟨f, fun s => ((ev a).t s).bind fun c s => match c with
      | true => (ev b).t s
      | false => .ok false s, pOf f⟩
  | .or a b =>
    let f : S → Out C := fun s => ((ev a).p s).bind fun x s => match (x.de s).bind truthV with
      | none => .bad
      | some false => (ev b).e s
      | some true => keepV x s
    ⟨f, fun s => ((ev a).t s).bind fun c s => match c with
      | true => .ok true s
      | false => (ev b).t s, pOf f⟩
  | .cmp op a b => .of fun s => ((ev a).p s).bind fun x s => ((ev b).p s).bind fun y s => Out.ofO s ((x.de s).bind fun d => (y.de s).bind fun e => (cmpD op d e).map fun b => .sh (.bl b))
  | .isN a => .of fun s => ((ev a).p s).bind fun x s => Out.ofO s ((x.de s).map fun d => .sh (.bl (match d with | .non => true | _ => false)))
  | .notN a => .of fun s => ((ev a).p s).bind fun x s => Out.ofO s ((x.de s).map fun d => .sh (.bl (match d with | .non => false | _ => true)))
  | .ife t a b =>
    let f : S → Out C := fun s => ((ev t).t s).bind fun c s => match c with
      | true => (ev a).e s
      | false => (ev b).e s
    ⟨f, fun s => ((ev t).t s).bind fun c s => match c with
      | true => (ev a).t s
      | false => (ev b).t s, pOf f⟩
  | .idx a i => .of fun s => ((ev a).p s).bind fun x s => ((ev i).p s).bind fun y s => Out.ofO s ((x.de s).bind fun d => (y.de s).bind fun e => (idxD d e).map .sh)
  | .slc a lo hi => .of fun s => ((ev a).p s).bind fun x s => (intOf (evO lo) s).bind fun l s => (intOf (evO hi) s).bind fun u s => Out.ofO s ((x.de s).bind fun d => match d with
    | .lst xs => some (.ow (.lst (cutD xs l u)))
    | .rol xs => some (.ow (.lst (cutD xs l u)))
    | .tup xs => some (.sh (.tup (cutD xs l u)))
    | _ => none)
  | .rev a => .of fun s => ((ev a).p s).bind fun x s => Out.ofO s ((x.de s).bind fun d => match d with
    | .lst xs => some (.ow (.lst xs.reverse))
    | .tup xs => some (.sh (.tup xs.reverse))
    | _ => none)
  | .lst es => .of fun s => (dsOf (evs es) s).bind fun ds s => if ds.length ≤ sizeLine then .ok (.ow (.lst ds)) s else .bad
  | .tup es => .of fun s => (dsOf (evs es) s).bind fun ds s => if ds.length ≤ sizeLine then .ok (.sh (.tup ds)) s else .bad
  | .dnew tk => .of fun s => .ok (.ow (if tk then .dN [] else .dK [])) s
  | .disp ks es => .of fun s => (dsOf (evs es) s).bind fun ds s => .ok (.ow (.dK ((ks.zip ds).foldl (fun r p => putD r (.inr p.1) p.2) []))) s
  | .call f es => .of fun s => (asOf (evs es) s).bind fun cs s => fromRs s (cm f cs s.om)
  | .callv i ok es => .of fun s => match fnAt ok (s.get i) with
    | some f => (asOf (evs es) s).bind fun cs s => fromRs s (cm f cs s.om)
    | none => .bad
  | .bi b es => .of fun s => (psOf (evs es) s).bind fun xs s => Out.ofO s ((deAll s xs).bind fun ds => biD b ds)
  | .isi e ty => .of fun s => ((ev e).p s).bind fun x s => Out.ofO s ((x.de s).bind fun d => (tyD d ty).map fun b => .sh (.bl b))
  | .meth m o es => .of fun s => ((ev o).p s).bind fun x s => match isL (x.de s) with
    | false => .bad
    | true => (dsOf (evs es) s).bind fun ds s => match (x.de s).bind fun d => meD m d ds with
      | none => .bad
      | some (a, d') => match x.up s d' with
        | none => .bad
        | some s => .ok (.sh a) s
  | .att i f => .of fun s => match s.get i with
    | .ex fs => Out.ofO s ((fs.lookup f).map .sh)
    | _ => .bad
  | .lc e tg it ifs vs => .of fun s => lcOf (ev e) tg (evIt it) (evs ifs) vs s
  | .lc2 e tg it ifs tg1 it1 ifs1 vs vs1 => .of fun s => lc2Of (ev e) tg (evIt it) (evs ifs) tg1 (evIt it1) (evs ifs1) vs vs1 s
  | .met hs a => .of fun s => metOf hs ((ev a).e s)
  | .alc a => .of fun s => allocO ((ev a).e s)
  | .lm m o es => .of (lmF m (ev o).p (dsOf (evs es)))
def evs : List ME → List Bn
  | [] => []
  | e :: es => ev e :: evs es
def evO : Option ME → Option Bn
  | none => none
  | some e => some (ev e)
def evIt : MI → S → Out (List D)
  | .seq e, s => ((ev e).d s).bind fun d s => Out.ofO s (itemsD d)
  | .rng1 e, s => ((ev e).d s).bind fun d s => match d with
    | .int n => if inRng n then .ok (rngD 0 n) s else .bad
    | _ => .bad
  | .rng2 a b, s => ((ev a).d s).bind fun d s => ((ev b).d s).bind fun e s => match d, e with
    | .int i, .int j => if inRng i && inRng j then .ok (rngD i j) s else .bad
    | _, _ => .bad
  | .zip a b, s => ((ev a).d s).bind fun d s => ((ev b).d s).bind fun e s => Out.ofO s (zipDD d e)
  | .enum e, s => ((ev e).d s).bind fun d s => Out.ofO s (enumDD d)
end

def augD (op : Operator) (d e : D) : Option C := match d, e with
  | .int i, .int j => (match op with
    | .Add => some (.sh (.int (i + j)))
    | .Sub => some (.sh (.int (i - j)))
    | .Mult => if small i || small j then some (.sh (.int (i * j))) else none
    | _ => none)
  | _, _ => none
def SO.ofOut {α : Type} : Out α → (α → S → SO) → SO
  | .ok a s, f => f a s
  | .exc k fs s, _ => .exc k fs s
  | .bad, _ => .bad
def SO.ofO : Option S → SO
  | some s => .nx s
  | none => .bad
def forLoop (turn : D → S → Option S) (body : S → SO) : List D → S → SO
  | [], s => .nx s
  | d :: ds, s => match turn d s with
    | none => .bad
    | some s => match body s with
      | .nx s => forLoop turn body ds s
      | .ct s => forLoop turn body ds s
      | .bk s => .nx s
      | .rt c s => .rt c s
      | .exc k fs s => .exc k fs s
      | .bad => .bad
def whlLoop (test : S → Out Bool) (body : S → SO) : Nat → S → SO
  | 0, _ => .bad
  | n + 1, s => SO.ofOut (test s) fun b s => match b with
    | false => .nx s
    | true => match body s with
      | .nx s => whlLoop test body n s
      | .ct s => whlLoop test body n s
      | .bk s => .nx s
      | .rt c s => .rt c s
      | .exc k fs s => .exc k fs s
      | .bad => .bad
def WF : Nat := 1000000
def putAll (s : S) : List Nat → List C → Option S
  | [], [] => some s
  | i :: is, c :: cs => (putC s i c).bind fun s => putAll s is cs
  | _, _ => none
variable (flds : Nat → List Str) (exm : Nat → Nat → Bool)
mutual
def exS : MS → S → SO
  | .asg g e, s => SO.ofOut ((ev cm e).e s) fun c s => SO.ofO (asgC g c s)
  | .par is es, s => SO.ofOut (csOf (evs cm es) s) fun cs s => SO.ofO (putAll s is cs)
  | .setI o i e, s => SO.ofOut ((ev cm e).d s) fun v s => SO.ofOut ((ev cm o).p s) fun x s => SO.ofOut ((ev cm i).d s) fun k s =>
    match (x.de s).bind fun d => setD d k v with
    | none => .bad
    | some d => SO.ofO (x.up s d)
  | .aug i op e, s => match s.get i with
    | .sh d => SO.ofOut ((ev cm e).d s) fun e s => match augD op d e with
      | some c => SO.ofO (putC s i c)
      | none => .bad
    | _ => .bad
  | .expr e, s => SO.ofOut ((ev cm e).e s) fun _ s => .nx s
  | .ife t a b, s => SO.ofOut ((ev cm t).t s) fun c s => match c with
    | true => exSs a s
    | false => exSs b s
  | .for g it b, s => SO.ofOut (evIt cm it s) fun ds s => forLoop (fun d s => asgC g (.sh d) s) (fun s => exSs b s) ds s
  | .whl t b, s => whlLoop (fun s => (ev cm t).t s) (fun s => exSs b s) WF s
  | .ret e, s => SO.ofOut ((ev cm e).e s) fun c s => .rt c s
  | .retN, s => .rt (.sh .non) s
  | .raise c es, s => SO.ofOut (dsOf (evs cm es) s) fun ds s => if (flds c).length = ds.length then .exc c ((flds c).zip ds) s else .bad
  | .tryh b hs, s => match exSs b s with
    | .exc k fs s => exHs hs k fs s
    | r => r
  | .brk, s => .bk s
  | .cont, s => .ct s
  | .pass, s => .nx s
  | .bad, _ => .bad
def exSs : List MS → S → SO
  | [], s => .nx s
  | m :: ms, s => match exS m s with
    | .nx s => exSs ms s
    | r => r
def exHs : List (Nat × Nat × List MS) → Nat → List (Str × D) → S → SO
  | [], k, fs, s => .exc k fs s
  | h :: hs, k, fs, s => exH h k fs s (exHs hs k fs s)
def exH : Nat × Nat × List MS → Nat → List (Str × D) → S → SO → SO
  | (c, i, b), k, fs, s, r => if exm k c then (match exSs b (s.put i (.ex fs)) with
      | .nx s => .nx (s.put i .un)
      | .bk s => .bk (s.put i .un)
      | .ct s => .ct (s.put i .un)
      | .rt c s => .rt c (s.put i .un)
      | .exc _ _ _ => .bad
      | .bad => .bad) else r
end
end
end VM

/-! VM02: from the text's syntax to the evaluator's. -/
namespace VM
open PySem L2

inductive GR where
  | fn (i : Nat) | cls (i : Nat) | con (d : D) | free
  deriving Inhabited
def GR.isFn (r : Option GR) (i : Nat) : Bool := match r with
  | some (.fn j) => i == j
  | _ => false
/-- what is known of the names where a piece of text stands -/
structure SC where
  N : List Str
  sc : Scope
  gl : List (Str × GR)
  tk : List Nat
  br : List Str
  /-- no guard is known to stand around -/
  gd : Bool
  /-- the defs that do not ask that -/
  ng : List Nat
  /-- the cells that may be stored to (none: all) -/
  ib : Option (List Str)
  /-- the defs that try what they get -/
  mt : List (Nat × List (List Nat × Str × List Str))
  /-- lambdas may be made -/
  lm : Bool
def visB (c : SC) (x : Str) : Bool := match c.sc.names.lookup x with
  | some .local | some .cell | some .free => true
  | _ => false
def locB (c : SC) (x : Str) : Bool := match c.sc.names.lookup x with
  | some .local => true
  | some .cell => (match c.ib with | none => true | some l => l.contains x)
  | _ => false
def okName (x : Str) : Bool := !(x == ("__debug__" : Str)) && !(x == ("__classdict__" : Str))
def ixOf (x : Str) : List Str → Option Nat
  | [] => none
  | y :: ys => if x == y then some 0 else (ixOf x ys).map (· + 1)
def slotOf (c : SC) (x : Str) : Option Nat := if visB c x && okName x then ixOf x c.N else none
def stoOf (c : SC) (x : Str) : Option Nat := if locB c x then ixOf x c.N else none
def gOf (c : SC) (x : Str) : Option GR := match c.sc.names.lookup x with
  | some .globalImplicit => if okName x then c.gl.lookup x else none
  | _ => none
def isFree (c : SC) (x : Str) : Bool := match gOf c x with
  | some .free => true
  | _ => false
def notStar : Expr → Bool
  | .Starred .. => false
  | _ => true
def notComp : Expr → Bool
  | .ListComp .. | .SetComp .. | .DictComp .. => false
  | _ => true
def notSlice : Expr → Bool
  | .Slice .. => false
  | _ => true
def notCall : Expr → Bool
  | .Call .. => false
  | _ => true
def notSet : Expr → Bool
  | .Set .. => false
  | _ => true
def mapO {α β : Type} (f : α → Option β) : List α → Option (List β)
  | [] => some []
  | a :: as => match f a with
    | none => none
    | some b => (mapO f as).map (b :: ·)
/-- the names of a comprehension's own -/
def ownOf (N : List Str) (scope : Scope) : List (Str × Nat) := scope.names.filterMap fun y => match y.2 with
  | .local | .cell => (ixOf y.1 N).map fun i => (y.1, i)
  | _ => none
def cellsOf (scope : Scope) : List Str := (scope.names.filter fun y => decide (scope.names.lookup y.1 = some .cell)).map (·.1)
def SC.blk (c : SC) (scope : Scope) : SC := { c with sc := relS scope c.sc, ib := some (cellsOf scope), lm := false }
def SC.lam (c : SC) (scope : Scope) : SC := { c with sc := scope, ib := some [], gd := false, lm := false }
mutual
def tgIx : MG → List Nat
  | .nm i => [i]
  | .tp gs => tgIxs gs
def tgIxs : List MG → List Nat
  | [] => []
  | g :: gs => tgIx g ++ tgIxs gs
end
section
variable (rec : SC → Expr → Option ME)
def cArgs (c : SC) (es : List Expr) : Option (List ME) := mapO (fun e => if notStar e then rec c e else none) es
/-- arguments of a def: some names are handed on as roots -/
def cArgB (c : SC) (e : Expr) : Option ME := match e with
  | .Name x _ => if c.br.contains x then (slotOf c x).map .brw else rec c e
  | e => if notStar e then rec c e else none
def cArgsB (c : SC) (es : List Expr) : Option (List ME) := mapO (cArgB rec c) es
def tyOf (x : Str) : Option Ty :=
  if x == ("int" : Str) then some .int else if x == ("bool" : Str) then some .bool else if x == ("str" : Str) then some .str
  else if x == ("list" : Str) then some .list else if x == ("tuple" : Str) then some .tuple else none
def isRange (c : SC) : Expr → Option Expr
  | .Call (.Name r _) [e] [] _ => if r == ("range" : Str) && isFree c r && notStar e then some e else none
  | _ => none
def cBi1 (c : SC) (x : Str) (a : Expr) : Option ME :=
  if x == ("list" : Str) then (match isRange c a with
    | some e => (rec c e).map fun e => .bi .listR [e]
    | none => (cArgs rec c [a]).map (.bi .list1))
  else if x == ("tuple" : Str) then (match isRange c a with
    | some e => (rec c e).map fun e => .bi .tupR [e]
    | none => (cArgs rec c [a]).map (.bi .tuple1))
  else if x == ("len" : Str) then (cArgs rec c [a]).map (.bi .len) else if x == ("int" : Str) then (cArgs rec c [a]).map (.bi .int1)
  else if x == ("sorted" : Str) then (cArgs rec c [a]).map (.bi .sorted) else if x == ("sum" : Str) then (cArgs rec c [a]).map (.bi .sum) else if x == ("all" : Str) then (cArgs rec c [a]).map (.bi .all)
  else if x == ("dict" : Str) then (cArgs rec c [a]).map (.bi .dict1)
  else if x == ("any" : Str) then (cArgs rec c [a]).map (.bi .any) else if x == ("repr" : Str) && c.gd then (cArgs rec c [a]).map (.bi .repr) else none
def nameOf : Expr → Option Str
  | .Name t _ => some t
  | _ => none
def cBi2 (c : SC) (x : Str) (a b : Expr) : Option ME :=
  if x == ("isinstance" : Str) then (match nameOf b with
    | some t => if notStar a && isFree c t then (rec c a).bind fun e => (tyOf t).map (.isi e) else none
    | none => none)
  else if x == ("min" : Str) then (cArgs rec c [a, b]).map (.bi .min2) else if x == ("max" : Str) then (cArgs rec c [a, b]).map (.bi .max2) else none
def cBi (c : SC) (x : Str) (as : List Expr) : Option ME := match as with
  | [a] => cBi1 rec c x a
  | [a, b] => cBi2 rec c x a b
  | _ => none
def lmOf (m : Str) (n : Nat) : Option Lm :=
  if m == ("count" : Str) && n == 1 then some .count else if m == ("get" : Str) && (n == 1 || n == 2) then some .get else none
def cLm (c : SC) (o : Expr) (m : Str) (as : List Expr) : Option ME := match lmOf m as.length with
  | some l => (rec c o).bind fun o => (cArgs rec c as).map (.lm l o)
  | none => none
def cMe (c : SC) (o : Expr) (m : Str) (as : List Expr) : Option ME := match as with
  | [] => if m == ("pop" : Str) then (rec c o).map fun o => .meth .pop0 o [] else none
  | [a] => if m == ("append" : Str) then (rec c o).bind fun o => (cArgs rec c [a]).map (.meth .append o) else if m == ("extend" : Str) then (rec c o).bind fun o => (cArgs rec c [a]).map (.meth .extend o)
    else if m == ("pop" : Str) then (rec c o).bind fun o => (cArgs rec c [a]).map (.meth .pop1 o)
    else cLm rec c o m as
  | _ => cLm rec c o m as
def noArgs (a : Arguments) : Bool := a.posonlyargs.isEmpty && a.args.isEmpty && a.vararg.isNone && a.kwonlyargs.isEmpty && a.kw_defaults.isEmpty && a.kwarg.isNone && a.defaults.isEmpty
def cMet (c : SC) (hs : List (List Nat × Str × List Str)) (as : List Expr) : Option ME := match as with
  | [.Lambda params body scope _] => if c.lm && noArgs params && LamX.lamSB c.sc scope then (rec (c.lam scope) body).map (.met hs) else none
  | _ => none
def cFn (c : SC) (i : Nat) (as : List Expr) : Option ME := match c.mt.lookup i with
  | some hs => cMet rec c hs as
  | none => if c.gd || c.ng.contains i then (cArgsB rec c as).map (.call i) else none
/-- the defs that a name may hold, to be called here -/
def okFn (c : SC) (p : Str × GR) : Option Nat := match p.2 with
  | .fn i => if (c.mt.lookup i).isNone && (c.gd || c.ng.contains i) && GR.isFn (c.gl.lookup p.1) i then some i else none
  | _ => none
def cCall (c : SC) (f : Expr) (as : List Expr) (pos : Pos) : Option ME := match f with
  | .Name x _ => (match gOf c x with
      | some (.fn i) => cFn rec c i as
      | some .free => cBi rec c x as
      | some _ => none
      | none => (slotOf c x).bind fun i => (cArgsB rec c as).map (.callv i (c.gl.filterMap (okFn c))))
  | .Attribute o m apos => if (apos.endLine == pos.line) && notStar o && notCall o then cMe rec c o m as else none
  | _ => none
def cTgs (f : Expr → Option MG) : List Expr → Option (List MG)
  | [] => some []
  | e :: es => match f e with
    | none => none
    | some g => (cTgs f es).map (g :: ·)
def cTg (c : SC) : Nat → Expr → Option MG
  | 0, _ => none
  | n + 1, e => match e with
    | .Name x _ => (stoOf c x).map .nm
    | .Tuple es _ _ => (cTgs (cTg c n) es).map .tp
    | _ => none
/-- what is walked -/
def isTupE : Expr → Bool
  | .Tuple .. => true
  | _ => false
def call1 : Expr → Option (Str × Expr)
  | .Call (.Name x _) [a] [] _ => some (x, a)
  | _ => none
def call2 : Expr → Option (Str × Expr × Expr)
  | .Call (.Name x _) [a, b] [] _ => some (x, a, b)
  | _ => none
def cSeq (c : SC) (e : Expr) : Option MI := if notSet e then (rec c e).map .seq else none
def cIt1 (c : SC) (t : Expr) (x : Str) (a e : Expr) : Option MI :=
  if x == ("range" : Str) && isFree c x && notStar a then (rec c a).map .rng1
  else if x == ("enumerate" : Str) && isFree c x && notStar a && isTupE t then (rec c a).map .enum
  else cSeq rec c e
def cIt2 (c : SC) (t : Expr) (x : Str) (a b e : Expr) : Option MI :=
  if x == ("range" : Str) && isFree c x && notStar a && notStar b then (rec c a).bind fun a => (rec c b).map (.rng2 a)
  else if x == ("zip" : Str) && isFree c x && notStar a && notStar b && isTupE t then (rec c a).bind fun a => (rec c b).map (.zip a)
  else cSeq rec c e
def cIt (c : SC) (t e : Expr) : Option MI := match call1 e with
  | some (x, a) => cIt1 rec c t x a e
  | none => match call2 e with
    | some (x, a, b) => cIt2 rec c t x a b e
    | none => cSeq rec c e
def cIfs (c : SC) (es : List Expr) : Option (List ME) := match es with
  | [] => some []
  | [e] => (rec c e).map fun e => [e]
  | _ => none
/-- an element: a new list stands by itself -/
def cElt (c : SC) (e : Expr) : Option ME := match e with
  | .List [] p => (rec c (.List [] p)).map .alc
  | e => rec c e
def cComp (c : SC) (elt : Expr) (gs : List Comprehension) (scope : Scope) : Option ME :=
  let own := ownOf c.N scope
  let c' := c.blk scope
  let vs := own.map (·.2)
  if blkC c.N c.sc scope own && notStar elt then (match gs with
    | [⟨tg, it, ifs, 0⟩] => (cIt rec c tg it).bind fun it => (cTg c' 9 tg).bind fun tg => (cIfs rec c' ifs).bind fun ifs => if (tgIx tg).all vs.contains then (cElt rec c' elt).map fun e => .lc e tg it ifs vs else none
    | [⟨tg, it, ifs, 0⟩, ⟨tg1, it1, ifs1, 0⟩] => (cIt rec c tg it).bind fun it => (cTg c' 9 tg).bind fun tg => (cIfs rec c' ifs).bind fun ifs =>
      (cIt rec c' tg1 it1).bind fun it1 => (cTg c' 9 tg1).bind fun tg1 => (cIfs rec c' ifs1).bind fun ifs1 => if (tgIx tg).all vs.contains && (tgIx tg1).all vs.contains then (cElt rec c' elt).map fun e => .lc2 e tg it ifs tg1 it1 ifs1 vs (tgIx tg1) else none
    | _ => none) else none
def mkBool (op : BoolOp) (a b : ME) : ME := match op with
  | .And => .and a b
  | .Or => .or a b
def cBool (c : SC) (op : BoolOp) : List Expr → Option ME
  | [] => none
  | [e] => rec c e
  | e :: es => (rec c e).bind fun a => (cBool c op es).map (mkBool op a)
def isNone : Expr → Bool
  | .Constant .none _ _ => true
  | _ => false
def isBoolC : Expr → Bool
  | .Constant (.bool _) _ _ => true
  | _ => false
def strsOf : List (Option Expr) → Option (List Str)
  | [] => some []
  | some (.Constant (.str x) _ _) :: r => (strsOf r).map (x :: ·)
  | _ => none
def cConst : Const → Option ME
  | .int i => some (.const (.int i))
  | .bool b => some (.const (.bl b))
  | .none => some (.const .non)
  | .str x => some (.const (.str x))
  | _ => none
def cName (c : SC) (x : Str) : Option ME := match slotOf c x with
  | some i => some (.slot i)
  | none => match gOf c x with
    | some (.fn i) => some (.glob i)
    | some (.con d) => some (.const d)
    | _ => none
def isIs : CmpOp → Option Bool
  | .Is => some true
  | .IsNot => some false
  | _ => none
def cCmp (c : SC) (a : Expr) (ops : List CmpOp) (bs : List Expr) : Option ME := match ops, bs with
  | [op], [b] => (match isIs op with
    | some true => if isNone b then (rec c a).map .isN else if isBoolC b then (rec c a).bind fun a => (rec c b).map (.cmp op a) else none
    | some false => if isNone b then (rec c a).map .notN else if isBoolC b then (rec c a).bind fun a => (rec c b).map (.cmp op a) else none
    | none => if notSet b then (rec c a).bind fun a => (rec c b).map (.cmp op a) else none)
  | _, _ => none
def isBack : Expr → Bool
  | .Slice none none (some (.UnaryOp .USub (.Constant (.int 1) _ _) _)) _ => true
  | _ => false
def isSl : Expr → Option (Option Expr × Option Expr)
  | .Slice lo hi none _ => some (lo, hi)
  | _ => none
def cPart (c : SC) : Option Expr → Option (Option ME)
  | none => some none
  | some e => (rec c e).map some
def cSub (c : SC) (a i : Expr) : Option ME := if isBack i then (rec c a).map .rev else match isSl i with
  | some (lo, hi) => (rec c a).bind fun a => (cPart rec c lo).bind fun lo => (cPart rec c hi).map fun hi => .slc a lo hi
  | none => if notSlice i then (rec c a).bind fun a => (rec c i).map (.idx a) else none
def cDict (c : SC) (ks : List (Option Expr)) (es : List Expr) (pos : Pos) : Option ME := match ks, es with
  | [], [] => some (.dnew (c.tk.contains pos.line))
  | k :: ks, es => if decide ((k :: ks).length = es.length) && decide ((k :: ks).length ≤ 15) then (strsOf (k :: ks)).bind fun ks => (cArgs rec c es).map (.disp ks) else none
  | _, _ => none
/-- an expression -/
def cE1 (c : SC) (e : Expr) : Option ME := match e with
  | .Constant k _ _ => cConst k
  | .Name x _ => cName c x
  | .BinOp a op b _ => (rec c a).bind fun a => (rec c b).map (.bin op a)
  | .UnaryOp op a _ => (match op with
    | .USub => (rec c a).map .neg
    | .Not => (rec c a).map .not
    | _ => none)
  | .BoolOp op es _ => cBool rec c op es
  | .Compare a ops bs _ => cCmp rec c a ops bs
  | .IfExp t a b _ => (rec c t).bind fun t => (rec c a).bind fun a => (rec c b).map (.ife t a)
  | .Subscript a i _ => cSub rec c a i
  | .List es _ => (cArgs rec c es).map .lst
  | .Tuple es _ _ => (cArgs rec c es).map .tup
  | .Dict ks es pos => cDict rec c ks es pos
  | .Call f as kws pos => if kws.isEmpty then cCall rec c f as pos else none
  | .ListComp elt gs scope _ => cComp rec c elt gs scope
  | _ => none
end
def cE : Nat → SC → Expr → Option ME
  | 0, _, _ => none
  | n + 1, c, e => cE1 (cE n) c e
/-! a statement -/
section
variable (E : SC → Expr → Option ME) (rec : SC → Stmt → Option MS)
def sameLine (ts : List Expr) : Bool := ts.all fun t => t.pos.line == (ts.head?.map (·.pos.line)).getD 0
def isLocal (c : SC) : Expr → Bool
  | .Name x _ => (match c.sc.names.lookup x with
    | some .local => true
    | _ => false)
  | _ => false
def isFn (c : SC) : Bool := match c.sc.kind with
  | .function => true
  | _ => false
/-- the two names are stored without a tuple -/
def swapsIt (c : SC) (ts es : List Expr) : Bool := ts.all (isLocal c) && sameLine ts && !(es.all (foldedForSure 8)) && !(es.all (constantsAlone 8))
/-- they are surely stored out of a tuple -/
def noSwap (c : SC) (ts : List Expr) : Bool := !(ts.all (isLocal c))
def namesOf (c : SC) : List Expr → Option (List Nat)
  | [] => some []
  | .Name x _ :: r => (stoOf c x).bind fun i => (namesOf c r).map (i :: ·)
  | _ => none
def isSubE : Expr → Option (Expr × Expr)
  | .Subscript o i _ => some (o, i)
  | _ => none
def isTup2 : Expr → Option (Expr × Expr)
  | .Tuple [a, b] _ _ => some (a, b)
  | _ => none
def cAsg (c : SC) (t v : Expr) : Option MS := match isSubE t with
  | some (o, i) => if notSlice i && notComp v then (E c o).bind fun o => (E c i).bind fun i => (E c v).map (.setI o i) else none
  | none => match isTup2 t, isTup2 v with
    | some (x, y), some (a, b) => if isFn c && (swapsIt c [x, y] [a, b] || noSwap c [x, y]) then (namesOf c [x, y]).bind fun is => if decide is.Nodup then (cArgs E c [a, b]).map (.par is) else none else none
    | _, _ => if isTupE v && isTupE t then none else (cTg c 9 t).bind fun g => (E c v).map (.asg g)
def raised : Option Expr → Option (Str × List Expr)
  | some (.Call (.Name x _) as [] _) => some (x, as)
  | _ => none
def cRaise (c : SC) (e : Option Expr) : Option MS := match raised e with
  | some (x, a :: as) => (match gOf c x with
    | some (.cls k) => (cArgs E c (a :: as)).map (.raise k)
    | _ => none)
  | _ => none
def cS1 (c : SC) (st : Stmt) : Option MS := match st with
  | .Assign ts v _ => (match ts with
    | [t] => cAsg E c t v
    | _ => none)
  | .AugAssign t op v _ => (match nameOf t with
    | some x => (stoOf c x).bind fun i => (E c v).map (.aug i op)
    | none => none)
  | .Expr v _ => if notComp v then (E c v).map .expr else none
  | .If t a b _ => (E c t).bind fun t => (mapO (rec c) a).bind fun a => (mapO (rec c) b).map (.ife t a)
  | .For t it b orelse _ => if orelse.isEmpty then (cTg c 9 t).bind fun g => (cIt E c t it).bind fun it => (mapO (rec c) b).map (.for g it) else none
  | .While t b orelse _ => if orelse.isEmpty then (E c t).bind fun t => (mapO (rec c) b).map (.whl t) else none
  | .Return e _ => (match e with
    | some e => (E c e).map .ret
    | none => some .retN)
  | .Raise e none _ => cRaise E c e
  | .Break _ => some .brk
  | .Continue _ => some .cont
  | .Pass _ => some .pass
  | _ => none
end
/-- what is not known is nothing that is promised -/
def orBad : Option MS → Option MS
  | some m => some m
  | none => some .bad
def cS : Nat → SC → Stmt → Option MS
  | 0, _, _ => none
  | n + 1, c, st => orBad (cS1 (cE 60) (cS n) c st)
def cBody (c : SC) (b : List Stmt) : Option (List MS) := mapO (cS 30 c) b
end VM
namespace VM
open PySem L2
/-! ### a program -/
structure FnE where
  n : Nat
  np : Nat
  body : List MS
  pu : Bool := false
  deriving Inhabited
mutual
/-- no handle in it -/
def hfD : D → Bool
  | .tup xs => hfDs xs
  | .lst xs => hfDs xs
  | .rol xs => hfDs xs
  | .prs xs => hfDs xs
  | .dK kvs => hfK kvs
  | .dN kvs => hfN kvs
  | .hnd _ => false
  | _ => true
def hfDs : List D → Bool
  | [] => true
  | d :: ds => hfD d && hfDs ds
def hfK : List (Key × D) → Bool
  | [] => true
  | p :: r => hfKp p && hfK r
def hfKp : Key × D → Bool
  | (_, d) => hfD d
def hfN : List (NestedKey × D) → Bool
  | [] => true
  | p :: r => hfNp p && hfN r
def hfNp : NestedKey × D → Bool
  | (_, d) => hfD d
end
def hfC : C → Bool
  | .sh d => hfD d
  | .un => true
  | _ => false
def hfO : C → Bool
  | .sh d => hfD d
  | .ow d => hfD d
  | _ => false
/-- a def that is called by data alone and gives data alone: the handles that it makes are its own affair -/
def purN (f : List C → List D → Rs) (cs : List C) (om : List D) : Rs := if cs.all hfC = true then (match f cs [] with
  | .ok c _ => if hfO c = true then .ok c om else .bad
  | .exc k fs _ => if (fs.all fun p => hfD p.2) = true then .exc k fs om else .bad
  | .bad => .bad) else .bad
def finish : SO → Rs
  | .nx s => .ok (.sh .non) s.om
  | .rt (.sh d) s => .ok (.sh d) s.om
  | .rt (.ow d) s => .ok (.ow d) s.om
  | .exc c fs s => .exc c fs s.om
  | _ => .bad
def runN (cm : Cm) (flds : Nat → List Str) (exm : Nat → Nat → Bool) (e : FnE) (cs : List C) (om : List D) : Rs := if cs.length = e.np then finish (exSs cm flds exm e.body { sl := cs ++ List.replicate (e.n - e.np) .un, om := om }) else .bad
def callN (tab : List FnE) (flds : Nat → List Str) (exm : Nat → Nat → Bool) : Nat → Cm
  | 0 => fun _ _ _ => .bad
  | d + 1 => fun f cs om => match tab[f]? with
    | none => .bad
    | some e => if e.pu = true then purN (runN (callN tab flds exm d) flds exm e) cs om else runN (callN tab flds exm d) flds exm e cs om
end VM

set_option linter.all false
set_option maxRecDepth 100000
/-! VM03: how the evaluator's data stand in the abstract heap. -/
namespace VM
open PySem L2

/-- the ground, fixed for a whole law: the written part; where the defs and the classes stand -/
structure G where
  P : Program
  w : World
  K : PySem.W.Frag
  mg : Str → Option Value
  base : Heap
  fa : Nat → Addr
  ca : Nat → Addr
abbrev AP1 := Addr → Prop
/-- what is owned, and where the handles stand -/
structure OP where
  own : AP1
  th : List Addr
instance : CoeFun OP (fun _ => Addr → Prop) := ⟨OP.own⟩
abbrev Pfx (θ θ' : List Addr) : Prop := ∀ (n : Nat) (p : Addr), θ[n]? = some p → θ'[n]? = some p
theorem Pfx.refl {θ : List Addr} : Pfx θ θ := fun _ _ z => z
/-- a dict whose keys are tuples: its entries -/
def DicO (P : Program) (w : World) (a : Addr) (es : List (NestedKey × Addr × Value)) : HO := .ext fun h => ∃ o ar ep, h.get? a = some o ∧ o.ExactDict ∧ o.data = .dict ar ep ∧ ar.toList = es.map (entryOfKey (nestedKind P w)) ∧ (es.map (·.1)).Nodup ∧ (a == sysModules) = false ∧ es.length ≤ sizeLine
def isDN (o : HO) : Prop := ∃ P w a es, o = DicO P w a es
/-- no code object -/
def notCode (o : HO) : Prop := ∀ c q, o ≠ LamX.CodeO c q
theorem isDN.nc {o : HO} (h : isDN o) : notCode o := fun c q z => by
  obtain ⟨P, w, a, es, rfl⟩ := h
  unfold DicO LamX.CodeO at z
  have hg : ∀ b, Heap.get? { objs := Array.replicate (c + 1) { cls := .none, data := .fields #[.none, .str q 0] } } b = if b < c + 1 then some { cls := .none, data := .fields #[.none, .str q 0] } else none := fun b => by
    unfold Heap.get?
    simp only [Array.getElem?_replicate]
    by_cases h : b < c + 1
    · rw [if_pos h] <;> rfl
    · rw [if_neg h] <;> rfl
  have e := congrFun (HO.ext.inj z) { objs := Array.replicate (c + 1) { cls := .none, data := .fields #[.none, .str q 0] } }
  have r : ∃ (oc : Obj) (vs : Array Value) (t : Tok), Heap.get? { objs := Array.replicate (c + 1) { cls := .none, data := .fields #[.none, .str q 0] } } c = some oc ∧ oc.data = .fields vs ∧ vs[1]? = some (.str q t) :=
    ⟨{ cls := .none, data := .fields #[.none, .str q 0] }, _, 0, by rw [hg, if_pos (Nat.lt_succ_self c)], rfl, rfl⟩
  rw [← e] at r
  obtain ⟨o, ar, ep, h1, _, h3, _⟩ := r
  rw [hg] at h1
  split at h1
  · cases h1
    cases h3
  · cases h1
def isDict : HO → Prop
  | .dK _ => True
  | .ext φ => isDN (.ext φ)
  | _ => False
def isTbl : HO → Prop
  | .tbl _ => True
  | _ => False
/-- what is tracked and is nobody's root stands as it is (a dict may be locked; of code tables nothing is said), and is nobody's root -/
def Kp (O : OP) (H : Hp) (O' : OP) (H' : Hp) : Prop := Pfx O.th O'.th ∧ ∀ a o, H a = some o → ¬ isTbl o → ¬ O a → ¬ O' a ∧ (H' a = some o ∨ (isDict o ∧ ∃ ob, H' a = some (.frz ob o)))
theorem Kp.refl {O : OP} {H : Hp} : Kp O H O H := ⟨Pfx.refl, fun _ _ e _ n => ⟨n, .inl e⟩⟩
theorem Kp.trans {O O1 O2 : OP} {H H1 H2 : Hp} (a : Kp O H O1 H1) (b : Kp O1 H1 O2 H2) : Kp O H O2 H2 := ⟨fun n p z => b.1 n p (a.1 n p z), fun c o e nt n => by
  obtain ⟨n1, e1⟩ := a.2 c o e nt n
  rcases e1 with e1 | ⟨d, ob, e1⟩
  · exact b.2 c o e1 nt n1
  · obtain ⟨n2, e2⟩ := b.2 c _ e1 id n1
    refine ⟨n2, .inr ⟨d, ob, ?_⟩⟩
    rcases e2 with e2 | ⟨z, _⟩
    · exact e2
    · exact z.elim⟩
theorem Kp.get {O O' : OP} {H H' : Hp} {a : Addr} {o : HO} (k : Kp O H O' H') (e : H a = some o) (n : ¬ O a) (nd : ¬ isDict o) (nt : ¬ isTbl o) : H' a = some o ∧ ¬ O' a := by
  obtain ⟨n1, e1 | ⟨z, _⟩⟩ := k.2 a _ e nt n
  · exact ⟨e1, n1⟩
  · exact (nd z).elim
/-- a list that is read alone: the script, a list of the module -/
def RoL (K : PySem.W.Frag) (O : OP) (H : Hp) (a : Addr) (xs : List V) : Prop := (∃ o, H a = some (.frz o (.lst xs)) ∧ ¬ O a) ∨
  ∃ (o : Obj) (its : Array Value) (n : Nat), K.lookup a = some o ∧ o.cls = .type "list" ∧ o.dict = none ∧ o.data = .seq its n ∧ its.size ≤ sizeLine ∧ Vals xs its.toList
theorem RoL.sq {K : PySem.W.Frag} {O : OP} {H : Hp} {a : Addr} {xs : List V} (h : RoL K O H a xs) : SqL K H a xs := h.elim (fun ⟨o, z, _⟩ => .inl (.inr ⟨o, z⟩)) .inr
/-- a tuple, whose own dict is none -/
def TupAt (K : PySem.W.Frag) (O : OP) (H : Hp) (a : Addr) (xs : List V) : Prop := (∃ o : Obj, H a = some (.frz o (.tup xs)) ∧ ¬ O a ∧ o.dict = none) ∨
  ∃ (o : Obj) (its : Array Value) (n : Nat), K.lookup a = some o ∧ o.cls = .type "tuple" ∧ o.dict = none ∧ o.data = .seq its n ∧ its.size ≤ sizeLine ∧ Vals xs its.toList
theorem TupAt.sq {K : PySem.W.Frag} {O : OP} {H : Hp} {a : Addr} {xs : List V} (h : TupAt K O H a xs) : SqT K H a xs := h.elim (fun ⟨o, z, _⟩ => .inl (.inr ⟨o, z⟩)) fun ⟨o, its, n, a, b, _, c⟩ => .inr ⟨o, its, n, a, b, c⟩
/-- the dict at a has these entries -/
def DicAt (g : G) (H : Hp) (a : Addr) (es : List (NestedKey × Addr × Value)) : Prop := Rd H a (DicO g.P g.w a es)
section
variable (g : G)
mutual
/-- a key stands so -/
def KeyV (O : OP) (H : Hp) : NestedKey → V → Prop
  | .none, v => v = .non
  | .num i, v => v = .int i
  | .text x, v => v = .str x
  | .tup ks, v => ∃ a vs, v = .ref a ∧ TupAt g.K O H a vs ∧ KeyVs O H ks vs
def KeyVs (O : OP) (H : Hp) : List NestedKey → List V → Prop
  | [], vs => vs = []
  | k :: ks, vs => ∃ v r, vs = v :: r ∧ KeyV O H k v ∧ KeyVs O H ks r
end
/-- a tuple that is a key stands so -/
def KeyAt (O : OP) (H : Hp) (k : NestedKey) (b : Addr) : Prop := k.depth ≤ 8 ∧ (∃ ks, k = .tup ks) ∧ KeyV g O H k (.ref b)
mutual
def Sh (O : OP) (H : Hp) : D → V → Prop
  | .non, v => v = .non
  | .bl b, v => v = .bl b
  | .int i, v => v = .int i
  | .str x, v => v = .str x
  | .fn i, v => v = .ref (g.fa i)
  | .hnd n, v => ∃ a, v = .ref a ∧ O.th[n]? = some a
  | .tup ds, v => ∃ a vs, v = .ref a ∧ TupAt g.K O H a vs ∧ Shs O H ds vs
  | .prs ds, v => ∃ a vs, v = .ref a ∧ H a = some (.tup vs) ∧ ¬ O a ∧ Shs O H ds vs
  | .lst ds, v => ∃ a vs, v = .ref a ∧ H a = some (.lst vs) ∧ ¬ O a ∧ Shs O H ds vs
  | .rol ds, v => ∃ a vs, v = .ref a ∧ RoL g.K O H a vs ∧ Shs O H ds vs
  | .dK ds, v => ∃ a kvs, v = .ref a ∧ Rd H a (.dK kvs) ∧ ¬ O a ∧ ShK O H ds kvs
  | .dN ds, v => ∃ a es, v = .ref a ∧ DicAt g H a es ∧ ¬ O a ∧ ShN O H ds es
def Shs (O : OP) (H : Hp) : List D → List V → Prop
  | [], vs => vs = []
  | d :: ds, vs => ∃ v r, vs = v :: r ∧ Sh O H d v ∧ Shs O H ds r
def ShK (O : OP) (H : Hp) : List (Key × D) → List (Key × V) → Prop
  | [], vs => vs = []
  | p :: ds, vs => ∃ v r, vs = v :: r ∧ ShKp O H p v ∧ ShK O H ds r
def ShKp (O : OP) (H : Hp) : Key × D → Key × V → Prop
  | (k, d), (k', v) => k = k' ∧ Sh O H d v
def ShN (O : OP) (H : Hp) : List (NestedKey × D) → List (NestedKey × Addr × Value) → Prop
  | [], vs => vs = []
  | p :: ds, vs => ∃ v r, vs = v :: r ∧ ShNp O H p v ∧ ShN O H ds r
def ShNp (O : OP) (H : Hp) : NestedKey × D → NestedKey × Addr × Value → Prop
  | (k, d), (k', b, u) => k = k' ∧ KeyAt g O H k b ∧ ∃ v, RelV v u ∧ Sh O H d v
end
variable {g}
variable {O O' : OP} {H H' : Hp}
theorem Kp.tup {a : Addr} {vs : List V} (k : Kp O H O' H') (e : H a = some (.tup vs)) (n : ¬ O a) : H' a = some (.tup vs) ∧ ¬ O' a := k.get e n id id
theorem Kp.lst {a : Addr} {vs : List V} (k : Kp O H O' H') (e : H a = some (.lst vs)) (n : ¬ O a) : H' a = some (.lst vs) ∧ ¬ O' a := k.get e n id id
theorem Kp.frz {a : Addr} {ob : Obj} {u : HO} (k : Kp O H O' H') (e : H a = some (.frz ob u)) (n : ¬ O a) : H' a = some (.frz ob u) ∧ ¬ O' a := k.get e n id id
theorem Kp.rd {a : Addr} {o : HO} (k : Kp O H O' H') (e : Rd H a o) (n : ¬ O a) (nt : ¬ isTbl o) : Rd H' a o ∧ ¬ O' a := by
  rcases e with e | ⟨ob, e⟩
  · obtain ⟨n1, e1 | ⟨_, z⟩⟩ := k.2 a _ e nt n
    · exact ⟨.inl e1, n1⟩
    · exact ⟨.inr z, n1⟩
  · obtain ⟨e1, n1⟩ := k.frz e n
    exact ⟨.inr ⟨ob, e1⟩, n1⟩
theorem Kp.rol {K : PySem.W.Frag} {a : Addr} {vs : List V} (k : Kp O H O' H') (e : RoL K O H a vs) : RoL K O' H' a vs := by
  rcases e with ⟨ob, e, n⟩ | h
  · obtain ⟨e1, n1⟩ := k.frz e n
    exact .inl ⟨ob, e1, n1⟩
  · exact .inr h
theorem Kp.tupAt {K : PySem.W.Frag} {a : Addr} {vs : List V} (k : Kp O H O' H') (e : TupAt K O H a vs) : TupAt K O' H' a vs := by
  rcases e with ⟨o, e, n, d⟩ | h
  · obtain ⟨e1, n1⟩ := k.frz e n
    exact .inl ⟨o, e1, n1, d⟩
  · exact .inr h
theorem Kp.dicAt {a : Addr} {es : List (NestedKey × Addr × Value)} (k : Kp O H O' H') (e : DicAt g H a es) (n : ¬ O a) : DicAt g H' a es ∧ ¬ O' a := k.rd e n id
mutual
theorem KeyV.keep (k : Kp O H O' H') : ∀ (d : NestedKey) (v : V), KeyV g O H d v → KeyV g O' H' d v
  | .none, _, h => h
  | .num _, _, h => h
  | .text _, _, h => h
  | .tup ds, _, ⟨a, vs, e, h, r⟩ => ⟨a, vs, e, k.tupAt h, KeyVs.keep k ds vs r⟩
theorem KeyVs.keep (k : Kp O H O' H') : ∀ (ds : List NestedKey) (vs : List V), KeyVs g O H ds vs → KeyVs g O' H' ds vs
  | [], _, h => h
  | d :: ds, _, ⟨v, r, e, h, hs⟩ => ⟨v, r, e, KeyV.keep k d v h, KeyVs.keep k ds r hs⟩
end
theorem KeyAt.keep (k : Kp O H O' H') {d : NestedKey} {b : Addr} (h : KeyAt g O H d b) : KeyAt g O' H' d b := ⟨h.1, h.2.1, KeyV.keep k _ _ h.2.2⟩
mutual
theorem Sh.keep (k : Kp O H O' H') : ∀ (d : D) (v : V), Sh g O H d v → Sh g O' H' d v
  | .non, _, h => h
  | .bl _, _, h => h
  | .int _, _, h => h
  | .str _, _, h => h
  | .fn _, _, h => h
  | .hnd n, _, ⟨a, e, h⟩ => ⟨a, e, k.1 n a h⟩
  | .tup ds, _, ⟨a, vs, e, h, r⟩ => ⟨a, vs, e, k.tupAt h, Shs.keep k ds vs r⟩
  | .prs ds, _, ⟨a, vs, e, h, n, r⟩ => let ⟨h', n'⟩ := k.tup h n; ⟨a, vs, e, h', n', Shs.keep k ds vs r⟩
  | .lst ds, _, ⟨a, vs, e, h, n, r⟩ => let ⟨h', n'⟩ := k.lst h n; ⟨a, vs, e, h', n', Shs.keep k ds vs r⟩
  | .rol ds, _, ⟨a, vs, e, h, r⟩ => ⟨a, vs, e, k.rol h, Shs.keep k ds vs r⟩
  | .dK ds, _, ⟨a, vs, e, h, n, r⟩ => let ⟨h', n'⟩ := k.rd h n id; ⟨a, vs, e, h', n', ShK.keep k ds vs r⟩
  | .dN ds, _, ⟨a, vs, e, h, n, r⟩ => let ⟨h', n'⟩ := k.dicAt h n; ⟨a, vs, e, h', n', ShN.keep k ds vs r⟩
theorem Shs.keep (k : Kp O H O' H') : ∀ (ds : List D) (vs : List V), Shs g O H ds vs → Shs g O' H' ds vs
  | [], _, h => h
  | d :: ds, _, ⟨v, r, e, h, hs⟩ => ⟨v, r, e, Sh.keep k d v h, Shs.keep k ds r hs⟩
theorem ShK.keep (k : Kp O H O' H') : ∀ (ds : List (Key × D)) (vs : List (Key × V)), ShK g O H ds vs → ShK g O' H' ds vs
  | [], _, h => h
  | p :: ds, _, ⟨v, r, e, h, hs⟩ => ⟨v, r, e, ShKp.keep k p v h, ShK.keep k ds r hs⟩
theorem ShKp.keep (k : Kp O H O' H') : ∀ (p : Key × D) (q : Key × V), ShKp g O H p q → ShKp g O' H' p q
  | (_, d), (_, v), ⟨e, h⟩ => ⟨e, Sh.keep k d v h⟩
theorem ShN.keep (k : Kp O H O' H') : ∀ (ds : List (NestedKey × D)) (vs : List (NestedKey × Addr × Value)), ShN g O H ds vs → ShN g O' H' ds vs
  | [], _, h => h
  | p :: ds, _, ⟨v, r, e, h, hs⟩ => ⟨v, r, e, ShNp.keep k p v h, ShN.keep k ds r hs⟩
theorem ShNp.keep (k : Kp O H O' H') : ∀ (p : NestedKey × D) (q : NestedKey × Addr × Value), ShNp g O H p q → ShNp g O' H' p q
  | (_, d), (_, _, _), ⟨e, h1, v, h2, h⟩ => ⟨e, h1.keep k, v, h2, Sh.keep k d v h⟩
end
end
end VM

set_option linter.all false
set_option maxRecDepth 100000
/-! VM04: the evaluator's state in the abstract heap. -/
namespace VM
open PySem L2

/-- a root's content -/
def Root (g : G) (O : OP) (H : Hp) : D → Addr → Prop
  | .lst ds, p => ∃ vs, H p = some (.lst vs) ∧ Shs g O H ds vs
  | .dK kvs, p => ∃ kw, H p = some (.dK kw) ∧ ShK g O H kvs kw
  | .dN kvs, p => ∃ kw, H p = some (DicO g.P g.w p kw) ∧ ShN g O H kvs kw
  | _, _ => False
/-- the fields of an exception -/
def ShF (g : G) (O : OP) (H : Hp) (fs : List (Str × D)) (fv : List (Str × V)) : Prop := ∀ f d, fs.lookup f = some d → ∃ v, fv.lookup f = some v ∧ Sh g O H d v
abbrev XPT := Addr → Addr → Prop
/-- what a root is -/
def isRt : HO → Prop
  | .lst _ => True
  | .dK _ => True
  | .ext φ => isDN (.ext φ)
  | _ => False
theorem isRt.nc {o : HO} (h : isRt o) : notCode o := by
  cases o with
  | ext φ => exact isDN.nc h
  | _ => intro c q z; unfold LamX.CodeO at z; cases z
theorem isRt.nt {o : HO} (h : isRt o) : ¬ isTbl o := fun z => by cases o <;> first | exact h.elim | exact z.elim
theorem isRt.dicO {P : Program} {w : World} {a : Addr} {es : List (NestedKey × Addr × Value)} : isRt (DicO P w a es) := ⟨P, w, a, es, rfl⟩
structure Env2 where
  g : G
  xp : XPT
  tb : List (Addr × Str)
mutual
def SlotOk (e : Env2) (O : OP) (θ : List Addr) (H : Hp) : C → Option V → Prop
  | .un, _ => True
  | .sh d, ov => ∃ v, ov = some v ∧ Sh e.g O H d v
  | .ow d, ov => ∃ p, ov = some (.ref p) ∧ Root e.g O H d p
  | .hd n, ov => ∃ p, ov = some (.ref p) ∧ θ[n]? = some p
  | .clo l sn, ov => False
  | .ex fs, ov => ∃ a d fv, ov = some (.ref a) ∧ e.xp a d ∧ H d = some (.xd fv) ∧ ¬ O d ∧ ShF e.g O H fs fv
end
/-- slot i's root stands at a -/
def OwnAt (sl : List C) (σ : St) (i : Nat) (a : Addr) : Prop := ∃ d, sl[i]? = some (.ow d) ∧ σ[i]? = some (some (.ref a))
def Own (T : AP1) (θ : List Addr) (sl : List C) (σ : St) : OP := ⟨fun a => T a ∨ a ∈ θ ∨ ∃ i, OwnAt sl σ i a, θ⟩
structure StR (e : Env2) (T : AP1) (θ : List Addr) (s : S) (σ : St) (H : Hp) : Prop where
  len : s.sl.length = σ.length
  slot : ∀ (i : Nat) (c : C), s.sl[i]? = some c → SlotOk e (Own T θ s.sl σ) θ H c (σ[i]?.bind id)
  hlen : θ.length = s.om.length
  hnd : ∀ (n : Nat) d p, s.om[n]? = some d → θ[n]? = some p → Root e.g (Own T θ s.sl σ) H d p
  nd : θ.Nodup
  sep : ∀ (i : Nat) (a : Addr), OwnAt s.sl σ i a → ¬ T a ∧ a ∉ θ
  inj : ∀ (i j : Nat) (a : Addr), OwnAt s.sl σ i a → OwnAt s.sl σ j a → i = j
  hT : ∀ a ∈ θ, ¬ T a
  tr : ∀ a, T a → ∃ o, H a = some o ∧ isRt o
  tb : LamX.Tabs e.tb H
section
variable {e : Env2} {g : G} {O O' : OP} {T T' : AP1} {θ θ' : List Addr} {s s' : S} {σ : St} {H H' : Hp}
theorem ShF.keep (k : Kp O H O' H') (ds : List (Str × D)) (vs : List (Str × V)) (h : ShF g O H ds vs) : ShF g O' H' ds vs := fun f d e => by
  obtain ⟨v, h1, h2⟩ := h f d e
  exact ⟨v, h1, Sh.keep k _ _ h2⟩
/-- a smaller set of owned things -/
theorem Kp.less (h : ∀ a, O' a → O a) (p : Pfx O.th O'.th := by exact Pfx.refl) : Kp O H O' H := ⟨p, fun a o e _ n => ⟨fun z => n (h a z), .inl e⟩⟩
theorem Kp.xd {a : Addr} {fv : List (Str × V)} (k : Kp O H O' H') (e : H a = some (.xd fv)) (n : ¬ O a) : H' a = some (.xd fv) ∧ ¬ O' a := k.get e n id id
/-- the root itself stands, what it holds is kept -/
theorem Root.keep (k : Kp O H O' H') {d : D} {p : Addr} (hp : H' p = H p) (h : Root g O H d p) : Root g O' H' d p := by
  cases d with
  | lst ds => obtain ⟨vs, e, r⟩ := h; exact ⟨vs, hp.trans e, Shs.keep k ds vs r⟩
  | dK ds => obtain ⟨vs, e, r⟩ := h; exact ⟨vs, hp.trans e, ShK.keep k ds vs r⟩
  | dN ds => obtain ⟨vs, e, r⟩ := h; exact ⟨vs, hp.trans e, ShN.keep k ds vs r⟩
  | _ => exact h.elim
theorem Root.some {d : D} {p : Addr} (h : Root g O H d p) : ∃ o, H p = some o := by
  cases d with
  | lst ds => obtain ⟨vs, e, r⟩ := h; exact ⟨_, e⟩
  | dK ds => obtain ⟨vs, e, r⟩ := h; exact ⟨_, e⟩
  | dN ds => obtain ⟨vs, e, r⟩ := h; exact ⟨_, e⟩
  | _ => exact h.elim
/-- a root that is nobody's any more is shared -/
theorem Root.share {d : D} {p : Addr} (n : ¬ O p) (h : Root g O H d p) : Sh g O H d (.ref p) := by
  cases d with
  | lst ds => obtain ⟨vs, e, r⟩ := h; exact ⟨p, vs, rfl, e, n, r⟩
  | dK ds => obtain ⟨vs, e, r⟩ := h; exact ⟨p, vs, rfl, .inl e, n, r⟩
  | dN ds => obtain ⟨vs, e, r⟩ := h; exact ⟨p, vs, rfl, .inl e, n, r⟩
  | _ => exact h.elim
theorem SlotOk.keep (k : Kp O H O' H') (ht : ∀ (n : Nat) p, θ[n]? = some p → θ'[n]? = some p) {c : C} {ov : Option V} (no : ∀ d, c ≠ .ow d) (h : SlotOk e O θ H c ov) : SlotOk e O' θ' H' c ov := by
  cases c with
  | un => exact True.intro
  | sh d => obtain ⟨v, r, q⟩ := h; exact ⟨v, r, Sh.keep k d v q⟩
  | ow d => exact absurd rfl (no d)
  | hd n => obtain ⟨p, r, q⟩ := h; exact ⟨p, r, ht n p q⟩
  | clo l sn => exact h.elim
  | ex fs => obtain ⟨a, d, fv, r, x, y, n, z⟩ := h; exact ⟨a, d, fv, r, x, (k.xd y n).1, (k.xd y n).2, ShF.keep k fs fv z⟩
theorem ownT {a : Addr} (h : T a) : Own T θ s.sl σ a := .inl h
theorem ownH {a : Addr} (h : a ∈ θ) : Own T θ s.sl σ a := .inr (.inl h)
theorem ownS {a : Addr} {i : Nat} (h : OwnAt s.sl σ i a) : Own T θ s.sl σ a := .inr (.inr ⟨i, h⟩)
theorem StR.rootAt (R : StR e T θ s σ H) {i : Nat} {a : Addr} (h : OwnAt s.sl σ i a) : ∃ d, s.sl[i]? = some (.ow d) ∧ Root e.g (Own T θ s.sl σ) H d a := by
  obtain ⟨d, h1, h2⟩ := h
  obtain ⟨p, e1, r⟩ := R.slot i _ h1
  rw [h2] at e1
  cases e1
  exact ⟨d, h1, r⟩
/-- every owned thing is tracked -/
theorem Root.rt {d : D} {p : Addr} (h : Root g O H d p) : ∃ o, H p = Option.some o ∧ isRt o := by
  cases d with
  | lst ds => obtain ⟨vs, e, r⟩ := h; exact ⟨_, e, True.intro⟩
  | dK ds => obtain ⟨vs, e, r⟩ := h; exact ⟨_, e, True.intro⟩
  | dN ds => obtain ⟨vs, e, r⟩ := h; exact ⟨_, e, isRt.dicO⟩
  | _ => exact h.elim
theorem StR.trn (R : StR e T θ s σ H) {a : Addr} (h : T a) : H a ≠ none := by
  obtain ⟨o, q, _⟩ := R.tr a h
  rw [q]; simp
/-- every owned thing is a root -/
theorem StR.own_rt (R : StR e T θ s σ H) {a : Addr} (h : Own T θ s.sl σ a) : ∃ o, H a = some o ∧ isRt o := by
  rcases h with h | h | ⟨i, h⟩
  · exact R.tr a h
  · obtain ⟨n, hn⟩ := List.mem_iff_getElem?.mp h
    have lt : n < s.om.length := by rw [← R.hlen]; exact (List.getElem?_eq_some_iff.mp hn).1
    exact (R.hnd n _ a (List.getElem?_eq_getElem lt) hn).rt
  · obtain ⟨d, _, r⟩ := R.rootAt h
    exact r.rt
theorem StR.own_tr (R : StR e T θ s σ H) {a : Addr} (h : Own T θ s.sl σ a) : H a ≠ none := by
  rcases h with h | h | ⟨i, h⟩
  · exact R.trn h
  · obtain ⟨n, hn⟩ := List.mem_iff_getElem?.mp h
    have lt : n < s.om.length := by rw [← R.hlen]; exact (List.getElem?_eq_some_iff.mp hn).1
    obtain ⟨o, q⟩ := (R.hnd n _ a (List.getElem?_eq_getElem lt) hn).some
    rw [q]; simp
  · obtain ⟨d, _, r⟩ := R.rootAt h
    obtain ⟨o, q⟩ := r.some
    rw [q]; simp
theorem StR.fresh (R : StR e T θ s σ H) {a : Addr} (h : H a = none) : ¬ Own T θ s.sl σ a := fun z => R.own_tr z h
/-- the heap goes on, no root is touched: all is as it was -/
theorem StR.ext (R : StR e T θ s σ H) (k : ∀ a o, H a = some o → H' a = some o) : StR e T θ s σ H' where
  len := R.len
  slot := fun i c h => by
    have q := R.slot i c h
    have kp : Kp (Own T θ s.sl σ) H (Own T θ s.sl σ) H' := ⟨Pfx.refl, fun a o e _ n => ⟨n, .inl (k a o e)⟩⟩
    cases c with
    | ow d =>
      obtain ⟨p, e1, r⟩ := q
      obtain ⟨o, ho⟩ := r.some
      exact ⟨p, e1, r.keep kp (by rw [ho]; exact k _ _ ho)⟩
    | _ => exact SlotOk.keep kp (fun _ _ z => z) (fun d => by simp) q
  hlen := R.hlen
  hnd := fun n d p h1 h2 => by
    have r := R.hnd n d p h1 h2
    obtain ⟨o, ho⟩ := r.some
    exact r.keep ⟨Pfx.refl, fun a o e _ n => ⟨n, .inl (k a o e)⟩⟩ (by rw [ho]; exact k _ _ ho)
  nd := R.nd
  sep := R.sep
  inj := R.inj
  hT := R.hT
  tr := fun a h => by
    obtain ⟨o, q, r⟩ := R.tr a h
    exact ⟨o, k a o q, r⟩
  tb := LamX.Tabs.ext R.tb k
/-- what is no table and no code is changed -/
theorem tabs_upd {T : List (Addr × Str)} {p : Addr} {o0 o : HO} (t : LamX.Tabs T H) (h : H p = some o0) (h1 : ¬ isTbl o0) (h2 : notCode o0) : LamX.Tabs T (upd H p o) := fun q hq => by
  obtain ⟨ps, e1, e2, e3⟩ := t q hq
  have n1 : q.1 ≠ p := fun z => by
    rw [z, h] at e1
    cases e1
    exact h1 True.intro
  refine ⟨ps, by rw [upd_ne n1]; exact e1, e2, fun pos cv hc => ?_⟩
  obtain ⟨c, ec, hc⟩ := e3 pos cv hc
  refine ⟨c, ec, ?_⟩
  have n2 : c ≠ p := fun z => by
    rw [z, h] at hc
    exact h2 _ _ (Option.some.inj hc)
  rw [upd_ne n2]
  exact hc
theorem Kp.ext (k : ∀ a o, H a = some o → H' a = some o) : Kp O H O H' := ⟨Pfx.refl, fun a o e _ n => ⟨n, .inl (k a o e)⟩⟩
theorem upd_ext {p : Addr} {o : HO} (h : H p = none) : ∀ a o', H a = some o' → upd H p o a = some o' := fun a o' e => by
  rw [upd_ne (ne_of_none e h)]; exact e
end
end VM

set_option linter.all false
set_option maxRecDepth 100000
/-! VM05: how the state changes. -/
namespace VM
open PySem L2
section
variable {e : Env2} {g : G} {O O' : OP} {T T' : AP1} {θ θ' : List Addr} {s s' : S} {σ σ' : L2.St} {H H' : Hp} {p : Addr} {i : Nat} {d d' : D} {v : V}
/-- one thing more -/
def And1 (T : AP1) (p : Addr) : AP1 := fun a => T a ∨ a = p
theorem tabs_root {T : List (Addr × Str)} {o : HO} (t : LamX.Tabs T H) (h : ∃ d, Root g O H d p) : LamX.Tabs T (upd H p o) := by
  obtain ⟨d, h⟩ := h
  obtain ⟨u, e, r⟩ := h.rt
  exact tabs_upd t e r.nt r.nc
theorem S.get_of {c : C} (h : s.get i = c) (n : c ≠ .un) : s.sl[i]? = some c := by
  unfold S.get at h
  rw [List.getD_eq_getElem?_getD] at h
  cases q : s.sl[i]? with
  | none => rw [q] at h; exact absurd h.symm n
  | some x => rw [q] at h; exact congrArg some h
theorem S.get_lt {c : C} (h : s.get i = c) (n : c ≠ .un) : i < s.sl.length := (List.getElem?_eq_some_iff.mp (S.get_of h n)).1
theorem put_at (sl : List C) (c : C) (j : Nat) (hi : i < sl.length) : (sl.set i c)[j]? = if j = i then some c else sl[j]? := by
  by_cases h : j = i
  · subst h; rw [if_pos rfl, List.getElem?_set_self hi]
  · rw [if_neg h, List.getElem?_set_ne (Ne.symm h)]
theorem set_at (σ : L2.St) (v : Option V) (j : Nat) (hi : i < σ.length) : (σ.set i v)[j]? = if j = i then some v else σ[j]? := by
  by_cases h : j = i
  · subst h; rw [if_pos rfl, List.getElem?_set_self hi]
  · rw [if_neg h, List.getElem?_set_ne (Ne.symm h)]
/-- owned places behind a store of what is no root -/
theorem own_put {c : C} (hi : i < s.sl.length) (no : ∀ d, c ≠ .ow d) {ov : Option V} {j : Nat} {a : Addr} (h : OwnAt (s.sl.set i c) (σ.set i ov) j a) : j ≠ i ∧ OwnAt s.sl σ j a := by
  obtain ⟨d, h1, h2⟩ := h
  by_cases hj : j = i
  · subst hj
    rw [List.getElem?_set_self hi] at h1
    exact absurd (Option.some.inj h1) (no d)
  · rw [List.getElem?_set_ne (Ne.symm hj)] at h1 h2
    exact ⟨hj, d, h1, h2⟩
theorem own_put' {c : C} (hi : i < s.sl.length) (no : ∀ d, c ≠ .ow d) {j : Nat} {a : Addr} (h : OwnAt (s.sl.set i c) σ j a) : j ≠ i ∧ OwnAt s.sl σ j a := by
  obtain ⟨d, h1, h2⟩ := h
  by_cases hj : j = i
  · subst hj
    rw [List.getElem?_set_self hi] at h1
    exact absurd (Option.some.inj h1) (no d)
  · rw [List.getElem?_set_ne (Ne.symm hj)] at h1
    exact ⟨hj, d, h1, h2⟩
/-- a slot is filled with what is no root -/
theorem StR.put (R : StR e T θ s σ H) (hi : i < s.sl.length) {c : C} (no : ∀ d, c ≠ .ow d) {ov : Option V} (h : SlotOk e (Own T θ s.sl σ) θ H c ov) :
    StR e T θ (s.put i c) (σ.set i ov) H ∧ Kp (Own T θ s.sl σ) H (Own T θ (s.put i c).sl (σ.set i ov)) H := by
  have hσ : i < σ.length := by rw [← R.len]; exact hi
  have ls : ∀ a, Own T θ (s.sl.set i c) (σ.set i ov) a → Own T θ s.sl σ a := fun a z => by
    rcases z with z | z | ⟨j, z⟩
    · exact .inl z
    · exact .inr (.inl z)
    · exact .inr (.inr ⟨j, (own_put hi no z).2⟩)
  have k : Kp (Own T θ s.sl σ) H (Own T θ (s.sl.set i c) (σ.set i ov)) H := Kp.less ls
  refine ⟨⟨by simpa [S.put] using R.len, fun j c' hj => ?_, R.hlen, fun n d q h1 h2 => (R.hnd n d q h1 h2).keep k rfl, R.nd, fun j a z => R.sep j a (own_put hi no z).2, fun j j' a z z' => R.inj j j' a (own_put hi no z).2 (own_put hi no z').2, R.hT, R.tr, R.tb⟩, k⟩
  have hj : (s.sl.set i c)[j]? = some c' := hj
  rw [put_at _ _ _ hi] at hj
  show SlotOk e (Own T θ (s.sl.set i c) (σ.set i ov)) θ H c' ((σ.set i ov)[j]?.bind id)
  rw [set_at _ _ _ hσ]
  by_cases q : j = i
  · rw [if_pos q] at hj ⊢
    cases hj
    exact SlotOk.keep k (fun _ _ z => z) no h
  · rw [if_neg q] at hj ⊢
    have z := R.slot j c' hj
    by_cases ho : ∃ d, c' = .ow d
    · obtain ⟨d, rfl⟩ := ho
      obtain ⟨pp, e1, r⟩ := z
      exact ⟨pp, e1, r.keep k rfl⟩
    · exact SlotOk.keep k (fun _ _ z => z) (fun d y => ho ⟨d, y⟩) z
/-- a slot's root is shared from now on -/
theorem StR.freeze (R : StR e T θ s σ H) (h : s.get i = .ow d) : ∃ p, σ[i]? = some (some (.ref p)) ∧ StR e T θ (s.put i (.sh d)) σ H ∧ Kp (Own T θ s.sl σ) H (Own T θ (s.put i (.sh d)).sl σ) H ∧
    Sh e.g (Own T θ (s.put i (.sh d)).sl σ) H d (.ref p) := by
  have hs := S.get_of h (by simp)
  have hi := S.get_lt h (by simp)
  obtain ⟨p, e1, r⟩ := R.slot i _ hs
  have hσ : i < σ.length := by rw [← R.len]; exact hi
  have eσ : σ[i]? = some (some (.ref p)) := by
    cases q : σ[i]? with
    | none => rw [q] at e1; cases e1
    | some x => rw [q] at e1; exact congrArg some e1
  have no : ∀ d', C.sh d ≠ .ow d' := fun d' => by simp
  have ls : ∀ a, Own T θ (s.sl.set i (.sh d)) σ a → Own T θ s.sl σ a := fun a z => by
    rcases z with z | z | ⟨j, z⟩
    · exact .inl z
    · exact .inr (.inl z)
    · exact .inr (.inr ⟨j, (own_put' hi no z).2⟩)
  have k : Kp (Own T θ s.sl σ) H (Own T θ (s.sl.set i (.sh d)) σ) H := Kp.less ls
  have at_p : OwnAt s.sl σ i p := ⟨d, hs, eσ⟩
  have np : ¬ Own T θ (s.sl.set i (.sh d)) σ p := fun z => by
    rcases z with z | z | ⟨j, z⟩
    · exact (R.sep i p at_p).1 z
    · exact (R.sep i p at_p).2 z
    · obtain ⟨hj, z⟩ := own_put' hi no z
      exact hj (R.inj j i p z at_p)
  have sh : Sh e.g (Own T θ (s.sl.set i (.sh d)) σ) H d (.ref p) := (r.keep k rfl).share np
  refine ⟨p, eσ, ⟨by simpa [S.put] using R.len, fun j c' hj => ?_, R.hlen, fun n d q h1 h2 => (R.hnd n d q h1 h2).keep k rfl, R.nd, fun j a z => R.sep j a (own_put' hi no z).2, fun j j' a z z' => R.inj j j' a (own_put' hi no z).2 (own_put' hi no z').2, R.hT, R.tr, R.tb⟩, k, sh⟩
  have hj : (s.sl.set i (.sh d))[j]? = some c' := hj
  rw [put_at _ _ _ hi] at hj
  by_cases q : j = i
  · subst q
    rw [if_pos rfl] at hj
    cases hj
    rw [eσ]
    exact ⟨_, rfl, sh⟩
  · rw [if_neg q] at hj
    have z := R.slot j c' hj
    by_cases ho : ∃ d, c' = .ow d
    · obtain ⟨d, rfl⟩ := ho
      obtain ⟨pp, e1, r⟩ := z
      exact ⟨pp, e1, r.keep k rfl⟩
    · exact SlotOk.keep k (fun _ _ z => z) (fun d y => ho ⟨d, y⟩) z
/-- a root in the air comes to a slot -/
theorem StR.putOw (R : StR e (And1 T p) θ s σ H) (hi : i < s.sl.length) (r : Root e.g (Own (And1 T p) θ s.sl σ) H d p) (nT : ¬ T p) :
    StR e T θ (s.put i (.ow d)) (σ.set i (some (.ref p))) H ∧ Kp (Own (And1 T p) θ s.sl σ) H (Own T θ (s.put i (.ow d)).sl (σ.set i (some (.ref p)))) H := by
  have hσ : i < σ.length := by rw [← R.len]; exact hi
  have own1 : ∀ j a, OwnAt (s.sl.set i (.ow d)) (σ.set i (some (.ref p))) j a → (j = i ∧ a = p) ∨ (j ≠ i ∧ OwnAt s.sl σ j a) := fun j a z => by
    obtain ⟨d', h1, h2⟩ := z
    rw [put_at _ _ _ hi] at h1
    rw [set_at _ _ _ hσ] at h2
    by_cases q : j = i
    · rw [if_pos q] at h1 h2
      cases h2
      exact .inl ⟨q, rfl⟩
    · rw [if_neg q] at h1 h2
      exact .inr ⟨q, d', h1, h2⟩
  have ls : ∀ a, Own T θ (s.sl.set i (.ow d)) (σ.set i (some (.ref p))) a → Own (And1 T p) θ s.sl σ a := fun a z => by
    rcases z with z | z | ⟨j, z⟩
    · exact .inl (.inl z)
    · exact .inr (.inl z)
    · rcases own1 j a z with ⟨_, rfl⟩ | ⟨_, z⟩
      · exact .inl (.inr rfl)
      · exact .inr (.inr ⟨j, z⟩)
  have k : Kp (Own (And1 T p) θ s.sl σ) H (Own T θ (s.sl.set i (.ow d)) (σ.set i (some (.ref p)))) H := Kp.less ls
  have pθ : p ∉ θ := fun z => R.hT p z (.inr rfl)
  have pS : ∀ j, ¬ OwnAt s.sl σ j p := fun j z => (R.sep j p z).1 (.inr rfl)
  refine ⟨⟨by simpa [S.put] using R.len, fun j c' hj => ?_, R.hlen, fun n d q h1 h2 => (R.hnd n d q h1 h2).keep k rfl, R.nd, fun j a z => ?_, fun j j' a z z' => ?_, fun a h z => R.hT a h (.inl z), fun a z => R.tr a (.inl z), R.tb⟩, k⟩
  · have hj : (s.sl.set i (.ow d))[j]? = some c' := hj
    rw [put_at _ _ _ hi] at hj
    show SlotOk e (Own T θ (s.sl.set i (.ow d)) (σ.set i (some (.ref p)))) θ H c' ((σ.set i (some (.ref p)))[j]?.bind id)
    rw [set_at _ _ _ hσ]
    by_cases q : j = i
    · rw [if_pos q] at hj ⊢
      cases hj
      exact ⟨p, rfl, r.keep k rfl⟩
    · rw [if_neg q] at hj ⊢
      have z := R.slot j c' hj
      by_cases ho : ∃ d, c' = .ow d
      · obtain ⟨d, rfl⟩ := ho
        obtain ⟨pp, e1, r⟩ := z
        exact ⟨pp, e1, r.keep k rfl⟩
      · exact SlotOk.keep k (fun _ _ z => z) (fun d y => ho ⟨d, y⟩) z
  · rcases own1 j a z with ⟨_, rfl⟩ | ⟨_, z⟩
    · exact ⟨nT, pθ⟩
    · exact ⟨fun y => (R.sep j a z).1 (.inl y), (R.sep j a z).2⟩
  · rcases own1 j a z with ⟨e1, e2⟩ | ⟨_, z⟩
    · rcases own1 j' a z' with ⟨e3, _⟩ | ⟨_, z'⟩
      · exact e1.trans e3.symm
      · exact absurd (e2 ▸ z') (pS j')
    · rcases own1 j' a z' with ⟨_, e4⟩ | ⟨_, z'⟩
      · exact absurd (e4 ▸ z) (pS j)
      · exact R.inj j j' a z z'
/-- a root in the air is let go: shared from now on -/
theorem StR.drop (R : StR e (And1 T p) θ s σ H) (nT : ¬ T p) : StR e T θ s σ H ∧ Kp (Own (And1 T p) θ s.sl σ) H (Own T θ s.sl σ) H ∧ ¬ Own T θ s.sl σ p := by
  have ls : ∀ a, Own T θ s.sl σ a → Own (And1 T p) θ s.sl σ a := fun a z => z.elim (fun z => .inl (.inl z)) .inr
  have k : Kp (Own (And1 T p) θ s.sl σ) H (Own T θ s.sl σ) H := Kp.less ls
  refine ⟨⟨R.len, fun j c' hj => ?_, R.hlen, fun n d q h1 h2 => (R.hnd n d q h1 h2).keep k rfl, R.nd, fun j a z => ⟨fun y => (R.sep j a z).1 (.inl y), (R.sep j a z).2⟩, R.inj, fun a h z => R.hT a h (.inl z), fun a z => R.tr a (.inl z), R.tb⟩, k, fun z => ?_⟩
  · have z := R.slot j c' hj
    by_cases ho : ∃ d, c' = .ow d
    · obtain ⟨d, rfl⟩ := ho
      obtain ⟨pp, e1, r⟩ := z
      exact ⟨pp, e1, r.keep k rfl⟩
    · exact SlotOk.keep k (fun _ _ z => z) (fun d y => ho ⟨d, y⟩) z
  · rcases z with z | z | ⟨j, z⟩
    · exact nT z
    · exact R.hT p z (.inr rfl)
    · exact (R.sep j p z).1 (.inr rfl)
/-- a new root in the air -/
theorem StR.air (R : StR e T θ s σ H) (hp : H p = none) (o : HO) (ho : isRt o := by exact True.intro) : StR e (And1 T p) θ s σ (upd H p o) ∧ Kp (Own T θ s.sl σ) H (Own (And1 T p) θ s.sl σ) (upd H p o) ∧ ¬ T p := by
  have up := upd_ext (o := o) hp
  have np := R.fresh hp
  have nT : ¬ T p := fun z => np (.inl z)
  have k : Kp (Own T θ s.sl σ) H (Own (And1 T p) θ s.sl σ) (upd H p o) := And.intro Pfx.refl fun a u ha _ n => ⟨fun z => by
    rcases z with (z | z) | z
    · exact n (.inl z)
    · rw [z, hp] at ha; cases ha
    · exact n (.inr z), .inl (up a u ha)⟩
  refine ⟨⟨R.len, fun j c' hj => ?_, R.hlen, fun n d q h1 h2 => ?_, R.nd, fun j a z => ⟨fun y => ?_, (R.sep j a z).2⟩, R.inj, fun a h z => ?_, fun a z => ?_, LamX.Tabs.ext R.tb up⟩, k, nT⟩
  · have z := R.slot j c' hj
    by_cases ho : ∃ d, c' = .ow d
    · obtain ⟨d, rfl⟩ := ho
      obtain ⟨pp, e1, r⟩ := z
      obtain ⟨o', ho⟩ := r.some
      exact ⟨pp, e1, r.keep k (by rw [ho]; exact up _ _ ho)⟩
    · exact SlotOk.keep k (fun _ _ z => z) (fun d y => ho ⟨d, y⟩) z
  · have r := R.hnd n d q h1 h2
    obtain ⟨o', ho⟩ := r.some
    exact r.keep k (by rw [ho]; exact up _ _ ho)
  · rcases y with y | y
    · exact (R.sep j a z).1 y
    · exact np (y ▸ ownS z)
  · rcases z with z | z
    · exact R.hT a h z
    · exact np (z ▸ ownH h)
  · rcases z with z | z
    · obtain ⟨o', q, r⟩ := R.tr a z
      exact ⟨o', up a o' q, r⟩
    · exact ⟨o, by rw [z, upd_same], ho⟩
/-- a new thing that is shared at once -/
theorem StR.newSh (R : StR e T θ s σ H) (hp : H p = none) (o : HO) : StR e T θ s σ (upd H p o) ∧ Kp (Own T θ s.sl σ) H (Own T θ s.sl σ) (upd H p o) ∧ ¬ Own T θ s.sl σ p :=
  ⟨R.ext (upd_ext hp), Kp.ext (upd_ext hp), R.fresh hp⟩
/-- a slot's root is changed -/
theorem StR.mutS (R : StR e T θ s σ H) (h : s.get i = .ow d) (ep : σ[i]? = some (some (.ref p))) {o : HO} (r : Root e.g (Own T θ s.sl σ) (upd H p o) d' p) :
    StR e T θ (s.put i (.ow d')) σ (upd H p o) ∧ Kp (Own T θ s.sl σ) H (Own T θ (s.put i (.ow d')).sl σ) (upd H p o) := by
  have hs := S.get_of h (by simp)
  have hi := S.get_lt h (by simp)
  have at_p : OwnAt s.sl σ i p := ⟨d, hs, ep⟩
  have hr0 : ∃ d, Root e.g (Own T θ s.sl σ) H d p := (R.rootAt at_p).imp fun _ h => h.2
  have own1 : ∀ j a, OwnAt (s.sl.set i (.ow d')) σ j a ↔ OwnAt s.sl σ j a := fun j a => by
    constructor
    · rintro ⟨x, h1, h2⟩
      rw [put_at _ _ _ hi] at h1
      by_cases q : j = i
      · subst q; exact ⟨d, hs, h2⟩
      · rw [if_neg q] at h1; exact ⟨x, h1, h2⟩
    · rintro ⟨x, h1, h2⟩
      by_cases q : j = i
      · subst q; exact ⟨d', by rw [put_at _ _ _ hi, if_pos rfl], h2⟩
      · exact ⟨x, by rw [put_at _ _ _ hi, if_neg q]; exact h1, h2⟩
  have eO : ∀ a, Own T θ (s.sl.set i (.ow d')) σ a ↔ Own T θ s.sl σ a := fun a => by
    constructor
    · rintro (z | z | ⟨j, z⟩)
      · exact .inl z
      · exact .inr (.inl z)
      · exact .inr (.inr ⟨j, (own1 j a).mp z⟩)
    · rintro (z | z | ⟨j, z⟩)
      · exact .inl z
      · exact .inr (.inl z)
      · exact .inr (.inr ⟨j, (own1 j a).mpr z⟩)
  have k : Kp (Own T θ s.sl σ) H (Own T θ (s.sl.set i (.ow d')) σ) (upd H p o) := And.intro Pfx.refl fun a u ha _ n => ⟨fun z => n ((eO a).mp z), .inl (by
    rw [upd_ne (fun (z : a = p) => n (by rw [z]; exact ownS at_p))]; exact ha)⟩
  have k2 : Kp (Own T θ s.sl σ) (upd H p o) (Own T θ (s.sl.set i (.ow d')) σ) (upd H p o) := Kp.less fun a z => (eO a).mp z
  have pne : ∀ j a, j ≠ i → OwnAt s.sl σ j a → a ≠ p := fun j a hj z y => hj (R.inj j i p (y ▸ z) at_p)
  have hne : ∀ a ∈ θ, a ≠ p := fun a ha y => (R.sep i p at_p).2 (y ▸ ha)
  refine ⟨⟨by simpa [S.put] using R.len, fun j c' hj => ?_, R.hlen, fun n x q h1 h2 => ?_, R.nd, fun j a z => R.sep j a ((own1 j a).mp z), fun j j' a z z' => R.inj j j' a ((own1 j a).mp z) ((own1 j' a).mp z'), R.hT, fun a z => ?_, tabs_root R.tb hr0⟩, k⟩
  · have hj : (s.sl.set i (.ow d'))[j]? = some c' := hj
    rw [put_at _ _ _ hi] at hj
    by_cases q : j = i
    · rw [if_pos q] at hj
      cases hj
      rw [q, ep]
      exact ⟨p, rfl, r.keep k2 rfl⟩
    · rw [if_neg q] at hj
      have z := R.slot j c' hj
      by_cases ho : ∃ d, c' = .ow d
      · obtain ⟨x, rfl⟩ := ho
        obtain ⟨pp, e1, r'⟩ := z
        have hpp : pp ≠ p := by
          refine pne j pp q ⟨x, hj, ?_⟩
          cases w : σ[j]? with
          | none => rw [w] at e1; cases e1
          | some y => rw [w] at e1; exact congrArg some e1
        exact ⟨pp, e1, r'.keep k (upd_ne hpp)⟩
      · exact SlotOk.keep k (fun _ _ z => z) (fun d y => ho ⟨d, y⟩) z
  · exact (R.hnd n x q h1 h2).keep k (upd_ne (hne q (List.mem_of_getElem? h2)))
  · have y : a ≠ p := fun y => (R.sep i p at_p).1 (y ▸ z)
    rw [upd_ne y]; exact R.tr a z
/-- a handle's root is changed -/
theorem StR.mutH (R : StR e T θ s σ H) {n : Nat} (h : s.om[n]? = some d) (ep : θ[n]? = some p) {o : HO} (r : Root e.g (Own T θ s.sl σ) (upd H p o) d' p) :
    StR e T θ { s with om := s.om.set n d' } σ (upd H p o) ∧ Kp (Own T θ s.sl σ) H (Own T θ s.sl σ) (upd H p o) := by
  have hn : n < s.om.length := (List.getElem?_eq_some_iff.mp h).1
  have mp : p ∈ θ := List.mem_of_getElem? ep
  have hr0 : ∃ d, Root e.g (Own T θ s.sl σ) H d p := ⟨d, R.hnd n d p h ep⟩
  have k : Kp (Own T θ s.sl σ) H (Own T θ s.sl σ) (upd H p o) := And.intro Pfx.refl fun a u ha _ n => ⟨n, .inl (by
    rw [upd_ne (fun (z : a = p) => n (by rw [z]; exact ownH mp))]; exact ha)⟩
  refine ⟨⟨R.len, fun j c' hj => ?_, by simpa using R.hlen, fun m x q h1 h2 => ?_, R.nd, R.sep, R.inj, R.hT, fun a z => ?_, tabs_root R.tb hr0⟩, k⟩
  · have z := R.slot j c' hj
    by_cases ho : ∃ d, c' = .ow d
    · obtain ⟨x, rfl⟩ := ho
      obtain ⟨pp, e1, r'⟩ := z
      have at_j : OwnAt s.sl σ j pp := ⟨x, hj, by
        cases w : σ[j]? with
        | none => rw [w] at e1; cases e1
        | some y => rw [w] at e1; exact congrArg some e1⟩
      exact ⟨pp, e1, r'.keep k (upd_ne fun y => (R.sep j pp at_j).2 (y ▸ mp))⟩
    · exact SlotOk.keep k (fun _ _ z => z) (fun d y => ho ⟨d, y⟩) z
  · have h1 : (s.om.set n d')[m]? = some x := h1
    by_cases q1 : m = n
    · subst q1
      rw [List.getElem?_set_self hn] at h1
      cases h1
      rw [ep] at h2
      cases h2
      exact r
    · rw [List.getElem?_set_ne (Ne.symm q1)] at h1
      have hq : q ≠ p := fun y => q1 (by
        have l1 := (List.getElem?_eq_some_iff.mp h2)
        have l2 := (List.getElem?_eq_some_iff.mp ep)
        obtain ⟨a1, b1⟩ := l1
        obtain ⟨a2, b2⟩ := l2
        exact (List.getElem_inj R.nd).mp (b1.trans (y.trans b2.symm)))
      exact (R.hnd m x q h1 h2).keep k (upd_ne hq)
  · have y : a ≠ p := fun y => R.hT p mp (y ▸ z)
    rw [upd_ne y]; exact R.tr a z
end
end VM

set_option linter.all false
set_option maxRecDepth 100000
/-! VM06: readings that are made of the evaluator's functions. -/
namespace VM
open PySem L2
/-- from one state to another -/
structure Stp (e : Env2) (T : AP1) (θ : List Addr) (s : S) (T' : AP1) (θ' : List Addr) (s' : S) (σ : L2.St) (H H' : Hp) : Prop where
  st : StR e T' θ' s' σ H'
  pf : Pfx θ θ'
  kp : Kp (Own T θ s.sl σ) H (Own T' θ' s'.sl σ) H'
  tm : ∀ a, T a → T' a
  tk : ∀ a, T a → H' a = H a
/-- a value that is looked at stands for a datum: it is shared, or a root -/
def Lk (g : G) (O : OP) (H : Hp) (d : D) (v : V) : Prop := Sh g O H d v ∨ ∃ p, v = .ref p ∧ Root g O H d p
/-- how answers stand: from T; behind the step T', θ', s', H' -/
abbrev Rl (α β : Type) := AP1 → AP1 → List Addr → S → L2.St → Hp → α → β → Prop
def RC (e : Env2) : Rl C V := fun T T' θ' s' σ H' c v => match c with
  | .ow d => ∃ p, v = .ref p ∧ T' = And1 T p ∧ ¬ T p ∧ Root e.g (Own T' θ' s'.sl σ) H' d p
  | .un => False
  | c => T' = T ∧ SlotOk e (Own T θ' s'.sl σ) θ' H' c (some v)
def RD (e : Env2) : Rl D V := fun T T' θ' s' σ H' d v => T' = T ∧ Sh e.g (Own T θ' s'.sl σ) H' d v
def RP (e : Env2) : Rl PV V := fun T T' θ' s' σ H' x v => T' = T ∧ match x with
  | .val d => Sh e.g (Own T θ' s'.sl σ) H' d v
  | .slot i => σ[i]? = some (some v)
  | .hnd n => ∃ p, v = .ref p ∧ θ'[n]? = some p
def RB : Rl Bool Bool := fun T T' _ _ _ _ b c => T' = T ∧ b = c
def XAt (e : Env2) (O : OP) (H : Hp) (d : Addr) (fs : List (Str × D)) : Prop := ∃ fv, H d = some (.xd fv) ∧ ¬ O d ∧ ShF e.g O H fs fv
section
variable (e : Env2) (W : WX) {α β : Type} (R : Rl α β)
def Post (T : AP1) (θ : List Addr) (s : S) (σ : L2.St) (H : Hp) (r : Out α) (Q : β → Hp → Prop) : Prop := match r with
  | .ok c s' => ∀ v T' θ' H', Stp e T θ s T' θ' s' σ H H' → R T T' θ' s' σ H' c v → Q v H'
  | .exc k fs s' => ∀ θ' H' d, Stp e T θ s T θ' s' σ H H' → XAt e (Own T θ' s'.sl σ) H' d fs → W (.ref (e.g.ca k)) (some d) σ H'
  | .bad => False
def TO (f : S → Out α) : L2.St → Hp → (β → Hp → Prop) → Prop := fun σ H Q => ∃ T θ s, StR e T θ s σ H ∧ Post e W R T θ s σ H (f s) Q
end
abbrev TEv (e : Env2) (W : WX) (f : S → Out C) : TE := TO e W (RC e) f
abbrev TDv (e : Env2) (W : WX) (f : S → Out D) : TE := TO e W (RD e) f
abbrev TPv (e : Env2) (W : WX) (f : S → Out PV) : TE := TO e W (RP e) f
abbrev TTv (e : Env2) (W : WX) (f : S → Out Bool) : TT := TO e W RB f
section
variable {e : Env2} {W : WX} {α β γ δ : Type} {R : Rl α β} {g : G} {O O' : OP} {T T1 T2 : AP1} {θ θ1 θ2 : List Addr} {s s1 s2 : S} {σ : L2.St} {H H1 H2 : Hp} {d : D} {v : V}
theorem Stp.refl (h : StR e T θ s σ H) : Stp e T θ s T θ s σ H H := ⟨h, fun _ _ z => z, Kp.refl, fun _ z => z, fun _ _ => rfl⟩
theorem Stp.trans (a : Stp e T θ s T1 θ1 s1 σ H H1) (b : Stp e T1 θ1 s1 T2 θ2 s2 σ H1 H2) : Stp e T θ s T2 θ2 s2 σ H H2 :=
  ⟨b.st, fun n p h => b.pf n p (a.pf n p h), a.kp.trans b.kp, fun c h => b.tm c (a.tm c h), fun c h => (b.tk c (a.tm c h)).trans (a.tk c h)⟩
/-- the origin moves on -/
theorem Post.shift {r : Out α} {Q : β → Hp → Prop} (a : Stp e T θ s T θ1 s1 σ H H1) (p : Post e W R T θ s σ H r Q) : Post e W R T θ1 s1 σ H1 r Q := by
  cases r with
  | ok c s' => exact fun v T' θ' H' st rc => p v T' θ' H' (a.trans st) rc
  | exc k fs s' => exact fun θ' H' d st x => p θ' H' d (a.trans st) x
  | bad => exact p
theorem Post.mono {r : Out α} {Q Q' : β → Hp → Prop} (p : Post e W R T θ s σ H r Q) (h : ∀ v H, Q v H → Q' v H) : Post e W R T θ s σ H r Q' := by
  cases r with
  | ok c s' => exact fun v T' θ' H' st rc => h _ _ (p v T' θ' H' st rc)
  | exc k fs s' => exact p
  | bad => exact p
/-- the first part of two -/
theorem Post.bind {R1 : Rl γ δ} {r : Out γ} {k : γ → S → Out α} {Q : β → Hp → Prop} {Q1 : δ → Hp → Prop} (p : Post e W R T θ s σ H (r.bind k) Q)
    (h : ∀ c s1 v T1 θ1 H1, Stp e T θ s T1 θ1 s1 σ H H1 → R1 T T1 θ1 s1 σ H1 c v → (∀ z, T1 = T → z = Post e W R T θ1 s1 σ H1 (k c s1) Q → z) → Post e W R T θ s σ H (k c s1) Q → Q1 v H1) : Post e W R1 T θ s σ H r Q1 := by
  cases r with
  | ok c s1 => exact fun v T1 θ1 H1 st rc => h c s1 v T1 θ1 H1 st rc (fun z e1 e2 => by subst e1 e2; exact p.shift st) p
  | exc k fs s' => exact p
  | bad => exact p
theorem Post.bindS {R1 : Rl γ δ} {r : Out γ} {k : γ → S → Out α} {Q : β → Hp → Prop} {Q1 : δ → Hp → Prop} (p : Post e W R T θ s σ H (r.bind k) Q) (hT : ∀ {T1 θ1 s1 H1 c v}, R1 T T1 θ1 s1 σ H1 c v → T1 = T)
    (h : ∀ c s1 v θ1 H1, Stp e T θ s T θ1 s1 σ H H1 → R1 T T θ1 s1 σ H1 c v → Post e W R T θ1 s1 σ H1 (k c s1) Q → Q1 v H1) : Post e W R1 T θ s σ H r Q1 :=
  p.bind fun c s1 v T1 θ1 H1 st rc z _ => by
    obtain rfl := hT rc
    exact h c s1 v θ1 H1 st rc (z _ rfl rfl)
theorem RD.eq {T1 θ1 s1 H1 d v} (h : RD e T T1 θ1 s1 σ H1 d v) : T1 = T := h.1
theorem RP.eq {T1 θ1 s1 H1 d v} (h : RP e T T1 θ1 s1 σ H1 d v) : T1 = T := h.1
theorem RB.eq {T1 θ1 s1 H1 d v} (h : RB T T1 θ1 s1 σ H1 d v) : T1 = T := h.1
/-- what is looked at stands on -/
theorem RP.on {x : PV} (h : RP e T T θ1 s1 σ H1 x v) (st : Stp e T θ1 s1 T θ2 s2 σ H1 H2) : RP e T T θ2 s2 σ H2 x v := by
  obtain ⟨_, h⟩ := h
  refine ⟨rfl, ?_⟩
  cases x with
  | val d => exact Sh.keep st.kp d v h
  | slot i => exact h
  | hnd n => obtain ⟨p, e1, e2⟩ := h; exact ⟨p, e1, st.pf n p e2⟩
theorem RP.lk (h : Sh e.g (Own T θ s.sl σ) H d v) : RP e T T θ s σ H (lkV d) v := by
  cases d with
  | hnd n =>
    obtain ⟨a, e1, e2⟩ := h
    exact ⟨rfl, a, e1, e2⟩
  | _ => exact ⟨rfl, h⟩
theorem RD.on (h : RD e T T θ1 s1 σ H1 d v) (st : Stp e T θ1 s1 T θ2 s2 σ H1 H2) : RD e T T θ2 s2 σ H2 d v := ⟨rfl, Sh.keep st.kp d v h.2⟩
theorem RP.de {x : PV} (h : RP e T T θ1 s1 σ H1 x v) (R : StR e T θ1 s1 σ H1) (hd : x.de s1 = some d) : Lk e.g (Own T θ1 s1.sl σ) H1 d v := by
  obtain ⟨_, h⟩ := h
  cases x with
  | val d' => cases hd; exact .inl h
  | slot i =>
    have hd : (s1.get i).d? = some d := hd
    cases q : s1.get i with
    | sh d' =>
      rw [q] at hd; cases hd
      obtain ⟨u, e1, r⟩ := R.slot i _ (S.get_of q (by simp))
      rw [h] at e1; cases e1
      exact .inl r
    | ow d' =>
      rw [q] at hd; cases hd
      obtain ⟨p, e1, r⟩ := R.slot i _ (S.get_of q (by simp))
      rw [h] at e1; cases e1
      exact .inr ⟨p, rfl, r⟩
    | _ => rw [q] at hd; cases hd
  | hnd n =>
    obtain ⟨p, e1, e2⟩ := h
    exact .inr ⟨p, e1, R.hnd n d p hd e2⟩
/-! ### values -/
theorem Lk.int {i : Int} (h : Lk g O H (.int i) v) : v = .int i := h.elim id fun ⟨_, _, z⟩ => z.elim
theorem Lk.bl {i : Bool} (h : Lk g O H (.bl i) v) : v = .bl i := h.elim id fun ⟨_, _, z⟩ => z.elim
theorem Lk.str {i : Str} (h : Lk g O H (.str i) v) : v = .str i := h.elim id fun ⟨_, _, z⟩ => z.elim
theorem Lk.non (h : Lk g O H .non v) : v = .non := h.elim id fun ⟨_, _, z⟩ => z.elim
theorem Lk.lst {ds : List D} (h : Lk g O H (.lst ds) v) : ∃ a vs, v = .ref a ∧ H a = some (.lst vs) ∧ Shs g O H ds vs := by
  rcases h with ⟨a, vs, e, h, _, r⟩ | ⟨p, e, vs, h, r⟩
  · exact ⟨a, vs, e, h, r⟩
  · exact ⟨p, vs, e, h, r⟩
theorem Lk.tup {ds : List D} (h : Lk g O H (.tup ds) v) : ∃ a vs, v = .ref a ∧ TupAt g.K O H a vs ∧ Shs g O H ds vs := h.elim id fun ⟨_, _, z⟩ => z.elim
theorem Lk.prs {ds : List D} (h : Lk g O H (.prs ds) v) : ∃ a vs, v = .ref a ∧ H a = some (.tup vs) ∧ ¬ O a ∧ Shs g O H ds vs := h.elim id fun ⟨_, _, z⟩ => z.elim
theorem Lk.rol {ds : List D} (h : Lk g O H (.rol ds) v) : ∃ a vs, v = .ref a ∧ RoL g.K O H a vs ∧ Shs g O H ds vs := h.elim id fun ⟨_, _, z⟩ => z.elim
theorem Lk.dK {ds : List (Key × D)} (h : Lk g O H (.dK ds) v) : ∃ a vs, v = .ref a ∧ Rd H a (.dK vs) ∧ ShK g O H ds vs := by
  rcases h with ⟨a, vs, e, h, _, r⟩ | ⟨p, e, vs, h, r⟩
  · exact ⟨a, vs, e, h, r⟩
  · exact ⟨p, vs, e, .inl h, r⟩
theorem Lk.dN {ds : List (NestedKey × D)} (h : Lk g O H (.dN ds) v) : ∃ a es, v = .ref a ∧ DicAt g H a es ∧ ShN g O H ds es := by
  rcases h with ⟨a, vs, e, h, _, r⟩ | ⟨p, e, vs, h, r⟩
  · exact ⟨a, vs, e, h, r⟩
  · exact ⟨p, vs, e, .inl h, r⟩
theorem Shs.length : ∀ {ds : List D} {vs : List V}, Shs g O H ds vs → vs.length = ds.length
  | [], _, h => by cases h; rfl
  | _ :: ds, _, ⟨v, r, e, _, h⟩ => by subst e; simp [Shs.length h]
theorem Shs.get : ∀ {ds : List D} {vs : List V}, Shs g O H ds vs → ∀ {i : Nat} {d : D}, ds[i]? = some d → ∃ v, vs[i]? = some v ∧ Sh g O H d v
  | [], _, _, i, d, h => by simp at h
  | _ :: ds, _, ⟨v, r, e, h0, h⟩, 0, d, hd => by subst e; simp at hd; subst hd; exact ⟨v, rfl, h0⟩
  | _ :: ds, _, ⟨v, r, e, h0, h⟩, i + 1, d, hd => by subst e; exact Shs.get h (i := i) (by simpa using hd)
theorem Shs.app : ∀ {ds es : List D} {vs us : List V}, Shs g O H ds vs → Shs g O H es us → Shs g O H (ds ++ es) (vs ++ us)
  | [], _, _, _, h, h' => by cases h; exact h'
  | _ :: ds, _, _, _, ⟨v, r, e, h0, h⟩, h' => by subst e; exact ⟨v, r ++ _, rfl, h0, Shs.app h h'⟩
theorem Shs.take : ∀ {ds : List D} {vs : List V} (n : Nat), Shs g O H ds vs → Shs g O H (ds.take n) (vs.take n)
  | [], _, n, h => by cases h; cases n <;> rfl
  | _ :: ds, _, 0, h => rfl
  | _ :: ds, _, n + 1, ⟨v, r, e, h0, h⟩ => by subst e; exact ⟨v, r.take n, rfl, h0, Shs.take n h⟩
theorem Shs.drop : ∀ {ds : List D} {vs : List V} (n : Nat), Shs g O H ds vs → Shs g O H (ds.drop n) (vs.drop n)
  | [], _, n, h => by cases h; cases n <;> rfl
  | _ :: ds, _, 0, h => h
  | _ :: ds, _, n + 1, ⟨v, r, e, h0, h⟩ => by subst e; exact Shs.drop n h
theorem Shs.one {d : D} {v : V} (h : Sh g O H d v) : Shs g O H [d] [v] := ⟨v, [], rfl, h, rfl⟩
theorem Shs.cons {d : D} {v : V} {ds : List D} {vs : List V} (h : Sh g O H d v) (h' : Shs g O H ds vs) : Shs g O H (d :: ds) (v :: vs) := ⟨v, vs, rfl, h, h'⟩
theorem Shs.rev : ∀ {ds : List D} {vs : List V}, Shs g O H ds vs → Shs g O H ds.reverse vs.reverse
  | [], _, h => by cases h; rfl
  | _ :: ds, _, ⟨v, r, e, h0, h⟩ => by
    subst e
    rw [List.reverse_cons, List.reverse_cons]
    exact (Shs.rev h).app (Shs.one h0)
theorem Shs.set : ∀ {ds : List D} {vs : List V} (i : Nat) {d : D} {v : V}, Shs g O H ds vs → Sh g O H d v → Shs g O H (ds.set i d) (vs.set i v)
  | [], _, i, _, _, h, _ => by cases h; rfl
  | _ :: ds, _, 0, _, _, ⟨v, r, e, h0, h⟩, h' => by subst e; exact ⟨_, r, rfl, h', h⟩
  | _ :: ds, _, i + 1, _, _, ⟨v, r, e, h0, h⟩, h' => by subst e; exact ⟨v, _, rfl, h0, Shs.set i h h'⟩
theorem Shs.erase : ∀ {ds : List D} {vs : List V} (i : Nat), Shs g O H ds vs → Shs g O H (ds.eraseIdx i) (vs.eraseIdx i)
  | [], _, i, h => by cases h; cases i <;> rfl
  | _ :: ds, _, 0, ⟨v, r, e, h0, h⟩ => by subst e; exact h
  | _ :: ds, _, i + 1, ⟨v, r, e, h0, h⟩ => by subst e; exact ⟨v, _, rfl, h0, Shs.erase i h⟩
theorem Shs.nil : Shs g O H [] [] := rfl
theorem Shs.ints : ∀ {ds : List D} {vs : List V} {is : List Int}, Shs g O H ds vs → intsOf ds = some is → vs = is.map V.int := by
  intro ds
  induction ds with
  | nil => intro vs is h h2; cases h; cases h2; rfl
  | cons x ds ih =>
    intro vs is h h2
    obtain ⟨v, r, e, h0, h⟩ := h
    cases x with
    | int i =>
      have h2 : (intsOf ds).map (i :: ·) = some is := h2
      cases q : intsOf ds with
      | none => rw [q] at h2; cases h2
      | some js =>
        rw [q] at h2; cases h2
        have hv : v = .int i := h0
        rw [e, hv, ih h q]
        rfl
    | _ => exact nomatch (h2 : none = some is)
theorem Shs.bools : ∀ {ds : List D} {vs : List V} {is : List Bool}, Shs g O H ds vs → boolsOf ds = some is → vs = is.map V.bl := by
  intro ds
  induction ds with
  | nil => intro vs is h h2; cases h; cases h2; rfl
  | cons x ds ih =>
    intro vs is h h2
    obtain ⟨v, r, e, h0, h⟩ := h
    cases x with
    | bl i =>
      have h2 : (boolsOf ds).map (i :: ·) = some is := h2
      cases q : boolsOf ds with
      | none => rw [q] at h2; cases h2
      | some js =>
        rw [q] at h2; cases h2
        have hv : v = .bl i := h0
        rw [e, hv, ih h q]
        rfl
    | _ => exact nomatch (h2 : none = some is)
theorem Shs.ofInts : ∀ (is : List Int), Shs g O H (is.map D.int) (is.map V.int)
  | [] => rfl
  | i :: is => ⟨.int i, _, rfl, rfl, Shs.ofInts is⟩
/-! ### answers given at once -/
theorem Post.pure {r : Out α} {Q : β → Hp → Prop} {c : α} (h : r = .ok c s) (st : StR e T θ s σ H) (p : Post e W R T θ s σ H r Q) {b : β} (rc : R T T θ s σ H c b) : Q b H := by
  subst h
  exact p b T θ H (Stp.refl st) rc
end
end VM

set_option linter.all false
set_option maxRecDepth 100000
/-! VMT: tuples that are made bear no dict of their own. -/
namespace VM
open PySem PySem.Spec PyProof.Rows L2
/-- a new tuple -/
abbrev newTup (us : List Value) : Obj := { cls := .type "tuple", data := .seq us.toArray }
section
variable {X : Cx} {pins : List (Addr × Obj)} {σ : L2.St} {H : Hp} {s : Shared}
theorem laidT {a : Addr} {h' : Heap} {t' : Nat} {xs : List V} {us : List Value} (I : Inv X pins σ H s) (k : ∀ b u, s.heap.get? b = some u → h'.get? b = some u) (hp : s.heap.objs.size ≤ a) (r : Vals xs us) (z : xs.length ≤ sizeLine)
    (e : h'.get? a = some (newTup us)) : Inv X pins σ (upd H a (.frz (newTup us) (.tup xs))) { s with heap := h', toks := t' } :=
  I.laid (t' := t') k hp (show ObjOk X.prog X.w _ h' a (.frz (newTup us) (.tup xs)) from ⟨e, z, us, r, _, e, rfl, _, rfl⟩)
/-- a new tuple, wherever it stands -/
def NewT (H : Hp) (xs : List V) (Q : VK) : Prop := ∀ (p : Addr) (o : Obj), H p = none → o.dict = none → Q (.ref p) (upd H p (.frz o (.tup xs)))
theorem epT {t' : Nat} {xs : List V} {us : List Value} {Q : VK} (I : Inv X pins σ H s) (r : Vals xs us) (z : xs.length ≤ sizeLine) (q : NewT H xs Q) : EP X pins σ Q (.ref s.heap.objs.size) { s with heap := s.heap.push (newTup us), toks := t' } :=
  ⟨.ref s.heap.objs.size, _, laidT (t' := t') I (fun b u e => Heap.get?_push_of_some _ e) (Nat.le_refl _) r z (Heap.get?_push_size _ rfl), rfl, q _ _ (I.hok.fresh (Nat.le_refl _)) rfl⟩
end
section
variable {X : Cx} {es : List Expr} {pos : Pos}
def tTupF (t : TA) : TE := fun σ H Q => t σ H fun xs H1 => xs.length ≤ sizeLine ∧ NewT H1 xs Q
theorem pe_tupF {x1} {t : TA} (h : PA X es t) : PE X (.Tuple es x1 pos) (tTupF t) := ⟨fun pins s σ H Q I hq => by
  refine wpAny_Tuple_spliced (thn (h.run pos pins s σ H _ I hq) fun us s1 ⟨xs, H1, I1, r, z, q⟩ => ⟨by rw [← r.length]; exact z, ?_⟩)
  exact epT (t' := s1.toks) I1 r z q⟩
/-- t + u -/
def rCatF (K : PySem.W.Frag) : R2 := fun x y H Q => ∃ a b xs ys, x = .ref a ∧ y = .ref b ∧ SqT K H a xs ∧ SqT K H b ys ∧ xs.length + ys.length ≤ sizeLine ∧
  (xs = [] → Q (.ref b) H) ∧ (ys = [] → Q (.ref a) H) ∧ NewT H (xs ++ ys) Q
theorem op_catF : OpR X (binaryOp .Add) (rCatF X.K) := by
  intro pins s σ H x y v u Q I rx ry ⟨a, b, xs, ys, ex, ey, ha, hb, hz, q0, q1, q2⟩
  subst ex ey
  cases rx
  cases ry
  obtain ⟨ia, ra, pa, _⟩ := I.tuple ha
  obtain ⟨ib, rb, pb, _⟩ := I.tuple hb
  by_cases hx : xs = []
  · subst hx
    cases ra
    exact cat_tup0 pa pb ⟨.ref b, H, I, rfl, q0 rfl⟩
  · refine HT.cat_tup pa pb (fun z => hx (ra.nil_iff.mp z)) (fun z => ⟨.ref a, H, I, rfl, q1 (rb.nil_iff.mp z)⟩) (fun _ => ?_) (by rw [← ra.length, ← rb.length]; exact hz)
    exact epT (t' := s.toks) I (ra.append rb) (by rw [List.length_append]; exact hz) q2
/-- t[lo:hi] -/
def rSlF (K : PySem.W.Frag) : V → Option Int → Option Int → Hp → VK → Prop := fun x lo hi H Q => ∃ a xs, x = .ref a ∧ SqT K H a xs ∧ (HT.sIx xs.length 0 lo = 0 ∧ HT.sIx xs.length xs.length hi = xs.length → Q (.ref a) H) ∧ NewT H (cutV xs lo hi) Q
theorem sl_tupF : SlR X (rSlF X.K) := by
  intro pins s σ H x v vl vu lo hi sl Q I rx hs pl pu ⟨a, xs, ex, hx, q1, q2⟩
  subst ex
  cases rx
  obtain ⟨its, r, ht, hz⟩ := I.tuple hx
  have hlen : its.toArray.size = xs.length := by rw [List.size_toArray]; exact r.length.symm
  refine ⟨"tuple", _, PyProof.Rows.slot_tuple_getitem.lookup, ht.typeIs, ?_⟩
  by_cases hw : HT.sIx xs.length 0 lo = 0 ∧ HT.sIx xs.length xs.length hi = xs.length
  · exact getItem_tuple_whole ht hs pl pu (by rw [hlen]; exact hw) ⟨.ref a, H, I, rfl, q1 hw⟩
  · refine HT.getItem_tuple_cut ht hs pl pu (by rw [hlen]; exact hw) ?_ (by rw [hlen]; exact hz)
    rw [hlen]
    exact epT (t' := s.toks) I ((r.drop (HT.sIx xs.length 0 lo)).take (HT.sIx xs.length xs.length hi - HT.sIx xs.length 0 lo)) (Nat.le_trans (cutV_length xs lo hi) hz) q2
/-- tuple(list), tuple(tuple) -/
theorem call_tupF : CallR X (.type "tuple") (fun xs H Q => ∃ p ys, xs = [.ref p] ∧ ((SqL X.K H p ys ∧ NewT H ys Q) ∨ (SqT X.K H p ys ∧ Q (.ref p) H))) := by
  intro pins s σ H xs us Q I r ⟨p, ys, ex, h⟩
  subst ex
  obtain ⟨u, rfl, rx⟩ := vals1 r
  cases rx
  rcases h with ⟨hq, q⟩ | ⟨hq, q⟩
  · obtain ⟨its, r', pl, hz⟩ := I.list hq
    have hlen := r'.length
    refine call_tuple_list pl.isList (fun h' kp => ?_) (by simp only [List.size_toArray] <;> omega)
    have I1 : Inv X pins σ H { s with heap := h' } := I.kept (t' := s.toks) kp
    exact epT (t' := s.toks) I1 r' hz q
  · obtain ⟨its, r', pl, hz⟩ := I.tuple hq
    exact call_tuple_same pl ⟨.ref p, H, I, rfl, q⟩
/-- tuple(range(..)) -/
def tTupRgF (te : L2.St → Hp → (Int → Int → Hp → Prop) → Prop) : TE := fun σ H Q => te σ H fun a b H1 => RgOk a b ∧ NewT H1 (rgV a b) Q
theorem pe_tupRgF {e : Expr} {te : L2.St → Hp → (Int → Int → Hp → Prop) → Prop} {p pos : Pos} (hc : X.calm = true) (hg : Gl X "tuple") (hm : X.mg "tuple" = none) (he : PRg X e te) (na : starEach [e] X.env = (false, eval e X.env) :: starEach [] X.env := by rfl) :
    PE X (.Call (.Name "tuple" p) [e] [] pos) (tTupRgF te) := ⟨fun pins s σ H Q I h => by
  refine Call_ (ld_blt I hg hm boot_tuple (PyProof.Rows.callWith_type1 (args_cons (thn (he pins s σ H _ I h) fun x s1 ⟨r, a, b, t, u, v, H1, ex, hr, I1, ok, q⟩ => args_nil ?_) na) na))
  subst ex
  obtain ⟨b1, b2, b3, b4, b5⟩ := ok
  refine call_tuple_range (n := (b - a).toNat) (I1.ok.hd hc) hr (small_one b1 b2 b3 b4) (rangeSize_nat a b) b5 fun h' tk acc hk hi => ?_
  have I2 : Inv X pins σ H1 { s1 with heap := h', toks := tk } := I1.kept hk
  have z := epT (t' := tk) I2 (us := acc.toList) (vals_rg hi) (by rw [rgV_length, sizeLine_eq]; omega) q
  rw [newTup, Array.toArray_toList] at z
  exact z⟩
/-! ### t * k -/
section
variable {prog : Program} {w : World} {A : Around} {E : Value → Shared → Prop}
theorem mul_same (l : Addr) (items : Array Value) (n : Nat) (dd : Option Addr) (sl : Array (Option Value)) (x : Int) (u : Tok) (c0 : (decide (x < -(2 ^ 63)) || decide (x ≥ 2 ^ 63)) = false) (c1 : (items.isEmpty || x == 1) = true) :
    Meets (Builtin.«tuple.__mul__» ⟨[.ref l, .int x u], []⟩) (fun _ R s => s.heap.get? l = some { cls := .type "tuple", dict := dd, data := .seq items n, slots := sl } ∧ R (.ok (.ret (.ref l))) s) :=
  .of_wp fun prog w A R s h => by
    obtain ⟨hp, g, d, tk, os⟩ := s
    obtain ⟨hl, h⟩ := h
    have f1 := AutoSeq1.idx_int
    wp_walk using wpAny_loadPart' hl
    repeat (first
      | (refine wpAny_ite_false (decide_eq_false (by rw [c0]; exact Bool.false_ne_true)) ?_; wp_walk using wpAny_loadPart' hl)
      | (refine wpAny_ite_true (decide_eq_true (by rw [c1])) ?_; wp_walk using wpAny_loadPart' hl)
      | (rw [if_pos c1]; wp_walk using wpAny_loadPart' hl))
    exact ⟨_, rfl, h⟩
theorem mul_none (l : Addr) (items : Array Value) (n : Nat) (dd : Option Addr) (sl : Array (Option Value)) (x : Int) (u : Tok) (c0 : (decide (x < -(2 ^ 63)) || decide (x ≥ 2 ^ 63)) = false) (c1 : (items.isEmpty || x == 1) = false) (c2 : (decide (x ≤ 0) || items.isEmpty) = true) :
    Meets (Builtin.«tuple.__mul__» ⟨[.ref l, .int x u], []⟩) (fun _ R s => s.heap.get? l = some { cls := .type "tuple", dict := dd, data := .seq items n, slots := sl } ∧
      R (.ok (.ret (.ref s.heap.objs.size))) { s with heap := s.heap.push (newTup []) }) :=
  .of_wp fun prog w A R s h => by
    obtain ⟨hp, g, d, tk, os⟩ := s
    obtain ⟨hl, h⟩ := h
    have f1 := AutoSeq1.idx_int
    wp_walk using wpAny_loadPart' hl
    repeat (first
      | (refine wpAny_ite_false (decide_eq_false (by rw [c0]; exact Bool.false_ne_true)) ?_; wp_walk using wpAny_loadPart' hl)
      | (refine wpAny_ite_false (decide_eq_false (by rw [c1]; exact Bool.false_ne_true)) ?_; wp_walk using wpAny_loadPart' hl)
      | (refine wpAny_ite_true (decide_eq_true (by rw [c2])) ?_; wp_walk using wpAny_loadPart' hl)
      | (rw [if_pos c2]; wp_walk using wpAny_loadPart' hl))
    exact ⟨_, rfl, h⟩
end
def rRepF (K : PySem.W.Frag) : R2 := fun x y H Q => ∃ l k xs, x = .ref l ∧ y = .int k ∧ SqT K H l xs ∧ -(2 ^ 63) ≤ k ∧ k < 2 ^ 63 ∧ xs.length * k.toNat ≤ sizeLine ∧ (xs = [] ∨ k = 1 → Q (.ref l) H) ∧ NewT H (List.replicate k.toNat xs).flatten Q
theorem op_repF : OpR X (binaryOp .Mult) (rRepF X.K) := by
  intro pins s σ H x y v u Q I rx ry ⟨l, k, xs, ex, ey, hT, h1, h2, h3, q1, q2⟩
  subst ex ey
  cases rx
  obtain ⟨t, rfl⟩ := ry
  obtain ⟨its, r, ⟨⟨cls, dd, data, sl⟩, ho, hc, n, hd⟩, hs⟩ := I.tuple hT
  simp only at hc hd
  subst hc hd
  have hle : its.length = xs.length := r.length.symm
  have hsz : its.toArray.size = xs.length := by rw [List.size_toArray, hle]
  have c0 : (decide (k < -(2 ^ 63)) || decide (k ≥ 2 ^ 63)) = false := by
    rw [decide_eq_false (by omega), decide_eq_false (by omega)] <;> rfl
  have he : its.toArray.isEmpty = decide (xs = []) := by
    cases its with
    | nil =>
      have : xs = [] := List.eq_nil_of_length_eq_zero hle.symm
      rw [this]
      rfl
    | cons a b =>
      have : xs ≠ [] := fun e => by rw [e] at hle; cases hle
      rw [decide_eq_false this]
      rfl
  refine wpAny_binaryOp_repeat_ref (T := "tuple") (U := "int") (by decide) ⟨_, ho, rfl⟩ (fun s' => typeIs_int s' k t) noFill_tuple_mul F.fills_int_mul F.slot_int_rmul repeat_tuple F.slot_int_index.lookup ?_
  refine call_meets F.slot_int_rmul (typeIs_int s k t) F.entry_int_rmul (F.args_int_rmul_2 _ _) (int_rmul_tuple k t l its.toArray n dd sl) ⟨ho, rfl, ⟨_, ho, rfl⟩, ?_⟩
  by_cases a1 : xs = [] ∨ k = 1
  · refine call_meets F.slot_tuple_mul ⟨_, ho, rfl⟩ F.entry_tuple_mul (F.args_tuple_mul_2 _ _) (mul_same l its.toArray n dd sl k t c0 ?_) ⟨ho, ⟨.ref l, H, I, rfl, q1 a1⟩⟩
    rcases a1 with a1 | a1
    · rw [he, a1]; rfl
    · rw [a1]; simp
  · have a2 : xs ≠ [] := fun z => a1 (.inl z)
    have a3 : k ≠ 1 := fun z => a1 (.inr z)
    have c1 : (its.toArray.isEmpty || k == 1) = false := by
      rw [he, decide_eq_false a2, Bool.false_or]
      exact beq_eq_false_iff_ne.mpr a3
    by_cases a4 : k ≤ 0
    · refine call_meets F.slot_tuple_mul ⟨_, ho, rfl⟩ F.entry_tuple_mul (F.args_tuple_mul_2 _ _) (mul_none l its.toArray n dd sl k t c0 c1 (by rw [decide_eq_true a4]; rfl)) ⟨ho, ?_⟩
      have e0 : k.toNat = 0 := by omega
      rw [e0] at q2
      exact epT (t' := s.toks) I .nil (Nat.zero_le _) q2
    · have lx : 0 < xs.length := List.length_pos_iff.mpr a2
      have hk : ((xs.length : Nat) : Int) * k ≤ (sizeLine : Nat) := by
        have : ((xs.length * k.toNat : Nat) : Int) ≤ (sizeLine : Nat) := by exact_mod_cast h3
        rw [Int.natCast_mul, Int.toNat_of_nonneg (by omega)] at this
        exact this
      rw [sizeLine_eq] at hk
      have c4 : Builtin.Tuple.tupleTooMany (((its.toArray.size : Nat) : Int) * k) = false := by
        unfold Builtin.Tuple.tupleTooMany
        rw [sizeLine_eq, hsz]
        exact decide_eq_false (by omega)
      have fl : (List.replicate k.toNat its).flatten.length ≤ sizeLine := by
        rw [PyProof.Rows.lm_len_rep_flat, hle, Nat.mul_comm]
        exact h3
      refine call_meets F.slot_tuple_mul ⟨_, ho, rfl⟩ F.entry_tuple_mul (F.args_tuple_mul_2 _ _) (tuple_mulW l its.toArray n dd sl k t c0 c1 (by rw [he, decide_eq_false a4, decide_eq_false a2]; rfl) (by rw [hsz]; omega) c4 (by rw [size_rep, List.size_toArray]; exact fl)) ⟨ho, ?_⟩
      rw [size_rep]
      exact epT (t' := s.toks) I (r.rep k.toNat) (by rw [PyProof.Rows.lm_len_rep_flat, Nat.mul_comm]; exact h3) q2
end
end VM

set_option linter.all false
set_option maxRecDepth 100000
/-! VMN: dicts whose keys are tuples of any depth. -/
namespace VM
open PySem PySem.Spec PyProof.Rows L2
/-- the ground is the context's -/
structure GX (X : Cx) (g : G) : Prop where
  K : X.K = g.K
  P : X.prog = g.P
  w : X.w = g.w
section
variable {X : Cx} {g : G} {O : OP} {H : Hp} {pins : List (Addr × Obj)} {σ : L2.St} {s : Shared}
theorem TupAt.its (hK : X.K = g.K) (I : Inv X pins σ H s) {a : Addr} {vs : List V} (h : TupAt g.K O H a vs) : ∃ us, Vals vs us ∧ IsTup s.heap a us.toArray := by
  obtain ⟨us, r, t, _⟩ := I.tuple (hK ▸ h.sq)
  exact ⟨us, r, t⟩
mutual
theorem KeyV.nest (hK : X.K = g.K) (I : Inv X pins σ H s) : ∀ (k : NestedKey) (v : V) (u : Value), KeyV g O H k v → RelV v u → NestedIs s.heap k u
  | .none, _, _, h, r => by cases h; cases r; exact .none
  | .num i, _, _, h, r => by cases h; obtain ⟨t, rfl⟩ := r; exact .int _ _
  | .text x, _, _, h, r => by cases h; obtain ⟨t, rfl⟩ := r; exact .text _ _
  | .tup ks, _, _, ⟨a, vs, e, h, hs⟩, r => by
    subst e
    cases r
    obtain ⟨us, rv, o, ho, hc, n, hd⟩ := h.its hK I
    exact .tup ho hc hd (by simpa using KeyVs.nest hK I ks vs us hs rv)
theorem KeyVs.nest (hK : X.K = g.K) (I : Inv X pins σ H s) : ∀ (ks : List NestedKey) (vs : List V) (us : List Value), KeyVs g O H ks vs → Vals vs us → NestedAll s.heap ks us
  | [], _, _, h, r => by cases h; cases r; exact .nil
  | k :: ks, _, _, ⟨v, r, e, h, hs⟩, rv => by
    subst e
    cases rv with
    | cons r1 r2 => exact .cons (KeyV.nest hK I k v _ h r1) (KeyVs.nest hK I ks r _ hs r2)
end
theorem KeyAt.is (gx : GX X g) (I : Inv X pins σ H s) {k : NestedKey} {b : Addr} (h : KeyAt g O H k b) : (nestedKind X.prog X.w).is s.heap k b := ⟨h.2.2.nest gx.K I _ _ _ rfl, h.1⟩
mutual
theorem keyN_v : ∀ (d : D) (k : NestedKey) (v : V), Sh g O H d v → keyN d = some k → KeyV g O H k v
  | .non, _, _, h, e => by cases e; exact h
  | .int i, _, _, h, e => by cases e; exact h
  | .str x, _, _, h, e => by cases e; exact h
  | .tup ds, k, _, ⟨a, vs, e1, h, r⟩, e => by
    have e : (keyNs ds).map NestedKey.tup = some k := e
    cases q : keyNs ds with
    | none => rw [q] at e; cases e
    | some ks =>
      rw [q] at e; cases e
      exact ⟨a, vs, e1, h, keyNs_v ds ks vs r q⟩
  | .bl _, _, _, _, e => by cases e
  | .lst _, _, _, _, e => by cases e
  | .rol _, _, _, _, e => by cases e
  | .dK _, _, _, _, e => by cases e
  | .dN _, _, _, _, e => by cases e
  | .fn _, _, _, _, e => by cases e
  | .hnd _, _, _, _, e => by cases e
  | .prs _, _, _, _, e => by cases e
theorem keyNs_v : ∀ (ds : List D) (ks : List NestedKey) (vs : List V), Shs g O H ds vs → keyNs ds = some ks → KeyVs g O H ks vs
  | [], _, _, h, e => by cases h; cases e; rfl
  | d :: ds, ks, _, ⟨v, r, e1, h, hs⟩, e => by
    have e : (match keyN d with | none => none | some k => (keyNs ds).map (k :: ·)) = some ks := e
    cases q : keyN d with
    | none => rw [q] at e; cases e
    | some k =>
      rw [q] at e
      cases q2 : keyNs ds with
      | none => rw [q2] at e; cases e
      | some ks' =>
        rw [q2] at e; cases e
        exact ⟨v, r, e1, keyN_v d k v h q, keyNs_v ds ks' r hs q2⟩
end
theorem keyT_v {d : D} {k : NestedKey} {v : V} (h : Lk g O H d v) (e : keyT d = some k) : ∃ b, v = .ref b ∧ KeyAt g O H k b := by
  cases d with
  | tup ds =>
    have h : Sh g O H (.tup ds) v := h.elim id fun ⟨_, _, z⟩ => z.elim
    have e : (match keyNs ds with | none => none | some ks => if NestedKey.depthAll ks < 8 then some (NestedKey.tup ks) else none) = some k := e
    cases q : keyNs ds with
    | none => rw [q] at e; cases e
    | some ks =>
      rw [q] at e
      simp only at e
      split at e
      case isTrue hl =>
        cases e
        have kv := keyN_v (.tup ds) (.tup ks) v h (by show (keyNs ds).map NestedKey.tup = _; rw [q]; rfl)
        obtain ⟨a, vs, e1, h1, h2⟩ := kv
        exact ⟨a, e1, by show NestedKey.depthAll ks + 1 ≤ 8; omega, ⟨ks, rfl⟩, a, vs, rfl, h1, h2⟩
      case isFalse => cases e
  | _ => cases e
mutual
theorem nD_sh : ∀ (k : NestedKey) (v : V), KeyV g O H k v → Sh g O H (nD k) v
  | .none, _, h => h
  | .num _, _, h => h
  | .text _, _, h => h
  | .tup ks, _, ⟨a, vs, e, h, hs⟩ => ⟨a, vs, e, h, nDs_sh ks vs hs⟩
theorem nDs_sh : ∀ (ks : List NestedKey) (vs : List V), KeyVs g O H ks vs → Shs g O H (nDs ks) vs
  | [], _, h => h
  | k :: ks, _, ⟨v, r, e, h, hs⟩ => ⟨v, r, e, nD_sh k v h, nDs_sh ks r hs⟩
end
theorem ShN.length : ∀ {ds : List (NestedKey × D)} {vs : List (NestedKey × Addr × Value)}, ShN g O H ds vs → vs.length = ds.length
  | [], _, h => by cases h; rfl
  | _ :: ds, _, ⟨v, r, e, _, h⟩ => by subst e; simp [ShN.length h]
theorem ShN.keys : ∀ {ds : List (NestedKey × D)} {vs : List (NestedKey × Addr × Value)}, ShN g O H ds vs → ∀ x ∈ vs, KeyAt g O H x.1 x.2.1
  | [], _, h, x, hx => by cases h; cases hx
  | (k, d) :: ds, _, ⟨(k', b, u), r, e, h, hs⟩, x, hx => by
    subst e
    obtain ⟨e1, h1, _⟩ := h
    rcases List.mem_cons.mp hx with rfl | hx
    · rw [← e1]; exact h1
    · exact ShN.keys hs x hx
/-- the dict as the library has it -/
theorem dic_of (gx : GX X g) (I : Inv X pins σ H s) {a : Addr} {ds : List (NestedKey × D)} {es : List (NestedKey × Addr × Value)} (h : DicAt g H a es) (r : ShN g O H ds es) :
    s.heap.DictOfH (nestedKind X.prog X.w) a es ∧ (a == sysModules) = false ∧ es.length ≤ sizeLine := by
  obtain ⟨⟨o, ar, ep, h1, h2, h3, h4, h5, h6, h7⟩, _⟩ := h.ok I.hok
  refine ⟨⟨o, ar, ep, h1, h2, h3, ?_, fun x hx => (r.keys x hx).is gx I, h5⟩, h6, h7⟩
  rw [h4, gx.P, gx.w]
theorem ShN.val {k : NestedKey} : ∀ {ds : List (NestedKey × D)} {es : List (NestedKey × Addr × Value)}, ShN g O H ds es → (valD ds k = none ∧ atKey es k = none) ∨ ∃ d b u v, valD ds k = some d ∧ atKey es k = some (b, u) ∧ RelV v u ∧ Sh g O H d v
  | [], _, h => by cases h; exact .inl ⟨rfl, rfl⟩
  | (k1, d) :: ds, _, ⟨(k2, b, u), r, e, ⟨ek, _, v, h1, h2⟩, hs⟩ => by
    subst e ek
    by_cases z : k1 = k
    · exact .inr ⟨d, b, u, v, by simp [valD, List.find?_cons, z], by simp [atKey, List.find?_cons, z], h1, h2⟩
    · rw [show valD ((k1, d) :: ds) k = valD ds k by simp [valD, List.find?_cons, z], show atKey ((k1, b, u) :: r) k = atKey r k by simp [atKey, List.find?_cons, z]]
      exact ShN.val hs
theorem ShN.anyK {k : NestedKey} : ∀ {ds : List (NestedKey × D)} {es : List (NestedKey × Addr × Value)}, ShN g O H ds es → (atKey es k).isSome = ds.any fun kv => decide (kv.1 = k)
  | [], _, h => by cases h; rfl
  | (k1, d) :: ds, _, ⟨(k2, b, u), r, e, ⟨ek, _⟩, hs⟩ => by
    subst e ek
    by_cases z : k1 = k
    · simp [atKey, List.find?_cons, z]
    · rw [show atKey ((k1, b, u) :: r) k = atKey r k by simp [atKey, List.find?_cons, z], ShN.anyK hs]
      simp [z]
theorem ShN.repl {k : NestedKey} {d : D} {v : V} {u : Value} (rv : RelV v u) (hv : Sh g O H d v) : ∀ {ds : List (NestedKey × D)} {es : List (NestedKey × Addr × Value)}, ShN g O H ds es → ShN g O H (ds.map fun kv => if kv.1 = k then (kv.1, d) else kv) (es.map (putAt k u))
  | [], _, h => by cases h; rfl
  | (k1, d1) :: ds, _, ⟨(k2, b, u1), r, e, ⟨ek, hk, v1, h1, h2⟩, hs⟩ => by
    subst e ek
    refine ⟨_, _, rfl, ?_, ShN.repl rv hv hs⟩
    unfold putAt
    by_cases z : k1 = k
    · simp only [z, if_true]; exact ⟨rfl, z ▸ hk, v, rv, hv⟩
    · simp only [z, if_false]; exact ⟨rfl, hk, v1, h1, h2⟩
theorem ShN.snoc {k : NestedKey} {b : Addr} {d : D} {v : V} {u : Value} (hk : KeyAt g O H k b) (rv : RelV v u) (hv : Sh g O H d v) : ∀ {ds : List (NestedKey × D)} {es : List (NestedKey × Addr × Value)}, ShN g O H ds es → ShN g O H (ds ++ [(k, d)]) (es ++ [(k, b, u)])
  | [], _, h => by cases h; exact ⟨_, _, rfl, ⟨rfl, hk, v, rv, hv⟩, rfl⟩
  | (k1, d1) :: ds, _, ⟨x, r, e, h, hs⟩ => by subst e; exact ⟨_, _, rfl, h, ShN.snoc hk rv hv hs⟩
theorem ShN.put {k : NestedKey} {b : Addr} {d : D} {v : V} {u : Value} (hk : KeyAt g O H k b) (rv : RelV v u) (hv : Sh g O H d v) {ds : List (NestedKey × D)} {es : List (NestedKey × Addr × Value)} (h : ShN g O H ds es) : ShN g O H (putD ds k d) (storedH es k b u) := by
  unfold putD storedH
  rw [h.anyK]
  split
  · exact h.repl rv hv
  · exact h.snoc hk rv hv
theorem nroom (hu : X.A.units + 100 < cLine) : (nestedKind X.prog X.w).room X.A.in1 := by
  show X.A.units + 1 + 8 < cLine
  omega
/-! ### what is done with them -/
variable {ds : List (NestedKey × D)} {kd : D} {k : NestedKey} {x y : V} {u : Value}
theorem n_get (gx : GX X g) (hu : X.A.units + 100 < cLine) (I : Inv X pins σ H s) (lx : Lk g O H (.dN ds) x) (ly : Lk g O H kd y) (hk : keyT kd = some k) {r : D} (hv : valD ds k = some r) (ry : RelV y u) {v : Value} (rx : RelV x v) {E : Value → Shared → Prop} {Q : Value → Shared → Prop}
    (h : ∀ w' u' s', Inv X pins σ H s' → RelV w' u' → Sh g O H r w' → Q u' s') : wpAny (model X.prog X.w) X.A (getItem v u) Q E s := by
  obtain ⟨a, es, rfl, ha, hr⟩ := lx.dN
  obtain ⟨b, rfl, kb⟩ := keyT_v ly hk
  cases ry
  cases rx
  obtain ⟨hm, _, _⟩ := dic_of gx I ha hr
  rcases hr.val (k := k) with ⟨z, _⟩ | ⟨d, b1, u1, v1, e1, e2, e3, e4⟩
  · rw [hv] at z; cases z
  · rw [hv] at e1; cases e1
    exact wpAny_getItem_heap (nroom hu) (kb.is gx I) hm e2 (h v1 u1 _ (I.tok _) e3 e4)
theorem n_typeIs (gx : GX X g) (I : Inv X pins σ H s) (lx : Lk g O H (.dN ds) x) {v : Value} (rx : RelV x v) : s.TypeIs v "dict" := by
  obtain ⟨a, es, rfl, ha, hr⟩ := lx.dN
  cases rx
  exact (dic_of gx I ha hr).1.typeIs
theorem n_in (gx : GX X g) (hu : X.A.units + 100 < cLine) (I : Inv X pins σ H s) (lx : Lk g O H (.dN ds) x) (ly : Lk g O H kd y) (hk : keyT kd = some k) (ry : RelV y u) {v : Value} (rx : RelV x v) {E : Value → Shared → Prop} :
    (∀ Q : Value → Shared → Prop, (∀ s', Inv X pins σ H s' → Q (.bool (valD ds k).isSome) s') → wpAny (model X.prog X.w) X.A (compareOp .In u v) Q E s) ∧
    ∀ Q : Value → Shared → Prop, (∀ s', Inv X pins σ H s' → Q (.bool (!(valD ds k).isSome)) s') → wpAny (model X.prog X.w) X.A (compareOp .NotIn u v) Q E s := by
  obtain ⟨a, es, rfl, ha, hr⟩ := lx.dN
  obtain ⟨b, rfl, kb⟩ := keyT_v ly hk
  cases ry
  cases rx
  obtain ⟨hm, hd, _⟩ := dic_of gx I ha hr
  have e : (valD ds k).isSome = (atKey es k).isSome := by
    rcases hr.val (k := k) with ⟨z1, z2⟩ | ⟨d, b1, u1, v1, e1, e2, _⟩
    · rw [z1, z2]; rfl
    · rw [e1, e2]; rfl
  rw [e]
  exact ⟨fun Q h => wpAny_in_heap (nroom hu) (kb.is gx I) hd hm (h _ (I.tok _)), fun Q h => wpAny_notIn_heap (nroom hu) (kb.is gx I) hd hm (h _ (I.tok _))⟩
theorem storedH_len (es : List (NestedKey × Addr × Value)) (k : NestedKey) (b : Addr) (u : Value) : (storedH es k b u).length ≤ es.length + 1 := by
  unfold storedH
  split <;> simp
/-- a dict's object behind a change -/
theorem dic_new (gx : GX X g) {h' : Heap} {a : Addr} {es : List (NestedKey × Addr × Value)} {H' : Hp} (hm : h'.DictOfH (nestedKind X.prog X.w) a es) (hd : (a == sysModules) = false) (hz : es.length ≤ sizeLine) : ObjOk X.prog X.w H' h' a (DicO g.P g.w a es) := by
  obtain ⟨o, ar, ep, h1, h2, h3, h4, _, h5⟩ := hm
  rw [gx.P, gx.w] at h4
  exact ⟨⟨o, ar, ep, h1, h2, h3, h4, h5, hd, hz⟩, ⟨o, h1⟩, fun p q ⟨o, ar, ep, a1, a2⟩ st => ⟨o, ar, ep, st _ a1, a2⟩⟩
theorem n_set (gx : GX X g) (hu : X.A.units + 100 < cLine) (I : Inv X pins σ H s) {p : Addr} {es : List (NestedKey × Addr × Value)} (hp : H p = some (DicO g.P g.w p es)) (hr : ShN g O H ds es) (hl : ds.length < sizeLine) (ly : Sh g O H kd y) (hk : keyT kd = some k) (ry : RelV y u) {dv : D} {v : V} {uv : Value} (hv : Sh g O H dv v) (rv : RelV v uv)
    {E : Value → Shared → Prop} {Q : Unit → Shared → Prop} (h : ∀ es' s', Inv X pins σ (upd H p (DicO g.P g.w p es')) s' → ShN g O H (putD ds k dv) es' → Q () s') : wpAny (model X.prog X.w) X.A (setItem (.ref p) u uv) Q E s := by
  obtain ⟨b, rfl, kb⟩ := keyT_v (.inl ly) hk
  cases ry
  obtain ⟨hm, hd, hz⟩ := dic_of gx I (.inl hp) hr
  have hl2 : es.length < sizeLine := by rw [hr.length]; exact hl
  refine wpAny_setItem_heap (nroom hu) (kb.is gx I) hm (fun h' hm' hs => ?_) hz
  refine h (storedH es k b uv) _ (d_write I (by rw [hp]; exact True.intro) hs ?_ (dic_new gx hm' hd ?_)) (hr.put kb rv hv)
  · obtain ⟨o, _, _, h1, _⟩ := hm'
    exact ⟨o, h1⟩
  · have := storedH_len es k b uv
    omega
end
end VM

set_option linter.all false
set_option maxRecDepth 100000
/-! VM07: operators by values. -/
namespace VM
open PySem L2
/-- a new value -/
inductive NV (g : G) (O : OP) (H : Hp) : C → V → Hp → Prop
  | sh {d : D} {v : V} : Sh g O H d v → NV g O H (.sh d) v H
  | lst {p : Addr} {ds : List D} {vs : List V} : H p = none → Shs g O H ds vs → NV g O H (.ow (.lst ds)) (.ref p) (upd H p (.lst vs))
  | tup {p : Addr} {o : Obj} {ds : List D} {vs : List V} : H p = none → o.dict = none → Shs g O H ds vs → NV g O H (.sh (.tup ds)) (.ref p) (upd H p (.frz o (.tup vs)))
  | prs {p : Addr} {ds : List D} {vs : List V} : H p = none → Shs g O H ds vs → NV g O H (.sh (.prs ds)) (.ref p) (upd H p (.tup vs))
  | dK {p : Addr} {ds : List (Key × D)} {vs : List (Key × V)} : H p = none → ShK g O H ds vs → NV g O H (.ow (.dK ds)) (.ref p) (upd H p (.dK vs))
  | dN {p : Addr} {ds : List (NestedKey × D)} {es : List (NestedKey × Addr × Value)} : H p = none → ShN g O H ds es → NV g O H (.ow (.dN ds)) (.ref p) (upd H p (DicO g.P g.w p es))
def R1v (g : G) (f : D → Option C) : V → Hp → VK → Prop := fun x H Q => ∃ O d c, Lk g O H d x ∧ f d = some c ∧ ∀ v H', NV g O H c v H' → Q v H'
def R2v (g : G) (f : D → D → Option C) : R2 := fun x y H Q => ∃ O d d' c, Lk g O H d x ∧ Lk g O H d' y ∧ f d d' = some c ∧ ∀ v H', NV g O H c v H' → Q v H'
def Lks (g : G) (O : OP) (H : Hp) : List D → List V → Prop
  | [], vs => vs = []
  | d :: ds, vs => ∃ v r, vs = v :: r ∧ Lk g O H d v ∧ Lks g O H ds r
def RLv (g : G) (f : List D → Option C) : List V → Hp → VK → Prop := fun xs H Q => ∃ O ds c, Lks g O H ds xs ∧ f ds = some c ∧ ∀ v H', NV g O H c v H' → Q v H'
section
variable {e : Env2} {g : G} {O O' : OP} {T : AP1} {θ : List Addr} {s : S} {σ : L2.St} {H H' : Hp} {d d' : D} {v : V} {c : C}
theorem NV.stp (R : StR e T θ s σ H) (n : NV e.g (Own T θ s.sl σ) H c v H') : ∃ T', Stp e T θ s T' θ s σ H H' ∧ RC e T T' θ s σ H' c v := by
  cases n with
  | sh h => exact ⟨T, Stp.refl R, rfl, _, rfl, h⟩
  | @lst p ds vs hp h =>
    obtain ⟨R', k, nT⟩ := R.air hp (.lst vs)
    exact ⟨_, ⟨R', fun _ _ z => z, k, fun _ z => .inl z, fun a z => upd_ne fun y => R.trn z (y ▸ hp)⟩, p, rfl, rfl, nT, vs, upd_same, Shs.keep k _ _ h⟩
  | @tup p o ds vs hp hd h =>
    obtain ⟨R', k, nO⟩ := R.newSh hp (.frz o (.tup vs))
    exact ⟨T, ⟨R', fun _ _ z => z, k, fun _ z => z, fun a z => upd_ne fun y => R.trn z (y ▸ hp)⟩, rfl, _, rfl, p, vs, rfl, .inl ⟨o, upd_same, nO, hd⟩, Shs.keep k _ _ h⟩
  | @prs p ds vs hp h =>
    obtain ⟨R', k, nO⟩ := R.newSh hp (.tup vs)
    exact ⟨T, ⟨R', fun _ _ z => z, k, fun _ z => z, fun a z => upd_ne fun y => R.trn z (y ▸ hp)⟩, rfl, _, rfl, p, vs, rfl, upd_same, nO, Shs.keep k _ _ h⟩
  | @dK p ds vs hp h =>
    obtain ⟨R', k, nT⟩ := R.air hp (.dK vs)
    exact ⟨_, ⟨R', fun _ _ z => z, k, fun _ z => .inl z, fun a z => upd_ne fun y => R.trn z (y ▸ hp)⟩, p, rfl, rfl, nT, vs, upd_same, ShK.keep k _ _ h⟩
  | @dN p ds es hp h =>
    obtain ⟨R', k, nT⟩ := R.air hp (DicO e.g.P e.g.w p es) isRt.dicO
    exact ⟨_, ⟨R', fun _ _ z => z, k, fun _ z => .inl z, fun a z => upd_ne fun y => R.trn z (y ▸ hp)⟩, p, rfl, rfl, nT, es, upd_same, ShN.keep k _ _ h⟩
/-! ### data are read -/
theorem Lk.sqL {ds : List D} (h : Lk g O H (.lst ds) v) : ∃ a vs, v = .ref a ∧ H a = some (.lst vs) ∧ Shs g O H ds vs := h.lst
mutual
theorem Sh.dp : ∀ (d : D) (v : V) (p : PyData), Sh g O H d v → toP d = some p → Dp g.K H v p
  | .non, _, _, h, e => by cases h; cases e; exact .non
  | .bl b, _, _, h, e => by cases h; cases e; exact .bl b
  | .int b, _, _, h, e => by cases h; cases e; exact .int b
  | .str b, _, _, h, e => by cases h; cases e; exact .str b
  | .tup ds, _, _, ⟨a, vs, e1, h, r⟩, e => by
    have e : (toPs ds).map PyData.tuple = some _ := e
    cases q : toPs ds with
    | none => rw [q] at e; cases e
    | some ps =>
      rw [q] at e; cases e; subst e1
      exact .tup h.sq (Shs.dp ds vs ps r q)
  | .lst ds, _, _, ⟨a, vs, e1, h, _, r⟩, e => by
    have e : (toPs ds).map PyData.list = some _ := e
    cases q : toPs ds with
    | none => rw [q] at e; cases e
    | some ps =>
      rw [q] at e; cases e; subst e1
      exact .lst (.of h) (Shs.dp ds vs ps r q)
  | .rol _, _, _, _, e => by cases e
  | .dK _, _, _, _, e => by cases e
  | .dN _, _, _, _, e => by cases e
  | .prs _, _, _, _, e => by cases e
  | .hnd _, _, _, _, e => by cases e
  | .fn _, _, _, _, e => by cases e
theorem Shs.dp : ∀ (ds : List D) (vs : List V) (ps : List PyData), Shs g O H ds vs → toPs ds = some ps → DpAll g.K H vs ps
  | [], _, _, h, e => by cases h; cases e; exact .nil
  | d :: ds, _, _, ⟨v, r, e1, h, hs⟩, e => by
    have e : (match toP d with | none => none | some p => (toPs ds).map (p :: ·)) = some _ := e
    cases q : toP d with
    | none => rw [q] at e; cases e
    | some p =>
      rw [q] at e
      cases q2 : toPs ds with
      | none => rw [q2] at e; cases e
      | some ps =>
        rw [q2] at e; cases e; subst e1
        exact .cons (Sh.dp d v p h q) (Shs.dp ds r ps hs q2)
end
theorem Lk.dp {p : PyData} (h : Lk g O H d v) (e : toP d = some p) : Dp g.K H v p := by
  rcases h with h | ⟨a, rfl, h⟩
  · exact Sh.dp d v p h e
  · cases d with
    | lst ds =>
      obtain ⟨vs, h, r⟩ := h
      have e : (toPs ds).map PyData.list = some _ := e
      cases q : toPs ds with
      | none => rw [q] at e; cases e
      | some ps =>
        rw [q] at e; cases e
        exact .lst (.of h) (Shs.dp ds vs ps r q)
    | dK _ => cases e
    | dN _ => cases e
    | _ => exact h.elim
end
section
variable {X : Cx} {g : G}
/-! ### arithmetic -/
theorem vm_add (hK : X.K = g.K) : OpR X (binaryOp .Add) (R2v g addD) := by
  intro pins s σ H x y v u Q I rx ry ⟨O, d, d', c, lx, ly, ef, q⟩
  cases d with
  | int i => cases d' with
    | int j => cases ef; exact op_add pins s σ H x y v u Q I rx ry ⟨i, j, lx.int, ly.int, q _ _ (.sh rfl)⟩
    | _ => exact nomatch (ef : none = some c)
  | str i => cases d' with
    | str j =>
      have ef : (if i.length + j.length ≤ sizeLine then some (C.sh (.str (i ++ j))) else none) = some c := ef
      split at ef
      case isTrue hl => cases ef; exact op_add_str pins s σ H x y v u Q I rx ry ⟨i, j, lx.str, ly.str, hl, q _ _ (.sh rfl)⟩
      case isFalse => cases ef
    | _ => exact nomatch (ef : none = some c)
  | lst i => cases d' with
    | lst j =>
      have ef : (if i.length + j.length ≤ sizeLine then some (C.ow (.lst (i ++ j))) else none) = some c := ef
      split at ef
      case isTrue hl =>
        cases ef
        obtain ⟨a, vs, rfl, h1, r1⟩ := lx.lst
        obtain ⟨b, us, rfl, h2, r2⟩ := ly.lst
        refine op_cat pins s σ H _ _ v u Q I rx ry ⟨a, b, vs, us, rfl, rfl, h1, h2, by rw [r1.length, r2.length]; exact hl, fun p hp => q _ _ (.lst hp (r1.app r2))⟩
      case isFalse => cases ef
    | _ => exact nomatch (ef : none = some c)
  | tup i => cases d' with
    | tup j =>
      have ef : (if i.length + j.length ≤ sizeLine then some (C.sh (.tup (i ++ j))) else none) = some c := ef
      split at ef
      case isTrue hl =>
        cases ef
        obtain ⟨a, vs, rfl, h1, r1⟩ := lx.tup
        obtain ⟨b, us, rfl, h2, r2⟩ := ly.tup
        have l1 := r1.length
        have l2 := r2.length
        refine op_catF pins s σ H _ _ v u Q I rx ry ⟨a, b, vs, us, rfl, rfl, hK ▸ h1.sq, hK ▸ h2.sq, by rw [l1, l2]; exact hl, fun z => ?_, fun z => ?_, fun p o hp ho => q _ _ (.tup hp ho (r1.app r2))⟩
        · subst z
          have : i = [] := List.length_eq_zero_iff.mp l1.symm
          subst this
          exact q _ _ (.sh ⟨b, us, rfl, h2, r2⟩)
        · subst z
          have : j = [] := List.length_eq_zero_iff.mp l2.symm
          subst this
          exact q _ _ (.sh ⟨a, vs, rfl, h1, by rw [List.append_nil]; exact r1⟩)
      case isFalse => cases ef
    | _ => exact nomatch (ef : none = some c)
  | _ => exact nomatch (ef : none = some c)
theorem Shs.rep {O : OP} {H : Hp} {ds : List D} {vs : List V} (h : Shs g O H ds vs) : ∀ k : Nat, Shs g O H (List.replicate k ds).flatten (List.replicate k vs).flatten
  | 0 => rfl
  | k + 1 => by
    rw [List.replicate_succ, List.replicate_succ, List.flatten_cons, List.flatten_cons]
    exact h.app (Shs.rep h k)
theorem small_of {i : Int} (h : small i = true) : -(2 ^ 64) < i ∧ i < 2 ^ 64 := of_decide_eq_true h
theorem vm_mul (hK : X.K = g.K) : OpR X (binaryOp .Mult) (R2v g mulD) := by
  intro pins s σ H x y v u Q I rx ry ⟨O, d, d', c, lx, ly, ef, q⟩
  cases d with
  | int i => cases d' with
    | int j =>
      have ef : (if (small i || small j) = true then some (C.sh (.int (i * j))) else none) = some c := ef
      split at ef
      case isTrue hl =>
        cases ef
        refine op_mul pins s σ H x y v u Q I rx ry ⟨i, j, lx.int, ly.int, ?_, q _ _ (.sh rfl)⟩
        rcases Bool.or_eq_true _ _ ▸ hl with z | z
        · exact .inl (small_of z)
        · exact .inr (small_of z)
      case isFalse => cases ef
    | _ => exact nomatch (ef : none = some c)
  | lst i => cases d' with
    | int k =>
      have ef : (if (decide (-(2 ^ 63) ≤ k) && decide (k < 2 ^ 63) && decide (i.length * k.toNat ≤ sizeLine)) = true then some (C.ow (.lst (List.replicate k.toNat i).flatten)) else none) = some c := ef
      split at ef
      case isTrue hl =>
        cases ef
        simp only [Bool.and_eq_true, decide_eq_true_eq] at hl
        obtain ⟨a, vs, rfl, h1, r1⟩ := lx.lst
        have h2 := ly.int
        subst h2
        exact op_rep pins s σ H _ _ v u Q I rx ry ⟨a, k, vs, rfl, rfl, h1, hl.1.1, hl.1.2, by rw [r1.length]; exact hl.2, fun p hp => q _ _ (.lst hp (r1.rep _))⟩
      case isFalse => cases ef
    | _ => exact nomatch (ef : none = some c)
  | tup i => cases d' with
    | int k =>
      have ef : (if (decide (-(2 ^ 63) ≤ k) && decide (k < 2 ^ 63) && decide (i.length * k.toNat ≤ sizeLine)) = true then some (C.sh (.tup (List.replicate k.toNat i).flatten)) else none) = some c := ef
      split at ef
      case isTrue hl =>
        cases ef
        simp only [Bool.and_eq_true, decide_eq_true_eq] at hl
        obtain ⟨a, vs, rfl, h1, r1⟩ := lx.tup
        have h2 := ly.int
        subst h2
        refine op_repF pins s σ H _ _ v u Q I rx ry ⟨a, k, vs, rfl, rfl, hK ▸ h1.sq, hl.1.1, hl.1.2, by rw [r1.length]; exact hl.2, fun z => ?_, fun p o hp ho => q _ _ (.tup hp ho (r1.rep _))⟩
        refine q _ _ (.sh ⟨a, vs, rfl, h1, ?_⟩)
        have l1 := r1.length
        rcases z with z | z
        · subst z
          have : i = [] := List.length_eq_zero_iff.mp l1.symm
          subst this
          have e0 : ∀ n : Nat, (List.replicate n ([] : List D)).flatten = [] := fun n => by simp
          rw [e0]
          rfl
        · rw [z]
          simpa using r1
      case isFalse => cases ef
    | _ => exact nomatch (ef : none = some c)
  | _ => exact nomatch (ef : none = some c)
theorem vm_bin (hK : X.K = g.K) (op : Operator) : OpR X (binaryOp op) (R2v g (binD op)) := by
  cases op with
  | Add => exact vm_add hK
  | Mult => exact vm_mul hK
  | Sub =>
    intro pins s σ H x y v u Q I rx ry ⟨O, d, d', c, lx, ly, ef, q⟩
    cases d with
    | int i => cases d' with
      | int j => cases ef; exact op_sub pins s σ H x y v u Q I rx ry ⟨i, j, lx.int, ly.int, q _ _ (.sh rfl)⟩
      | _ => exact nomatch (ef : none = some c)
    | _ => exact nomatch (ef : none = some c)
  | FloorDiv =>
    intro pins s σ H x y v u Q I rx ry ⟨O, d, d', c, lx, ly, ef, q⟩
    cases d with
    | int i => cases d' with
      | int j =>
        have ef : (if (decide (j ≠ 0) && decide (j.natAbs < 1073741824)) = true then some (C.sh (.int (i.fdiv j))) else none) = some c := ef
        split at ef
        case isTrue hl =>
          cases ef
          simp only [Bool.and_eq_true, decide_eq_true_eq] at hl
          exact op_fdivN pins s σ H x y v u Q I rx ry ⟨i, j, lx.int, ly.int, hl, q _ _ (.sh rfl)⟩
        case isFalse => cases ef
      | _ => exact nomatch (ef : none = some c)
    | _ => exact nomatch (ef : none = some c)
  | Mod =>
    intro pins s σ H x y v u Q I rx ry ⟨O, d, d', c, lx, ly, ef, q⟩
    cases d with
    | int i => cases d' with
      | int j =>
        have ef : (if decide (j ≠ 0) = true then some (C.sh (.int (i.fmod j))) else none) = some c := ef
        split at ef
        case isTrue hl =>
          cases ef
          exact op_modN pins s σ H x y v u Q I rx ry ⟨i, j, lx.int, ly.int, of_decide_eq_true hl, q _ _ (.sh rfl)⟩
        case isFalse => cases ef
      | _ => exact nomatch (ef : none = some c)
    | _ => exact nomatch (ef : none = some c)
  | Pow =>
    intro pins s σ H x y v u Q I rx ry ⟨O, d, d', c, lx, ly, ef, q⟩
    cases d with
    | int i => cases d' with
      | int j =>
        have ef : (if (decide (0 ≤ j) && decide (j ≤ 1000000) && decide (i.natAbs < 2 ^ 64)) = true then some (C.sh (.int (i ^ j.toNat))) else none) = some c := ef
        split at ef
        case isTrue hl =>
          cases ef
          simp only [Bool.and_eq_true, decide_eq_true_eq] at hl
          exact op_pow pins s σ H x y v u Q I rx ry ⟨i, j, lx.int, ly.int, ⟨hl.1.1, hl.1.2, hl.2⟩, q _ _ (.sh rfl)⟩
        case isFalse => cases ef
      | _ => exact nomatch (ef : none = some c)
    | _ => exact nomatch (ef : none = some c)
  | _ => intro pins s σ H x y v u Q I rx ry ⟨O, d, d', c, lx, ly, ef, q⟩; exact nomatch (ef : none = some c)
/-! ### comparisons -/
def cmpC (op : CmpOp) (d e : D) : Option C := (cmpD op d e).map fun b => .sh (.bl b)
theorem cmp_of {op : CmpOp} {d e : D} {c : C} (h : cmpC op d e = some c) : ∃ b, cmpD op d e = some b ∧ c = .sh (.bl b) := by
  unfold cmpC at h
  cases q : cmpD op d e with
  | none => rw [q] at h; cases h
  | some b => rw [q] at h; cases h; exact ⟨b, rfl, rfl⟩
theorem eqD_of {d e : D} {b : Bool} (h : eqD d e = some b) : ∃ p q, toP d = some p ∧ toP e = some q ∧ SeqAt.shaped p = true ∧ SeqAt.shaped q = true ∧ b = PyData.eqv p q := by
  unfold eqD at h
  cases h1 : toP d with
  | none => rw [h1] at h; cases h
  | some p => cases h2 : toP e with
    | none => rw [h1, h2] at h; cases h
    | some q =>
      rw [h1, h2] at h
      simp only at h
      split at h
      case isTrue hl =>
        cases h
        rw [Bool.and_eq_true] at hl
        exact ⟨p, q, rfl, rfl, hl.1, hl.2, rfl⟩
      case isFalse => cases h
theorem vm_eq (hK : X.K = g.K) (hu : X.A.units + 100 < cLine) : OpR X (compareOp .Eq) (R2v g (cmpC .Eq)) := by
  intro pins s σ H x y v u Q I rx ry ⟨O, d, d', c, lx, ly, ef, q⟩
  obtain ⟨b, h, rfl⟩ := cmp_of ef
  obtain ⟨p, p', e1, e2, s1, s2, rfl⟩ := eqD_of (h : eqD d d' = some b)
  exact op_eqD (by omega) pins s σ H x y v u Q I rx ry ⟨p, p', hK ▸ lx.dp e1, hK ▸ ly.dp e2, s1, s2, q _ _ (.sh rfl)⟩
theorem vm_ne (hK : X.K = g.K) (hu : X.A.units + 100 < cLine) : OpR X (compareOp .NotEq) (R2v g (cmpC .NotEq)) := by
  intro pins s σ H x y v u Q I rx ry ⟨O, d, d', c, lx, ly, ef, q⟩
  obtain ⟨b, h, rfl⟩ := cmp_of ef
  have h : (eqD d d').map (!·) = some b := h
  cases h0 : eqD d d' with
  | none => rw [h0] at h; cases h
  | some b0 =>
    rw [h0] at h; cases h
    obtain ⟨p, p', e1, e2, s1, s2, rfl⟩ := eqD_of h0
    exact op_neD (by omega) pins s σ H x y v u Q I rx ry ⟨p, p', hK ▸ lx.dp e1, hK ▸ ly.dp e2, s1, s2, q _ _ (.sh rfl)⟩
theorem ltInts_lex : ∀ a b : List Int, ltInts a b = HT.lexLt a b
  | [], [] => by simp [ltInts, HT.lexLt]
  | [], _ :: _ => by simp [ltInts, HT.lexLt]
  | _ :: _, [] => by simp [ltInts, HT.lexLt]
  | x :: xs, y :: ys => by simp [ltInts, HT.lexLt, ltInts_lex xs ys]
theorem Shs.intsTup {O : OP} {H : Hp} {ds : List D} {is : List Int} {v : V} (h : Lk g O H (.tup ds) v) (e : intsOf ds = some is) : ∃ a, v = .ref a ∧ SqT g.K H a (is.map V.int) := by
  obtain ⟨a, vs, rfl, h1, r⟩ := h.tup
  rw [r.ints e] at h1
  exact ⟨a, rfl, h1.sq⟩
theorem vm_lt (hK : X.K = g.K) (hu : X.A.units + 100 < cLine) : OpR X (compareOp .Lt) (R2v g (cmpC .Lt)) := by
  intro pins s σ H x y v u Q I rx ry ⟨O, d, d', c, lx, ly, ef, q⟩
  obtain ⟨b, h, rfl⟩ := cmp_of ef
  have h : ltD d d' = some b := h
  cases d with
  | int i => cases d' with
    | int j => cases h; exact op_lt pins s σ H x y v u Q I rx ry ⟨i, j, lx.int, ly.int, q _ _ (.sh rfl)⟩
    | _ => exact nomatch (h : none = some b)
  | tup i => cases d' with
    | tup j =>
      have h : (match intsOf i, intsOf j with | some is, some js => some (ltInts is js) | _, _ => none) = some b := h
      cases h1 : intsOf i with
      | none => rw [h1] at h; cases h
      | some is => cases h2 : intsOf j with
        | none => rw [h1, h2] at h; cases h
        | some js =>
          rw [h1, h2] at h; cases h
          obtain ⟨a, rfl, q1⟩ := Shs.intsTup lx h1
          obtain ⟨b, rfl, q2⟩ := Shs.intsTup ly h2
          exact op_ltT (by omega) pins s σ H _ _ v u Q I rx ry ⟨a, b, is, js, rfl, rfl, hK ▸ q1, hK ▸ q2, by rw [← ltInts_lex]; exact q _ _ (.sh rfl)⟩
    | _ => exact nomatch (h : none = some b)
  | _ => exact nomatch (h : none = some b)
theorem vm_gt : OpR X (compareOp .Gt) (R2v g (cmpC .Gt)) := by
  intro pins s σ H x y v u Q I rx ry ⟨O, d, d', c, lx, ly, ef, q⟩
  obtain ⟨b, h, rfl⟩ := cmp_of ef
  cases d with
  | int i => cases d' with
    | int j => cases h; exact op_gt pins s σ H x y v u Q I rx ry ⟨i, j, lx.int, ly.int, q _ _ (.sh rfl)⟩
    | _ => exact nomatch (h : none = some b)
  | _ => exact nomatch (h : none = some b)
theorem vm_le : OpR X (compareOp .LtE) (R2v g (cmpC .LtE)) := by
  intro pins s σ H x y v u Q I rx ry ⟨O, d, d', c, lx, ly, ef, q⟩
  obtain ⟨b, h, rfl⟩ := cmp_of ef
  cases d with
  | int i => cases d' with
    | int j => cases h; exact op_le pins s σ H x y v u Q I rx ry ⟨i, j, lx.int, ly.int, q _ _ (.sh rfl)⟩
    | _ => exact nomatch (h : none = some b)
  | _ => exact nomatch (h : none = some b)
theorem vm_ge : OpR X (compareOp .GtE) (R2v g (cmpC .GtE)) := by
  intro pins s σ H x y v u Q I rx ry ⟨O, d, d', c, lx, ly, ef, q⟩
  obtain ⟨b, h, rfl⟩ := cmp_of ef
  cases d with
  | int i => cases d' with
    | int j => cases h; exact op_ge pins s σ H x y v u Q I rx ry ⟨i, j, lx.int, ly.int, q _ _ (.sh rfl)⟩
    | _ => exact nomatch (h : none = some b)
  | _ => exact nomatch (h : none = some b)
/-! ### dicts -/
theorem ShK.val {O : OP} {H : Hp} {k : Key} : ∀ {ds : List (Key × D)} {kvs : List (Key × V)}, ShK g O H ds kvs → (valD ds k = none ∧ valV kvs k = none) ∨ ∃ d v, valD ds k = some d ∧ valV kvs k = some v ∧ Sh g O H d v
  | [], _, h => by cases h; exact .inl ⟨rfl, rfl⟩
  | (k1, d) :: ds, _, ⟨(k2, v), r, e, ⟨ek, h⟩, hs⟩ => by
    subst e ek
    by_cases z : k1 = k
    · exact .inr ⟨d, v, by simp [valD, List.find?_cons, z], valV_pos z, h⟩
    · rw [valV_neg z, show valD ((k1, d) :: ds) k = valD ds k by simp [valD, List.find?_cons, z]]
      exact ShK.val hs
theorem keyOf_v {O : OP} {H : Hp} {d : D} {k : Key} {v : V} (h : Lk g O H d v) (e : keyOf d = some k) : v = kV k := by
  cases d with
  | int i => cases e; exact h.int
  | str i => cases e; exact h.str
  | _ => exact nomatch (e : none = some k)
theorem keyOf_s {O : OP} {H : Hp} {d : D} {k : Key} {v : V} (h : Sh g O H d v) (e : keyOf d = some k) : v = kV k := keyOf_v (.inl h) e
/-- a dict's read -/
theorem vm_get {O : OP} {H : Hp} {kvs : List (Key × D)} {k : D} {x y : V} {o : Option D} (lx : Lk g O H (.dK kvs) x) (ly : Lk g O H k y) (e : dictGet (.dK kvs) k = some o) :
    ∃ a r, x = .ref a ∧ DGet H a y r ∧ ((o = none ∧ r = none) ∨ ∃ d v, o = some d ∧ r = some v ∧ Sh g O H d v) := by
  have e : (keyOf k).map (valD kvs) = some o := e
  cases h : keyOf k with
  | none => rw [h] at e; cases e
  | some kk =>
    rw [h] at e; cases e
    obtain ⟨a, vs, rfl, hr, r⟩ := lx.dK
    exact ⟨a, valV vs kk, rfl, .inl ⟨vs, kk, hr, keyOf_v ly h, rfl⟩, r.val⟩
theorem getSome {o : Option D} {r : Option V} {O : OP} {H : Hp} (h : (o = none ∧ r = none) ∨ ∃ d v, o = some d ∧ r = some v ∧ Sh g O H d v) : r.isSome = o.isSome := by
  rcases h with ⟨rfl, rfl⟩ | ⟨_, _, rfl, rfl, _⟩ <;> rfl
theorem inD_of {d e : D} {b : Bool} (h : inD d e = some b) : ∃ p qs, toP d = some p ∧ (∃ ds, toPs ds = some qs ∧ (e = .lst ds ∨ e = .tup ds)) ∧ SeqAt.shaped p = true ∧ SeqAt.shaped (.list qs) = true ∧ b = qs.any fun z => PyData.eqv z p := by
  have fin : ∀ ds, (match toP d, toPs ds with
      | some p, some qs => if SeqAt.shaped p && SeqAt.shaped (.list qs) then some (qs.any fun z => PyData.eqv z p) else none
      | _, _ => none) = some b → (e = .lst ds ∨ e = .tup ds) → ∃ p qs, toP d = some p ∧ (∃ ds, toPs ds = some qs ∧ (e = .lst ds ∨ e = .tup ds)) ∧ SeqAt.shaped p = true ∧ SeqAt.shaped (.list qs) = true ∧ b = qs.any fun z => PyData.eqv z p := by
    intro ds h he
    cases h1 : toP d with
    | none => rw [h1] at h; cases h
    | some p => cases h2 : toPs ds with
      | none => rw [h1, h2] at h; cases h
      | some qs =>
        rw [h1, h2] at h
        simp only at h
        split at h
        case isTrue hl =>
          cases h
          rw [Bool.and_eq_true] at hl
          exact ⟨p, qs, rfl, ⟨ds, h2, he⟩, hl.1, hl.2, rfl⟩
        case isFalse => cases h
  cases e with
  | lst ds => exact fin ds h (.inl rfl)
  | tup ds => exact fin ds h (.inr rfl)
  | _ => exact nomatch (h : none = some b)
theorem shaped_tl {qs : List PyData} (h : SeqAt.shaped (.list qs) = true) : SeqAt.shaped (.tuple qs) = true := by
  have e : (PyData.canLay0 (.list qs) && decide (PyData.depth (.list qs) ≤ 64)) = true := h
  show (PyData.canLay0 (.tuple qs) && decide (PyData.depth (.tuple qs) ≤ 64)) = true
  simpa [PyData.canLay0, PyData.depth] using e
theorem vm_inSeq (hK : X.K = g.K) (hu : X.A.units + 100 < cLine) {d e : D} {b : Bool} {O : OP} {H : Hp} {x y : V} (lx : Lk g O H d x) (ly : Lk g O H e y) (h : inD d e = some b) {pins : List (Addr × Obj)} {s : Shared} {σ : L2.St} {v u : Value} (I : Inv X pins σ H s) (rx : RelV x v) (ry : RelV y u) :
    (∀ Q : VK, Q (.bl b) H → wpAny (model X.prog X.w) X.A (compareOp .In v u) (EP X pins σ Q) X.xe s) ∧ ∀ Q : VK, Q (.bl (!b)) H → wpAny (model X.prog X.w) X.A (compareOp .NotIn v u) (EP X pins σ Q) X.xe s := by
  obtain ⟨p, qs, e1, ⟨ds, e2, he⟩, s1, s2, rfl⟩ := inD_of h
  rcases he with rfl | rfl
  · have h2 : toP (.lst ds) = some (.list qs) := by show (toPs ds).map PyData.list = _; rw [e2]; rfl
    exact ⟨fun Q q => op_inD (by omega) pins s σ H x y v u Q I rx ry ⟨p, qs, hK ▸ lx.dp e1, hK ▸ ly.dp h2, s1, s2, q⟩, fun Q q => op_notInD (by omega) pins s σ H x y v u Q I rx ry ⟨p, qs, hK ▸ lx.dp e1, hK ▸ ly.dp h2, s1, s2, q⟩⟩
  · have h2 : toP (.tup ds) = some (.tuple qs) := by show (toPs ds).map PyData.tuple = _; rw [e2]; rfl
    obtain ⟨as, r1⟩ := Dp.reads I p x v (hK ▸ lx.dp e1) rx
    obtain ⟨bs, r2⟩ := Dp.reads I (.tuple qs) y u (hK ▸ ly.dp h2) ry
    have cl := SeqAt.canLay_of_shaped (shaped_tl s2)
    have rm := PyProof.Rows.room_in_shaped (xs := qs) s1 (show X.A.units + 65 < cLine by omega)
    exact ⟨fun Q q => SeqAt.in_tuple_reads r2 r1 cl (SeqAt.canLay_of_shaped s1) rm ⟨.bl _, H, I, rfl, q⟩, fun Q q => SeqAt.notIn_tuple_reads r2 r1 cl (SeqAt.canLay_of_shaped s1) rm ⟨.bl _, H, I, rfl, q⟩⟩
theorem vm_inDict (gx : GX X g) (hu : X.A.units + 100 < cLine) {d e : D} {o : Option D} {O : OP} {H : Hp} {x y : V} (lx : Lk g O H d x) (ly : Lk g O H e y) (h : dictGet e d = some o) {pins : List (Addr × Obj)} {s : Shared} {σ : L2.St} {v u : Value} (I : Inv X pins σ H s) (rx : RelV x v) (ry : RelV y u) :
    (∀ Q : VK, Q (.bl o.isSome) H → wpAny (model X.prog X.w) X.A (compareOp .In v u) (EP X pins σ Q) X.xe s) ∧ ∀ Q : VK, Q (.bl (!o.isSome)) H → wpAny (model X.prog X.w) X.A (compareOp .NotIn v u) (EP X pins σ Q) X.xe s := by
  cases e with
  | dK kvs =>
    obtain ⟨a, r, rfl, hd, ho⟩ := vm_get ly lx h
    cases ry
    rw [← getSome ho]
    exact ⟨fun Q q => d_in (by omega) I hd rx fun s' I' => ⟨.bl _, H, I', rfl, q⟩, fun Q q => d_notIn (by omega) I hd rx fun s' I' => ⟨.bl _, H, I', rfl, q⟩⟩
  | dN kvs =>
    have h : (keyT d).map (valD kvs) = some o := h
    cases hk : keyT d with
    | none => rw [hk] at h; cases h
    | some k =>
      rw [hk] at h; cases h
      obtain ⟨n1, n2⟩ := n_in gx hu I ly lx hk rx ry (E := X.xe)
      exact ⟨fun Q q => n1 _ fun s' I' => ⟨.bl _, H, I', rfl, q⟩, fun Q q => n2 _ fun s' I' => ⟨.bl _, H, I', rfl, q⟩⟩
  | _ => exact nomatch (h : none = some o)
theorem vm_cmp (gx : GX X g) (hu : X.A.units + 100 < cLine) (op : CmpOp) : OpR X (compareOp op) (R2v g (cmpC op)) := by
  have hK := gx.K
  cases op with
  | Eq => exact vm_eq hK hu
  | NotEq => exact vm_ne hK hu
  | Lt => exact vm_lt hK hu
  | Gt => exact vm_gt
  | LtE => exact vm_le
  | GtE => exact vm_ge
  | In =>
    intro pins s σ H x y v u Q I rx ry ⟨O, d, d', c, lx, ly, ef, q⟩
    obtain ⟨b, h, rfl⟩ := cmp_of ef
    have dc : ∀ h : (dictGet d' d).map (·.isSome) = some b, wpAny (model X.prog X.w) X.A (compareOp .In v u) (EP X pins σ Q) X.xe s := fun h => by
      cases h1 : dictGet d' d with
      | none => rw [h1] at h; cases h
      | some o => rw [h1] at h; cases h; exact (vm_inDict gx hu lx ly h1 I rx ry).1 Q (q _ _ (.sh rfl))
    cases d' with
    | dK _ => exact dc h
    | dN _ => exact dc h
    | _ => exact (vm_inSeq hK hu lx ly h I rx ry).1 Q (q _ _ (.sh rfl))
  | Is =>
    intro pins s σ H x y v u Q I rx ry ⟨O, d, d', c, lx, ly, ef, q⟩
    obtain ⟨b, h, rfl⟩ := cmp_of ef
    cases d with
    | bl i => cases d' with
      | bl j => cases h; exact op_isBl pins s σ H x y v u Q I rx ry ⟨i, j, lx.bl, ly.bl, q _ _ (.sh rfl)⟩
      | _ => exact nomatch (h : none = some b)
    | _ => exact nomatch (h : none = some b)
  | IsNot =>
    intro pins s σ H x y v u Q I rx ry ⟨O, d, d', c, lx, ly, ef, q⟩
    obtain ⟨b, h, rfl⟩ := cmp_of ef
    cases d with
    | bl i => cases d' with
      | bl j => cases h; exact op_notBl pins s σ H x y v u Q I rx ry ⟨i, j, lx.bl, ly.bl, q _ _ (.sh rfl)⟩
      | _ => exact nomatch (h : none = some b)
    | _ => exact nomatch (h : none = some b)
  | NotIn =>
    intro pins s σ H x y v u Q I rx ry ⟨O, d, d', c, lx, ly, ef, q⟩
    obtain ⟨b, h, rfl⟩ := cmp_of ef
    have dc : ∀ h : (dictGet d' d).map (!·.isSome) = some b, wpAny (model X.prog X.w) X.A (compareOp .NotIn v u) (EP X pins σ Q) X.xe s := fun h => by
      cases h1 : dictGet d' d with
      | none => rw [h1] at h; cases h
      | some o => rw [h1] at h; cases h; exact (vm_inDict gx hu lx ly h1 I rx ry).2 Q (q _ _ (.sh rfl))
    have dq : ∀ h : (inD d d').map (!·) = some b, wpAny (model X.prog X.w) X.A (compareOp .NotIn v u) (EP X pins σ Q) X.xe s := fun h => by
      cases h1 : inD d d' with
      | none => rw [h1] at h; cases h
      | some o => rw [h1] at h; cases h; exact (vm_inSeq hK hu lx ly h1 I rx ry).2 Q (q _ _ (.sh rfl))
    cases d' with
    | dK _ => exact dc h
    | dN _ => exact dc h
    | _ => exact dq h
end
end VM

set_option linter.all false
set_option maxRecDepth 100000
set_option maxHeartbeats 2000000
/-! VM08: sorted of a tuple, a tuple backwards. -/
namespace VM
open PySem PySem.Spec PyProof.Rows
section
variable {prog : Program} {w : World} {A : Around} {E : Value → Shared → Prop} {s : Shared}
theorem seqMine {h : Heap} (vs : List Value) : ((h.push (seqObj "list" #[] 0)).update h.objs.size (Obj.mapSeq (· ++ vs.toArray))).objs.size = h.objs.size + 1 := by
  rw [Heap.size_update]; simp [Heap.push]
/-- a tuple's items, collected -/
theorem collect_tup {t : Addr} {vs : List Value} {Q : List Value → Shared → Prop} (ht : IsTup s.heap t vs.toArray) (hz : vs.length ≤ sizeLine)
    (h : Q vs { s with heap := (s.heap.push (seqObj "list" #[] 0)).update s.heap.objs.size (Obj.mapSeq (· ++ vs.toArray)) }) :
    wpAny (model prog w) A (collect (.ref t)) Q E s := by
  obtain ⟨o, ho, hc, n, hd⟩ := id ht
  have hn : (s.heap.push (seqObj "list" #[] 0)).get? s.heap.objs.size = some (seqObj "list" #[] 0) := Heap.get?_push_size _ rfl
  have ho2 : (s.heap.push (seqObj "list" #[] 0)).get? t = some o := Heap.get?_push_of_some _ ho
  have inner : wpAny (model prog w) A.in1 (Builtin.List.listExtendWith (.ref s.heap.objs.size) (.ref t) (.ref s.heap.objs.size))
      (fun r s' => r = .done (.ret (.ref s.heap.objs.size)) ∧ s' = { s with heap := (s.heap.push (seqObj "list" #[] 0)).update s.heap.objs.size (Obj.mapSeq (· ++ vs.toArray)) })
      (fun _ _ => False) { s with heap := s.heap.push (seqObj "list" #[] 0) } := by
    unfold Builtin.List.listExtendWith
    refine wpAny_bind (wpAny_typeOf (T := "tuple") ⟨o, ho2, hc⟩ ?_)
    rw [if_pos (by simp)]
    refine wpAny_bind (listItems_at ho2 hd (wpAny_bind (listItems_at hn rfl ?_)))
    rw [if_neg (by simp)]
    refine wpAny_bind (listUpdate_at hn rfl ?_ (Nat.zero_le _) ?_)
    · exact wpAny_bind (wpAny_pure (wpAny_pure ⟨rfl, rfl⟩))
    · show (#[] ++ vs.toArray).size ≤ sizeLine + 1
      simp only [Array.size_append, List.size_toArray]
      simp
      omega
  unfold collect
  refine wpAny_bind (wpAny_runValue (codeAny_builtin entry_proto_collect' ?_))
  rw [Around.under_plainId F.plain_proto_collect _]
  refine wpAny_bind (wpAny_newList (wpAny_pure ⟨Code.quiet_builtin _ (by decide +kernel), codeAny_builtin entry_list_iadd' ?_⟩))
  rw [Around.under_plainId F.plain_list_iadd _]
  refine wpAny_mono inner (fun r s' hr => ?_) (fun e s' hf => hf.elim)
  obtain ⟨rfl, rfl⟩ := hr
  refine wpAny_bind (wpAny_load (get?_update_seq (Heap.get?_push_size _ rfl) _) (wpAny_pure ?_))
  have e : ((#[] : Array Value) ++ vs.toArray).toList = vs := by simp
  show Q ((#[] : Array Value) ++ vs.toArray).toList _
  rw [e]
  exact h
/-- sorted(t), a tuple of ints -/
theorem sorted_tup {t : Addr} {vs : List Value} {ltv : Value → Value → Bool} {Q : Value → Shared → Prop} (O : SrtO.Swo ltv) (ht : IsTup s.heap t vs.toArray) (hz : vs.length ≤ sizeLine)
    (hS : 2 ≤ vs.length → ∀ (h₁ : Heap) (a : Addr), SrtO.SortableO prog w A.in1.in1 { s with heap := h₁ } a vs ltv)
    (h : ∀ out : List Value, SrtO.Srtd ltv out → SrtO.Stb ltv out vs → Q (.ref (s.heap.objs.size + 1)) { s with heap := sortedAll s.heap vs out.toArray }) :
    wpAny (model prog w) A (call (.builtin "sorted") [.ref t]) Q E s := by
  have e1 := seqMine (h := s.heap) vs
  refine Calls.call_function_entry kind_sorted plain_sorted entry_sorted (args_sorted1 _) ?_
  unfold Builtin.«sorted»
  refine wpAny_bind (m := checkCount "sorted" 1 1 _) (wpAny_pure (wpAny_bind (collect_tup ht hz ?_)))
  refine wpAny_bind (wpAny_newList ?_ hz)
  have at1 : (((s.heap.push (seqObj "list" #[] 0)).update s.heap.objs.size (Obj.mapSeq (· ++ vs.toArray))).push (seqObj "list" vs.toArray 0)).get? (s.heap.objs.size + 1) = some (seqObj "list" vs.toArray 0) := by
    rw [← e1]
    exact Heap.get?_push_size _ rfl
  show wpAny _ _ _ _ _ { s with heap := ((s.heap.push (seqObj "list" #[] 0)).update s.heap.objs.size (Obj.mapSeq (· ++ vs.toArray))).push (seqObj "list" vs.toArray 0) }
  rw [e1]
  refine wpAny_bind (wpAny_holding (wpAny_call_entry slot_list_sort ⟨_, at1, rfl⟩ entry_list_sort ?_ (args_list_sort _)))
  exact SrtO.list_sort_ord O at1 hz (fun z => hS z _ _) fun out a b => ⟨_, rfl, wpAny_pure ⟨_, rfl, h out a b⟩⟩
theorem adjust_back (n : Nat) : Builtin.Slice.sliceAdjust none none (-1) (n : Int) = ((n : Int) - 1, -1) := by
  unfold Builtin.Slice.sliceAdjust
  rw [show (if (-1 : Int) < 0 then (n : Int) - 1 else n) = (n : Int) - 1 from if_pos (by decide), show (if (-1 : Int) < 0 then (-1 : Int) else 0) = -1 from if_pos (by decide)]
  simp
theorem places_back (n : Nat) : Builtin.Slice.slicePlaces ((n : Int) - 1) (-1) (-1) = n := by
  unfold Builtin.Slice.slicePlaces
  simp
  split <;> omega
theorem fm_congr {α β : Type} {f g : α → Option β} : ∀ {l : List α}, (∀ a ∈ l, f a = g a) → l.filterMap f = l.filterMap g
  | [], _ => rfl
  | a :: l, h => by
    rw [List.filterMap_cons, List.filterMap_cons, h a List.mem_cons_self, fm_congr fun b hb => h b (List.mem_cons_of_mem _ hb)]
theorem pick_back (xs : Array Value) : ((List.range xs.size).filterMap fun (k : Nat) => xs[(((xs.size : Int) - 1) + (k : Int) * (-1)).toNat]?).toArray = xs.toList.reverse.toArray := by
  congr 1
  have h1 : ((List.range xs.size).filterMap fun (k : Nat) => xs[(((xs.size : Int) - 1) + (k : Int) * (-1)).toNat]?) = (List.range xs.size).filterMap (some ∘ fun k => xs.toList.reverse.getD k .none) := by
    refine fm_congr fun k hk => ?_
    have hk : k < xs.size := List.mem_range.mp hk
    have e2 : (((xs.size : Int) - 1) + (k : Int) * (-1)).toNat = xs.size - 1 - k := by omega
    rw [e2]
    show _ = some (xs.toList.reverse.getD k .none)
    rw [Array.getElem?_eq_getElem (by omega)]
    congr 1
    rw [List.getD_eq_getElem?_getD, List.getElem?_reverse (by simpa using hk), List.getElem?_eq_getElem (by simp; omega)]
    simp
  rw [h1, List.filterMap_eq_map]
  apply List.ext_getElem?
  intro i
  rw [List.getElem?_map]
  by_cases hi : i < xs.size
  · have hi2 : i < xs.toList.reverse.length := by simpa using hi
    rw [List.getElem?_range hi, List.getElem?_eq_getElem hi2]
    show some (xs.toList.reverse.getD i .none) = _
    rw [List.getD_eq_getElem?_getD, List.getElem?_eq_getElem hi2]
    rfl
  · have hi2 : xs.toList.reverse.length ≤ i := by simpa using hi
    rw [List.getElem?_eq_none (l := List.range xs.size) (by simpa using hi), List.getElem?_eq_none hi2]
    rfl
/-- t[::-1] -/
theorem item_back {t sl : Addr} {items : Array Value} {vl vu vs : Value} {Q : Value → Shared → Prop} (ht : IsTup s.heap t items) (hs : s.heap.IsSliceOf sl vl vu vs) (pl : IsPart vl none) (pu : IsPart vu none) (ps : IsPart vs (some (-1)))
    (h : Q (.ref s.heap.objs.size) { s with heap := s.heap.push { cls := .type "tuple", data := .seq items.toList.reverse.toArray } }) (hz : items.size ≤ sizeLine) :
    wpAny (model prog w) A (getItem (.ref t) (.ref sl)) Q E s := by
  have fits : sizeOk (.seq items.toList.reverse.toArray) := by
    show items.toList.reverse.toArray.size ≤ sizeLine
    simpa using hz
  obtain ⟨os, hos, hcs, hds⟩ := id hs
  have slt : s.TypeIs (.ref sl) "slice" := ⟨os, hos, hcs⟩
  have app : ∀ R : Int × Int × Nat → Shared → Prop, R ((items.size : Int) - 1, -1, items.size) s → wpAny (model prog w) A.in1 (Builtin.Slice.sliceApplied (.ref sl) (pure (items.size : Int))) R E s := fun R hR => by
    unfold Builtin.Slice.sliceApplied Builtin.Slice.sliceFields
    refine wpAny_bind (wpAny_bind (wpAny_field hos hds (x := vl) rfl (wpAny_bind (wpAny_field hos hds (x := vu) rfl (wpAny_bind (wpAny_field hos hds (x := vs) rfl (wpAny_pure ?_)))))))
    refine wpAny_bind (HT.slicePart_ ps ?_)
    show wpAny _ _ (if ((-1 : Int) == 0) = true then _ else _) _ _ s
    rw [if_neg (by decide)]
    refine wpAny_bind (HT.slicePart_ pl (wpAny_bind (HT.slicePart_ pu (wpAny_bind (wpAny_pure ?_)))))
    show wpAny _ _ (match Builtin.Slice.sliceAdjust none none (-1) (items.size : Int) with | (lo, hi) => pure (lo, (-1 : Int), Builtin.Slice.slicePlaces lo hi (-1))) _ _ s
    rw [adjust_back]
    show wpAny _ _ (pure ((items.size : Int) - 1, (-1 : Int), Builtin.Slice.slicePlaces ((items.size : Int) - 1) (-1) (-1))) _ _ s
    rw [places_back]
    exact wpAny_pure hR
  unfold getItem
  try with_reducible refine wpAny_holding ?_
  first | refine wpAny_bind (wpAny_pure ?_) | skip
  refine wpAny_bind (wpAny_sequenceKey ht.typeIs (by decide) (wpAny_bind (wpAny_callSpecial?_slot (name := Str.ofString "__getitem__") ht.typeIs PyProof.Rows.slot_tuple_getitem (wpAny_call_entry PyProof.Rows.slot_tuple_getitem ht.typeIs entry_tuple_getitem ?_ (args_tuple_getitem _ _)))))
  show wpAny _ _ (Builtin.Tuple.tupleItemsOf (.ref t) >>= _) _ _ s
  refine wpAny_bind (tupleItemsOf_ ht (wpAny_bind (wpAny_typeOf slt ?_)))
  rw [if_pos (by decide)]
  refine wpAny_bind (app _ ?_)
  have hno : ¬ ((((items.size : Int) - 1) == 0 && (-1 : Int) == 1 && items.size == items.size) = true) := by simp
  show wpAny _ _ (if (((items.size : Int) - 1) == 0 && (-1 : Int) == 1 && items.size == items.size) = true then _ else _) _ _ s
  rw [if_neg hno, pick_back]
  first
    | exact wpAny_bind (m := Builtin.Tuple.tupleExact _) (wpAny_newObj_type (wpAny_pure ⟨_, rfl, wpAny_pure h⟩) fits)
    | exact wpAny_bind (m := Builtin.Tuple.tupleExact _) (wpAny_newObj_type (wpAny_bind (wpAny_pure (wpAny_pure ⟨_, rfl, wpAny_pure h⟩))) fits)
    | exact wpAny_bind (wpAny_bind (m := Builtin.Tuple.tupleExact _) (wpAny_newObj_type (wpAny_pure (wpAny_pure ⟨_, rfl, wpAny_pure h⟩)) fits))
    | exact wpAny_bind (wpAny_bind (m := Builtin.Tuple.tupleExact _) (wpAny_newObj_type (wpAny_pure ⟨_, rfl, wpAny_pure h⟩) fits))
end
end VM

set_option linter.all false
set_option maxRecDepth 100000
/-! VM09: truth, subscripts, built-ins by values. -/
namespace VM
open PySem PySem.Spec PyProof.Rows L2
def T1v (g : G) (f : D → Option Bool) : V → Hp → (Bool → Hp → Prop) → Prop := fun x H Q => ∃ O d b, Lk g O H d x ∧ f d = some b ∧ Q b H
section
variable {X : Cx} {g : G} {O : OP} {H : Hp} {d : D} {v : V} {c : C}
theorem Lks.one {ds : List D} {xs : List V} (h : Lks g O H [d] xs) : ∃ v, xs = [v] ∧ Lk g O H d v := by
  obtain ⟨v, r, e, h, hr⟩ := h
  cases hr
  exact ⟨v, e, h⟩
theorem Lks.two {d2 : D} {xs : List V} (h : Lks g O H [d, d2] xs) : ∃ v u, xs = [v, u] ∧ Lk g O H d v ∧ Lk g O H d2 u := by
  obtain ⟨v, r, e, h, u, r2, e2, h2, hr⟩ := h
  cases hr
  subst e2
  exact ⟨v, u, e, h, h2⟩
/-! ### truth -/
theorem vm_truth (hK : X.K = g.K) : TruR X (T1v g truth) := by
  intro pins s σ H x v Q I rx ⟨O, d, b, lx, ef, q⟩
  have go : ∀ k, TruV X.K x H k → k = b → wpAny (model X.prog X.w) X.A (truthy v) (TP X pins σ Q) X.xe s := fun k hk e => tru_ok pins s σ H x v Q I rx ⟨k, hk, by rw [e]; exact q⟩
  cases d with
  | non => cases ef; obtain rfl := lx.non; exact go false rfl rfl
  | bl i => cases ef; obtain rfl := lx.bl; exact go _ rfl rfl
  | int i => cases ef; obtain rfl := lx.int; exact go _ rfl rfl
  | str z =>
    have ef : (if z.length ≤ sizeLine then some ((z.length : Int) != 0) else none) = some b := ef
    split at ef
    case isTrue hl => cases ef; obtain rfl := lx.str; exact go _ ⟨hl, rfl⟩ rfl
    case isFalse => cases ef
  | tup ds =>
    cases ef
    obtain ⟨a, vs, rfl, h1, r⟩ := lx.tup
    refine go _ (.inr (.inl ⟨vs, hK ▸ h1.sq, rfl⟩)) ?_
    have := r.length
    cases ds <;> cases vs <;> first | rfl | cases this
  | lst ds =>
    cases ef
    obtain ⟨a, vs, rfl, h1, r⟩ := lx.lst
    refine go _ (.inl ⟨vs, .of h1, rfl⟩) ?_
    have := r.length
    cases ds <;> cases vs <;> first | rfl | cases this
  | dK ds =>
    cases ef
    obtain ⟨a, vs, rfl, h1, r⟩ := lx.dK
    cases rx
    refine d_truth I h1 fun s' I' => ⟨H, I', ?_⟩
    have e : vs.isEmpty = ds.isEmpty := by
      cases ds with
      | nil => cases r; rfl
      | cons p ds => obtain ⟨w, r', e, _⟩ := r; subst e; rfl
    rw [e]
    exact q
  | _ => exact nomatch (ef : none = some b)
/-! ### subscripts -/
theorem Shs.atI {ds : List D} {vs : List V} {i : Int} (h : Shs g O H ds vs) (e : atI ds i = some d) : ∃ v, L2.atI vs i = some v ∧ Sh g O H d v := by
  unfold L2.atI at e ⊢
  rw [h.length]
  cases q : ixN ds.length i with
  | none => rw [q] at e; cases e
  | some j => rw [q] at e; exact h.get e
theorem vm_ix (gx : GX X g) (hu : X.A.units + 100 < cLine) : IxR X (R2v g fun d e => (idxD d e).map .sh) := by
  intro value slice pins s σ H x y v u Q I rx ry ⟨O, d, d', c, lx, ly, ef, q⟩ hs
  have hK := gx.K
  have ef : (idxD d d').map C.sh = some c := ef
  cases h0 : idxD d d' with
  | none => rw [h0] at ef; cases ef
  | some r =>
    rw [h0] at ef; cases ef
    have dc : ∀ {kvs}, d = .dK kvs → ∀ h : (dictGet d d').bind id = some r, wpAny (model X.prog X.w) X.A (subscriptTail value slice v u) (EP X pins σ Q) X.xe s := fun ed h => by
      subst ed
      cases h1 : dictGet (.dK _) d' with
      | none => rw [h1] at h; cases h
      | some o =>
        rw [h1] at h
        have h : o = some r := h
        subst h
        obtain ⟨a, w, rfl, dg, hw⟩ := vm_get lx ly h1
        rcases hw with ⟨z, _⟩ | ⟨d1, v1, e1, e2, hsh⟩
        · cases z
        · cases e1
          subst e2
          cases rx
          exact tail_any (dict_typeIs I dg) PySem.F.slot_dict_getitem.lookup (d_getItem (by omega) I dg ry fun w' s' I' rw' => ⟨v1, H, I', rw', q _ _ (.sh hsh)⟩) hs
    have dn : ∀ {kvs}, d = .dN kvs → ∀ h : (dictGet d d').bind id = some r, wpAny (model X.prog X.w) X.A (subscriptTail value slice v u) (EP X pins σ Q) X.xe s := fun {kvs} ed h => by
      subst ed
      have h : ((keyT d').map (valD kvs)).bind id = some r := h
      cases hk : keyT d' with
      | none => rw [hk] at h; cases h
      | some k =>
        rw [hk] at h
        exact tail_any (n_typeIs gx I lx rx) PySem.F.slot_dict_getitem.lookup (n_get gx hu I lx ly hk (h : valD kvs k = some r) ry rx fun w' u' s' I' rw' hw => ⟨w', H, I', rw', q _ _ (.sh hw)⟩) hs
    cases d with
    | lst ds => cases d' with
      | int k =>
        obtain ⟨a, vs, rfl, h1, rs⟩ := lx.lst
        obtain ⟨w, ew, hw⟩ := rs.atI (h0 : atI ds k = some r)
        exact ix_list value slice pins s σ H _ y v u Q I rx ry ⟨a, vs, k, w, rfl, ly.int, .of h1, ew, q _ _ (.sh hw)⟩ hs
      | _ => exact nomatch (h0 : none = some r)
    | tup ds => cases d' with
      | int k =>
        obtain ⟨a, vs, rfl, h1, rs⟩ := lx.tup
        obtain ⟨w, ew, hw⟩ := rs.atI (h0 : atI ds k = some r)
        exact ix_tup value slice pins s σ H _ y v u Q I rx ry ⟨a, vs, k, w, rfl, ly.int, hK ▸ h1.sq, ew, q _ _ (.sh hw)⟩ hs
      | _ => exact nomatch (h0 : none = some r)
    | str z => cases d' with
      | int k =>
        have h0 : (if z.length ≤ sizeLine then (atI z.cps.toList k).map fun c => D.str ⟨#[c]⟩ else none) = some r := h0
        split at h0
        case isTrue hl =>
          cases h2 : atI z.cps.toList k with
          | none => rw [h2] at h0; cases h0
          | some cc =>
            rw [h2] at h0; cases h0
            exact ix_str value slice pins s σ H _ y v u Q I rx ry ⟨z, k, cc, lx.str, ly.int, hl, h2, q _ _ (.sh rfl)⟩ hs
        case isFalse => cases h0
      | _ => exact nomatch (h0 : none = some r)
    | dK _ => exact dc rfl h0
    | dN _ => exact dn rfl h0
    | _ => exact nomatch (h0 : none = some r)
/-! ### -a -/
theorem vm_neg : UnR X (unaryOp .USub) (R1v g fun d => match d with | .int i => some (.sh (.int (-i))) | _ => none) := by
  intro pins s σ H x v Q I rx ⟨O, d, c, lx, ef, q⟩
  cases d with
  | int i => cases ef; exact un_neg pins s σ H x v Q I rx ⟨i, lx.int, q _ _ (.sh rfl)⟩
  | _ => exact nomatch (ef : none = some c)
/-! ### slices -/
theorem Shs.cut {ds : List D} {vs : List V} (h : Shs g O H ds vs) (lo hi : Option Int) : Shs g O H (cutD ds lo hi) (cutV vs lo hi) := by
  unfold cutD cutV
  rw [h.length]
  exact (h.drop _).take _
def slcD (d : D) (l u : Option Int) : Option C := match d with
  | .lst xs => some (.ow (.lst (cutD xs l u)))
  | .rol xs => some (.ow (.lst (cutD xs l u)))
  | .tup xs => some (.sh (.tup (cutD xs l u)))
  | _ => none
theorem cut_whole {ds : List D} {lo hi : Option Int} (h : HT.sIx ds.length 0 lo = 0 ∧ HT.sIx ds.length ds.length hi = ds.length) : cutD ds lo hi = ds := by
  unfold cutD
  rw [h.1, h.2]
  simp
theorem vm_slc (hK : X.K = g.K) : SlR X (fun x lo hi H Q => ∃ O d c, Lk g O H d x ∧ slcD d lo hi = some c ∧ ∀ v H', NV g O H c v H' → Q v H') := by
  intro pins s σ H x v vl vu lo hi sl Q I rx hs pl pu ⟨O, d, c, lx, ef, q⟩
  cases d with
  | lst ds =>
    cases ef
    obtain ⟨a, vs, rfl, h1, r⟩ := lx.lst
    exact sl_list pins s σ H _ v vl vu lo hi sl Q I rx hs pl pu ⟨a, vs, rfl, .of h1, fun p hp => q _ _ (.lst hp (r.cut lo hi))⟩
  | rol ds =>
    cases ef
    obtain ⟨a, vs, rfl, h1, r⟩ := lx.rol
    exact sl_list pins s σ H _ v vl vu lo hi sl Q I rx hs pl pu ⟨a, vs, rfl, hK ▸ h1.sq, fun p hp => q _ _ (.lst hp (r.cut lo hi))⟩
  | tup ds =>
    cases ef
    obtain ⟨a, vs, rfl, h1, r⟩ := lx.tup
    refine sl_tupF pins s σ H _ v vl vu lo hi sl Q I rx hs pl pu ⟨a, vs, rfl, hK ▸ h1.sq, fun z => ?_, fun p o hp ho => q _ _ (.tup hp ho (r.cut lo hi))⟩
    rw [r.length] at z
    exact q _ _ (.sh ⟨a, vs, rfl, h1, by rw [cut_whole z]; exact r⟩)
  | _ => exact nomatch (ef : none = some c)
/-! ### len -/
theorem ShK.length : ∀ {ds : List (Key × D)} {vs : List (Key × V)}, ShK g O H ds vs → vs.length = ds.length
  | [], _, h => by cases h; rfl
  | _ :: ds, _, ⟨v, r, e, _, h⟩ => by subst e; simp [ShK.length h]
theorem map_of {α β : Type} {o : Option α} {f : α → β} {b : β} (h : o.map f = some b) : ∃ a, o = some a ∧ b = f a := by
  cases o with
  | none => cases h
  | some a => cases h; exact ⟨a, rfl, rfl⟩
theorem len1 {f : D → Option C} {ds : List D} {b : Bi} (hb : ∀ ds, biD b ds = match ds with | [d] => f d | _ => none) (h : biD b ds = some c) : ∃ d, ds = [d] ∧ f d = some c := by
  rw [hb] at h
  match ds, h with
  | [d], h => exact ⟨d, rfl, h⟩
theorem vm_len (gx : GX X g) : CallR X (.builtin "len") (RLv g (biD .len)) := by
  have hK := gx.K
  intro pins s σ H xs us Q I r ⟨O, ds, c, ls, ef, q⟩
  match ds, ef with
  | [d], ef =>
    obtain ⟨x, rfl, lx⟩ := ls.one (ds := [])
    obtain ⟨n, hn, rfl⟩ := map_of (show (lenD d).map (fun n : Nat => C.sh (.int n)) = some c from ef)
    have fin : ∀ m : Nat, m = n → Q (.int (m : Int)) H := fun m e => by rw [e]; exact q _ _ (.sh rfl)
    cases d with
    | lst ds =>
      cases hn
      obtain ⟨a, vs, rfl, h1, rs⟩ := lx.lst
      exact call_len_seq pins s σ H _ us Q I r ⟨a, vs, rfl, .inl (.of h1), fin _ rs.length⟩
    | tup ds =>
      cases hn
      obtain ⟨a, vs, rfl, h1, rs⟩ := lx.tup
      exact call_len_seq pins s σ H _ us Q I r ⟨a, vs, rfl, .inr (hK ▸ h1.sq), fin _ rs.length⟩
    | rol ds =>
      cases hn
      obtain ⟨a, vs, rfl, h1, rs⟩ := lx.rol
      exact call_len_seq pins s σ H _ us Q I r ⟨a, vs, rfl, .inl (hK ▸ h1.sq), fin _ rs.length⟩
    | str z =>
      have hn : (if z.length ≤ sizeLine then some z.length else none) = some n := hn
      split at hn
      case isTrue hl => cases hn; exact call_len_str pins s σ H _ us Q I r ⟨z, by rw [lx.str], hl, fin _ rfl⟩
      case isFalse => cases hn
    | dK kvs =>
      cases hn
      obtain ⟨a, vs, rfl, h1, rs⟩ := lx.dK
      obtain ⟨u, rfl, ru⟩ := vals1 r
      cases ru
      exact d_len I h1 fun t s' I' => ⟨.int vs.length, H, I', ⟨t, rfl⟩, fin _ rs.length⟩
    | dN kvs =>
      cases hn
      obtain ⟨a, es, rfl, h1, rs⟩ := lx.dN
      obtain ⟨u, rfl, ru⟩ := vals1 r
      cases ru
      obtain ⟨dd, hd, z⟩ := dic_of gx I h1 rs
      have hl := rs.length
      refine call_len_dictH hd dd (by rw [sizeLine_eq] at z; omega) ?_
      exact ⟨.int es.length, H, I.tok _, ⟨_, rfl⟩, fin _ hl⟩
    | _ => exact nomatch (hn : none = some n)
theorem vm_min (hc : X.calm = true) : CallR X (.builtin "min") (RLv g (biD .min2)) := by
  intro pins s σ H xs us Q I r ⟨O, ds, c, ls, ef, q⟩
  match ds, ef with
  | [.int i, .int j], ef =>
    cases ef
    obtain ⟨x, y, rfl, lx, ly⟩ := ls.two
    exact call_min2 hc pins s σ H _ us Q I r ⟨i, j, by rw [lx.int, ly.int], q _ _ (.sh rfl)⟩
theorem vm_max (hc : X.calm = true) : CallR X (.builtin "max") (RLv g (biD .max2)) := by
  intro pins s σ H xs us Q I r ⟨O, ds, c, ls, ef, q⟩
  match ds, ef with
  | [.int i, .int j], ef =>
    cases ef
    obtain ⟨x, y, rfl, lx, ly⟩ := ls.two
    exact call_max2 hc pins s σ H _ us Q I r ⟨i, j, by rw [lx.int, ly.int], q _ _ (.sh rfl)⟩
theorem vm_int : CallR X (.type "int") (RLv g (biD .int1)) := by
  intro pins s σ H xs us Q I r ⟨O, ds, c, ls, ef, q⟩
  match ds, ef with
  | [.int i], ef =>
    cases ef
    obtain ⟨x, rfl, lx⟩ := ls.one (ds := [])
    exact call_int1 pins s σ H _ us Q I r (.inl ⟨i, by rw [lx.int], q _ _ (.sh rfl)⟩)
theorem vm_list (hK : X.K = g.K) : CallR X (.type "list") (RLv g (biD .list1)) := by
  intro pins s σ H xs us Q I r ⟨O, ds, c, ls, ef, q⟩
  match ds, ef with
  | [.lst i], ef =>
    cases ef
    obtain ⟨x, rfl, lx⟩ := ls.one (ds := [])
    obtain ⟨a, vs, rfl, h1, rs⟩ := lx.lst
    exact call_list_of pins s σ H _ us Q I r ⟨a, vs, rfl, .inl (.of h1), fun p hp => q _ _ (.lst hp rs)⟩
  | [.rol i], ef =>
    cases ef
    obtain ⟨x, rfl, lx⟩ := ls.one (ds := [])
    obtain ⟨a, vs, rfl, h1, rs⟩ := lx.rol
    exact call_list_of pins s σ H _ us Q I r ⟨a, vs, rfl, .inl (hK ▸ h1.sq), fun p hp => q _ _ (.lst hp rs)⟩
  | [.tup i], ef =>
    cases ef
    obtain ⟨x, rfl, lx⟩ := ls.one (ds := [])
    obtain ⟨a, vs, rfl, h1, rs⟩ := lx.tup
    exact call_list_of pins s σ H _ us Q I r ⟨a, vs, rfl, .inr (hK ▸ h1.sq), fun p hp => q _ _ (.lst hp rs)⟩
theorem vm_tuple (hK : X.K = g.K) : CallR X (.type "tuple") (RLv g (biD .tuple1)) := by
  intro pins s σ H xs us Q I r ⟨O, ds, c, ls, ef, q⟩
  match ds, ef with
  | [.lst i], ef =>
    cases ef
    obtain ⟨x, rfl, lx⟩ := ls.one (ds := [])
    obtain ⟨a, vs, rfl, h1, rs⟩ := lx.lst
    exact call_tupF pins s σ H _ us Q I r ⟨a, vs, rfl, .inl ⟨.of h1, fun p o hp ho => q _ _ (.tup hp ho rs)⟩⟩
  | [.tup i], ef =>
    cases ef
    obtain ⟨x, rfl, lx⟩ := ls.one (ds := [])
    obtain ⟨a, vs, rfl, h1, rs⟩ := lx.tup
    exact call_tupF pins s σ H _ us Q I r ⟨a, vs, rfl, .inr ⟨hK ▸ h1.sq, q _ _ (.sh ⟨a, vs, rfl, h1, rs⟩)⟩⟩
theorem vm_sum (hc : X.calm = true) : CallR X (.builtin "sum") (RLv g (biD .sum)) := by
  intro pins s σ H xs us Q I r ⟨O, ds, c, ls, ef, q⟩
  match ds, ef with
  | [.lst i], ef =>
    obtain ⟨is, h2, rfl⟩ := map_of (ef : (intsOf i).map (fun is => C.sh (.int (sumI is))) = some c)
    obtain ⟨x, rfl, lx⟩ := ls.one (ds := [])
    obtain ⟨a, vs, rfl, h1, rs⟩ := lx.lst
    rw [rs.ints h2] at h1
    have e : is.sum = sumI is := by
      induction is with
      | nil => rfl
      | cons x xs ih => simp [sumI, ← sum_eq xs]
    refine cr_sum hc pins s σ H _ us Q I r ⟨a, is, rfl, .of h1, ?_⟩
    rw [e]
    exact q _ _ (.sh rfl)
where sum_eq : ∀ is : List Int, is.sum = sumI is
  | [] => rfl
  | x :: xs => by simp [sumI, sum_eq xs]
theorem vm_all (hc : X.calm = true) : CallR X (.builtin "all") (RLv g (biD .all)) := by
  intro pins s σ H xs us Q I r ⟨O, ds, c, ls, ef, q⟩
  match ds, ef with
  | [.lst i], ef =>
    obtain ⟨is, h2, rfl⟩ := map_of (ef : (boolsOf i).map (fun is => C.sh (.bl (is.all id))) = some c)
    obtain ⟨x, rfl, lx⟩ := ls.one (ds := [])
    obtain ⟨a, vs, rfl, h1, rs⟩ := lx.lst
    rw [rs.bools h2] at h1
    exact cr_all hc pins s σ H _ us Q I r ⟨a, is, rfl, .of h1, q _ _ (.sh rfl)⟩
theorem vm_any (hc : X.calm = true) : CallR X (.builtin "any") (RLv g (biD .any)) := by
  intro pins s σ H xs us Q I r ⟨O, ds, c, ls, ef, q⟩
  match ds, ef with
  | [.lst i], ef =>
    obtain ⟨is, h2, rfl⟩ := map_of (ef : (boolsOf i).map (fun is => C.sh (.bl (is.any id))) = some c)
    obtain ⟨x, rfl, lx⟩ := ls.one (ds := [])
    obtain ⟨a, vs, rfl, h1, rs⟩ := lx.lst
    rw [rs.bools h2] at h1
    exact cr_any hc pins s σ H _ us Q I r ⟨a, is, rfl, .of h1, q _ _ (.sh rfl)⟩
/-! ### sorted -/
theorem insertI_perm (x : Int) : ∀ l, (insertI x l).Perm (x :: l)
  | [] => .refl _
  | y :: ys => by
    unfold insertI
    split
    · exact .refl _
    · exact ((insertI_perm x ys).cons y).trans (.swap x y ys)
theorem sortI_perm : ∀ l, (sortI l).Perm l
  | [] => .refl _
  | x :: xs => (insertI_perm x _).trans ((sortI_perm xs).cons x)
theorem insertI_srt (x : Int) : ∀ l : List Int, l.Pairwise (· ≤ ·) → (insertI x l).Pairwise (· ≤ ·)
  | [], _ => List.pairwise_singleton _ _
  | y :: ys, h => by
    unfold insertI
    obtain ⟨h1, h2⟩ := List.pairwise_cons.mp h
    split
    case isTrue hl => exact List.pairwise_cons.mpr ⟨fun a ha => by
      rcases List.mem_cons.mp ha with rfl | ha
      · exact hl
      · exact Int.le_trans hl (h1 a ha), h⟩
    case isFalse hl => exact List.pairwise_cons.mpr ⟨fun a ha => by
      rcases List.mem_cons.mp ((insertI_perm x ys).mem_iff.mp ha) with rfl | ha
      · omega
      · exact h1 a ha, insertI_srt x ys h2⟩
theorem sortI_srt : ∀ l, (sortI l).Pairwise (· ≤ ·)
  | [] => .nil
  | x :: xs => insertI_srt x _ (sortI_srt xs)
theorem srt_eq {a l : List Int} (h1 : a.Perm l) (h2 : a.Pairwise (· ≤ ·)) : a = sortI l :=
  List.Perm.eq_of_pairwise (fun x y _ _ p q => Int.le_antisymm p q) h2 (sortI_srt l) (h1.trans (sortI_perm l).symm)
theorem each_of {α β : Type} {R : α → β → Prop} : ∀ {as : List α} {bs : List β}, as.length = bs.length → (∀ (i : Nat) a b, as[i]? = some a → bs[i]? = some b → R a b) → PySem.W.EachIs R as bs
  | [], [], _, _ => .nil
  | a :: as, b :: bs, hl, h => .cons (h 0 a b rfl rfl) (each_of (by simpa using hl) fun i a b h1 h2 => h (i + 1) a b h1 h2)
/-- a value that stands for a datum -/
def StV (g : G) (O : OP) (H : Hp) (v : Value) (d : D) : Prop := ∃ x, RelV x v ∧ Sh g O H d x
theorem each_at {α β : Type} {R : α → β → Prop} : ∀ {as : List α} {bs : List β}, PySem.W.EachIs R as bs → ∀ (i : Nat) {a : α} {b : β}, as[i]? = some a → bs[i]? = some b → R a b
  | _, _, .nil, i, _, _, h, _ => by simp at h
  | _, _, .cons h t, 0, _, _, h1, h2 => by simp at h1 h2; subst h1 h2; exact h
  | _, _, .cons h t, i + 1, _, _, h1, h2 => each_at t i (by simpa using h1) (by simpa using h2)
theorem stv_each {g : G} {O : OP} {H : Hp} : ∀ {ds : List D} {vs : List V} {us : List Value}, Shs g O H ds vs → Vals vs us → PySem.W.EachIs (StV g O H) us ds
  | [], _, _, h, r => by cases h; cases r; exact .nil
  | d :: ds, _, _, ⟨v, vs, e, h, hs⟩, r => by
    subst e
    cases r with
    | cons r rs => exact .cons ⟨v, r, h⟩ (stv_each hs rs)
theorem stv_back {g : G} {O : OP} {H : Hp} : ∀ {ds : List D} {us : List Value}, PySem.W.EachIs (StV g O H) us ds → ∃ vs, Vals vs us ∧ Shs g O H ds vs
  | _, _, .nil => ⟨[], .nil, rfl⟩
  | _, _, .cons ⟨v, r, h⟩ t => by
    obtain ⟨vs, rs, hs⟩ := stv_back t
    exact ⟨v :: vs, .cons r rs, v, vs, rfl, h, hs⟩
theorem toPs_pd : ∀ {ds : List D} {ps : List PyData}, toPs ds = some ps → ds.map pdD = ps ∧ ∀ d ∈ ds, toP d = some (pdD d)
  | [], _, h => by cases h; exact ⟨rfl, fun _ z => by cases z⟩
  | d :: ds, _, h => by
    have h : (match toP d with | none => none | some p => (toPs ds).map (p :: ·)) = some _ := h
    cases q : toP d with
    | none => rw [q] at h; cases h
    | some p =>
      rw [q] at h
      cases q2 : toPs ds with
      | none => rw [q2] at h; cases h
      | some ps =>
        rw [q2] at h; cases h
        obtain ⟨h1, h2⟩ := toPs_pd q2
        have e : pdD d = p := by unfold pdD; rw [q]; rfl
        refine ⟨by rw [List.map_cons, h1, e], fun x hx => ?_⟩
        rcases List.mem_cons.mp hx with rfl | hx
        · rw [e]; exact q
        · exact h2 x hx
theorem leD_eq : PySem.W.dataLe false pdD = leD := rfl
theorem leD_trans (a b c : D) (h1 : leD a b = true) (h2 : leD b c = true) : leD a c = true := by
  unfold leD at *
  rw [Bool.not_eq_true'] at *
  cases q : PySem.W.dataLt (pdD c) (pdD a) with
  | false => rfl
  | true =>
    rcases PyProof.Rows.lex_negTrans (O := PyProof.Rows.itemOrd) _ (PySem.W.keyToks (pdD b)) _ q with z | z
    · exact absurd z (by rw [show PyProof.Rows.lexLt PyProof.Rows.itemOrd (PySem.W.keyToks (pdD c)) (PySem.W.keyToks (pdD b)) = false from h2]; decide)
    · exact absurd z (by rw [show PyProof.Rows.lexLt PyProof.Rows.itemOrd (PySem.W.keyToks (pdD b)) (PySem.W.keyToks (pdD a)) = false from h1]; decide)
theorem leD_total (a b : D) : (leD a b || leD b a) = true := by
  unfold leD
  cases q : PySem.W.dataLt (pdD b) (pdD a) with
  | false => rfl
  | true => cases q2 : PySem.W.dataLt (pdD a) (pdD b) with
    | false => rfl
    | true =>
      have z := PyProof.Rows.lex_trans (O := PyProof.Rows.itemOrd) _ _ _ q q2
      rw [PyProof.Rows.lex_irrefl] at z
      cases z
theorem insD_at (x : D) : ∀ (l1 l2 : List D), (∀ b ∈ l1, leD x b = false) → (∀ b ∈ l2, leD x b = true) → insD x (l1 ++ l2) = l1 ++ x :: l2
  | [], [], _, _ => rfl
  | [], y :: ys, _, h => by
    show (if leD x y = true then x :: y :: ys else y :: insD x ys) = _
    rw [if_pos (h y List.mem_cons_self)] <;> rfl
  | b :: l1, l2, h1, h2 => by
    show (if leD x b = true then x :: b :: (l1 ++ l2) else b :: insD x (l1 ++ l2)) = _
    rw [if_neg (by rw [h1 b List.mem_cons_self]; decide), insD_at x l1 l2 (fun c hc => h1 c (List.mem_cons_of_mem _ hc)) h2] <;> rfl
theorem merge_eq : ∀ l : List D, l.mergeSort leD = sortDD l
  | [] => by simp [sortDD]
  | x :: xs => by
    obtain ⟨l1, l2, e1, e2, h⟩ := List.mergeSort_cons leD_trans leD_total x xs
    have s := List.pairwise_mergeSort leD_trans leD_total (x :: xs)
    rw [e1] at s
    have s2 := (List.pairwise_append.mp s).2.1
    rw [e1, sortDD, ← merge_eq xs, e2]
    exact (insD_at x l1 l2 (fun b hb => by have := h b hb; simpa using this) fun b hb => (List.pairwise_cons.mp s2).1 b hb).symm
theorem sortOk_of {ps : List PyData} (h : sortOkP ps = true) : (∀ p ∈ ps, SeqAt.shaped p = true) ∧ PySem.W.AllAlike ps ∧ PySem.W.Sortable ps := by
  unfold sortOkP at h
  rw [Bool.and_eq_true, Bool.or_eq_true] at h
  obtain ⟨h1, h2⟩ := h
  have h1 := fun p hp => Bool.and_eq_true_iff.mp (List.all_eq_true.mp h1 p hp)
  refine ⟨fun p hp => (h1 p hp).1, fun p hp q hq => List.all_eq_true.mp (h1 p hp).2 q hq, ?_⟩
  rcases h2 with h2 | h2
  · refine .inl fun p hp => ?_
    have := List.all_eq_true.mp h2 p hp
    unfold isTupC at this
    split at this
    · exact ⟨_, _, rfl⟩
    · cases this
  · refine .inr fun p hp => ?_
    have := List.all_eq_true.mp h2 p hp
    unfold isFlat at this
    split at this
    · cases this
    · cases this
    · next a b => exact ⟨b, a⟩
theorem shaped_depth {p : PyData} (h : SeqAt.shaped p = true) : p.depth ≤ 64 := by
  have e : (PyData.canLay0 p && decide (p.depth ≤ 64)) = true := h
  rw [Bool.and_eq_true] at e
  exact of_decide_eq_true e.2
theorem vm_sorted (hK : X.K = g.K) (hu : X.A.units + 100 < cLine) : CallR X (.builtin "sorted") (RLv g (biD .sorted)) := by
  intro pins s σ H xs us Q I r ⟨O, ds, c, ls, ef, q⟩
  match ds, ef with
  | [.lst i], ef =>
    have ef : sortD i = some c := ef
    obtain ⟨x, rfl, lx⟩ := ls.one (ds := [])
    obtain ⟨a, vs, rfl, h1, rs⟩ := lx.lst
    unfold sortD at ef
    split at ef
    · next is h2 =>
      cases ef
      rw [rs.ints h2] at h1
      refine cr_sortedI pins s σ H _ us Q I r ⟨a, is, rfl, .of h1, fun ns' p p1 p2 hp => ?_⟩
      rw [srt_eq p1 p2]
      exact q _ _ (.lst hp (Shs.ofInts _))
    · split at ef
      · next ps h2 =>
        split at ef
        case isFalse => cases ef
        case isTrue hok =>
          cases ef
          obtain ⟨k1, k2, k3⟩ := sortOk_of hok
          obtain ⟨m1, m2⟩ := toPs_pd h2
          obtain ⟨its, rv, hl, hz⟩ := I.list (.of h1)
          obtain ⟨u, rfl, ru⟩ := vals1 r
          cases ru
          have ev := stv_each rs rv
          have hlen : i.length = vs.length := (ev.length.symm.trans rv.length.symm)
          refine PySem.W.sorted_data (R := StV g O H) (enc := pdD) (bs := i) hl.isList ev ?_ (by rw [m1]; exact k2) (by rw [m1]; exact k3) (by omega) (fun b hb => ?_) fun out ho eo => ?_
          · refine each_of (by rw [← rv.length]; exact hlen.symm) fun j v d hv hd => ?_
            obtain ⟨x, rx, sx⟩ := each_at ev j hv hd
            exact Dp.reads I (pdD d) x v (hK ▸ Sh.dp d x (pdD d) sx (m2 d (List.mem_of_getElem? hd))) rx
          · have := shaped_depth (k1 (pdD b) (by rw [← m1]; exact List.mem_map.mpr ⟨b, hb, rfl⟩))
            omega
          · rw [leD_eq, merge_eq] at eo
            obtain ⟨ys, ry, sy⟩ := stv_back eo
            obtain ⟨ep, he'⟩ := PyProof.Rows.sortedAll_at s.heap its out.toArray
            have hys : ys.length ≤ sizeLine := by
              rw [ry.length, ho]
              omega
            have nw : ObjOk X.prog X.w (upd H (s.heap.objs.size + 1) (.lst ys)) (PyProof.Rows.sortedAll s.heap its out.toArray) (s.heap.objs.size + 1) (.lst ys) := ⟨hys, out, ep, ry, he'⟩
            exact ⟨.ref (s.heap.objs.size + 1), _, I.laid (t' := s.toks) (fun b o eo => PyProof.Rows.sortedAll_old eo) (Nat.le_succ _) nw, rfl, q _ _ (.lst (I.hok.fresh (Nat.le_succ _)) sy)⟩
      · cases ef
  | [.tup i], ef =>
    obtain ⟨is, h2, rfl⟩ := map_of (ef : (intsOf i).map (fun is => C.ow (.lst ((sortI is).map D.int))) = some c)
    obtain ⟨x, rfl, lx⟩ := ls.one (ds := [])
    obtain ⟨a, vs, rfl, h1, rs⟩ := lx.tup
    rw [rs.ints h2] at h1
    obtain ⟨its, rv, hl, hz⟩ := I.tuple (hK ▸ h1.sq)
    obtain ⟨u, rfl, ru⟩ := vals1 r
    cases ru
    have hi := intsAre_of rv
    refine sorted_tup SrtO.swo_int hl (by rw [← rv.length]; exact hz) (fun h2 h₁ a' => SrtO.ints_sortable hi h2) fun out o1 o2 => ?_
    obtain ⟨k1, k2, k3⟩ := SrtO.ints_out hi o1 o2
    obtain ⟨ep, he'⟩ := PyProof.Rows.sortedAll_at s.heap its out.toArray
    have hlen : ((out.map SrtO.iv).map V.int).length ≤ sizeLine := by
      rw [List.length_map] at hz ⊢
      rw [k2.length_eq]
      exact hz
    have nw : ObjOk X.prog X.w (upd H (s.heap.objs.size + 1) (.lst ((out.map SrtO.iv).map V.int))) (PyProof.Rows.sortedAll s.heap its out.toArray) (s.heap.objs.size + 1) (.lst ((out.map SrtO.iv).map V.int)) := ⟨hlen, out, ep, vals_of_ints k1, he'⟩
    refine ⟨.ref (s.heap.objs.size + 1), _, I.laid (t' := s.toks) (fun b o eo => PyProof.Rows.sortedAll_old eo) (Nat.le_succ _) nw, rfl, ?_⟩
    rw [srt_eq k2 k3]
    exact q _ _ (.lst (I.hok.fresh (Nat.le_succ _)) (Shs.ofInts _))
end
end VM

set_option linter.all false
set_option maxRecDepth 100000
/-! VM10: repr, isinstance, methods, stores by values. -/
namespace VM
open PySem PySem.Spec PyProof.Rows L2
section
variable {X : Cx} {g : G} {O : OP} {H : Hp} {d : D} {v : V} {c : C}
mutual
theorem toP_nodict : ∀ (d : D) (p : PyData), toP d = some p → p.hasDict = false
  | .non, _, e => by cases e; rfl
  | .bl _, _, e => by cases e; rfl
  | .int _, _, e => by cases e; rfl
  | .str _, _, e => by cases e; rfl
  | .tup ds, _, e => by
    obtain ⟨ps, h, rfl⟩ := map_of (e : (toPs ds).map PyData.tuple = some _)
    simpa [PyData.hasDict] using toPs_nodict ds ps h
  | .lst ds, _, e => by
    obtain ⟨ps, h, rfl⟩ := map_of (e : (toPs ds).map PyData.list = some _)
    simpa [PyData.hasDict] using toPs_nodict ds ps h
  | .rol _, _, e => by cases e
  | .dK _, _, e => by cases e
  | .dN _, _, e => by cases e
  | .prs _, _, e => by cases e
  | .hnd _, _, e => by cases e
  | .fn _, _, e => by cases e
theorem toPs_nodict : ∀ (ds : List D) (ps : List PyData), toPs ds = some ps → PyData.hasDictAll ps = false
  | [], _, e => by cases e; rfl
  | d :: ds, _, e => by
    have e : (match toP d with | none => none | some p => (toPs ds).map (p :: ·)) = some _ := e
    cases q : toP d with
    | none => rw [q] at e; cases e
    | some p =>
      rw [q] at e
      obtain ⟨ps, h, rfl⟩ := map_of e
      simp [PyData.hasDictAll, toP_nodict d p q, toPs_nodict ds ps h]
end
theorem vm_repr (hK : X.K = g.K) (hu : X.A.units + 100 < cLine) (hg : X.A.guards = some []) : CallR X (.builtin "repr") (RLv g (biD .repr)) := by
  intro pins s σ H xs us Q I r ⟨O, ds, c, ls, ef, q⟩
  have go : ∀ (d : D) (a : Addr), Lk g O H d (.ref a) → xs = [.ref a] → reprD d = some c → wpAny (model X.prog X.w) X.A (call (.builtin "repr") us) (EP X pins σ Q) X.xe s := fun d a lx ex ef => by
    subst ex
    obtain ⟨u, rfl, ru⟩ := vals1 r
    cases ru
    unfold reprD at ef
    cases hp : toP d with
    | none => rw [hp] at ef; cases ef
    | some p =>
      rw [hp] at ef
      simp only at ef
      split at ef
      case isTrue hl =>
        cases ef
        simp only [Bool.and_eq_true, decide_eq_true_eq] at hl
        obtain ⟨as, rd⟩ := Dp.reads I p (.ref a) (.ref a) (hK ▸ lx.dp hp) rfl
        exact repr_of_reads' rd hl.1.1 (fun h => by rw [toP_nodict d p hp] at h; cases h) hg (by omega) (fun b o e => e) (fun h' u tk kp => ⟨.str p.shown, H, I.kept (t' := tk) kp, ⟨_, rfl⟩, q _ _ (.sh rfl)⟩) hl.1.2
      case isFalse => cases ef
  match ds, ef with
  | [.lst i], ef =>
    obtain ⟨x, rfl, lx⟩ := ls.one (ds := [])
    obtain ⟨a, vs, rfl, h1, rs⟩ := lx.lst
    exact go _ a lx rfl ef
  | [.tup i], ef =>
    obtain ⟨x, rfl, lx⟩ := ls.one (ds := [])
    obtain ⟨a, vs, rfl, h1, rs⟩ := lx.tup
    exact go _ a lx rfl ef
def Ty.nm : Ty → String
  | .int => "int" | .bool => "bool" | .str => "str" | .list => "list" | .tuple => "tuple"
def dNm : D → String
  | .non => "NoneType" | .bl _ => "bool" | .int _ => "int" | .str _ => "str" | .tup _ => "tuple" | _ => "list"
theorem kit_all : ∀ t : Ty, kitB "NoneType" t.nm = some false ∧ kitB "bool" t.nm = some (decide (t = .bool) || decide (t = .int)) ∧ kitB "int" t.nm = some (decide (t = .int)) ∧ kitB "str" t.nm = some (decide (t = .str)) ∧ kitB "tuple" t.nm = some (decide (t = .tuple)) ∧ kitB "list" t.nm = some (decide (t = .list)) := by
  intro t
  cases t <;> decide +kernel
theorem tup_ty (hK : X.K = g.K) {a : Addr} {vs : List V} (h : TupAt g.K O H a vs) : TyX X.K H (.ref a) (.type "tuple") := by
  rcases h with ⟨o, h, _⟩ | ⟨o, its, n, h1, h2, _⟩
  · exact .fTuple h
  · exact .kTuple (hK ▸ h1) h2
theorem vm_isi (hK : X.K = g.K) (t : Ty) : CallR X (.builtin "isinstance") (fun xs H Q => ∃ O d b x, xs = [x, .ty t.nm] ∧ Lk g O H d x ∧ tyD d t = some b ∧ Q (.bl b) H) := by
  rintro pins s σ H xs us Q I r ⟨O, d, b, x, rfl, lx, ef, q⟩
  obtain ⟨k1, k2, k3, k4, k5, k6⟩ := kit_all t
  have go : ∀ n b', TyX X.K H x (.type n) → kitB n t.nm = some b' → b' = b → wpAny (model X.prog X.w) X.A (call (.builtin "isinstance") us) (EP X pins σ Q) X.xe s := fun n b' ty hk e => by
    subst e
    exact call_isi pins s σ H _ us Q I r ⟨x, .ty t.nm, .type n, .type t.nm, b', rfl, .ty _, ty, kit_ty hk, q⟩
  cases d with
  | non => cases ef; obtain rfl := lx.non; exact go _ _ (.base .non) k1 rfl
  | bl i => cases ef; obtain rfl := lx.bl; exact go _ _ (.base (.bl _)) k2 (by cases t <;> rfl)
  | int i => cases ef; obtain rfl := lx.int; exact go _ _ (.base (.int _)) k3 rfl
  | str i => cases ef; obtain rfl := lx.str; exact go _ _ (.base (.str _)) k4 rfl
  | tup ds => cases ef; obtain ⟨a, vs, rfl, h1, _⟩ := lx.tup; exact go _ _ (tup_ty hK h1) k5 rfl
  | lst ds => cases ef; obtain ⟨a, vs, rfl, h1, _⟩ := lx.lst; exact go _ _ (.base (.lst h1)) k6 rfl
  | rol ds =>
    cases ef
    obtain ⟨a, vs, rfl, h1, _⟩ := lx.rol
    rcases h1 with ⟨o, h1, _⟩ | ⟨o, its, n, h1, h2, _⟩
    · exact go _ _ (.base (.frz h1)) k6 rfl
    · exact go _ _ (.kList (hK ▸ h1) h2) k6 rfl
  | _ => exact nomatch (ef : none = some b)
/-! ### contents -/
inductive Cn (g : G) (O : OP) (H : Hp) (p : Addr) : D → HO → Prop
  | lst {ds : List D} {vs : List V} : Shs g O H ds vs → Cn g O H p (.lst ds) (.lst vs)
  | dK {ds : List (Key × D)} {vs : List (Key × V)} : ShK g O H ds vs → Cn g O H p (.dK ds) (.dK vs)
  | dN {ds : List (NestedKey × D)} {es : List (NestedKey × Addr × Value)} : ShN g O H ds es → Cn g O H p (.dN ds) (DicO g.P g.w p es)
theorem Cn.root {o : HO} {p : Addr} (h : Cn g O H p d o) (e : H p = some o) : Root g O H d p := by
  cases h with
  | lst h => exact ⟨_, e, h⟩
  | dK h => exact ⟨_, e, h⟩
  | dN h => exact ⟨_, e, h⟩
theorem Root.cn {p : Addr} (h : Root g O H d p) : ∃ o, H p = Option.some o ∧ Cn g O H p d o := by
  cases d with
  | lst ds => obtain ⟨vs, e, r⟩ := h; exact ⟨_, e, .lst r⟩
  | dK ds => obtain ⟨vs, e, r⟩ := h; exact ⟨_, e, .dK r⟩
  | dN ds => obtain ⟨vs, e, r⟩ := h; exact ⟨_, e, .dN r⟩
  | _ => exact h.elim
theorem Cn.rt {o : HO} {p : Addr} (h : Cn g O H p d o) : isRt o := by cases h <;> first | exact isRt.dicO | exact True.intro
theorem Cn.keep {O' : OP} {H' : Hp} {o : HO} {p : Addr} (k : Kp O H O' H') (h : Cn g O H p d o) : Cn g O' H' p d o := by
  cases h with
  | lst h => exact .lst (Shs.keep k _ _ h)
  | dK h => exact .dK (ShK.keep k _ _ h)
  | dN h => exact .dN (ShN.keep k _ _ h)
/-- a root is changed at p -/
def RMt (g : G) (m : Me) : V → List V → Hp → VK → Prop := fun x us H Q => ∃ O p o d as a d', x = .ref p ∧ H p = some o ∧ Cn g O H p d o ∧ Shs g O H as us ∧ meD m d as = some (a, d') ∧ ∀ v o', Sh g O H a v → Cn g O H p d' o' → Q v (upd H p o')
theorem Shs.one' {d : D} {us : List V} (h : Shs g O H [d] us) : ∃ v, us = [v] ∧ Sh g O H d v := by
  obtain ⟨v, r, e, h, hr⟩ := h
  cases hr
  exact ⟨v, e, h⟩
theorem Shs.dropLast {ds : List D} {vs : List V} (h : Shs g O H ds vs) : Shs g O H ds.dropLast vs.dropLast := by
  rw [List.dropLast_eq_take, List.dropLast_eq_take, h.length]
  exact h.take _
theorem vm_append : MtR X "list.append" (RMt g .append) := by
  rintro pins s σ H x us v vs Q I rx rs ⟨O, p, o, d, as, a, d', rfl, hp, cn, ha, ef, q⟩
  cases cn with
  | @lst ds ws r =>
    match as, ef with
    | [e], ef =>
      have ef : (if ds.length < sizeLine then some (D.non, D.lst (ds ++ [e])) else none) = some (a, d') := ef
      split at ef
      case isTrue hl =>
        cases ef
        obtain ⟨u, rfl, hu⟩ := ha.one'
        exact mt_append pins s σ H _ _ v vs Q I rx rs ⟨p, ws, u, rfl, rfl, hp, by rw [r.length]; exact hl, q _ _ rfl (.lst (r.app (Shs.one hu)))⟩
      case isFalse => cases ef
    | [], ef => exact nomatch (ef : none = some (a, d'))
    | _ :: _ :: _, ef => exact nomatch (ef : none = some (a, d'))
  | dK _ => exact nomatch (ef : none = some (a, d'))
  | dN _ => exact nomatch (ef : none = some (a, d'))
theorem vm_extend : MtR X "list.extend" (RMt g .extend) := by
  rintro pins s σ H x us v vs Q I rx rs ⟨O, p, o, d, as, a, d', rfl, hp, cn, ha, ef, q⟩
  cases cn with
  | @lst ds ws r =>
    match as, ef with
    | [.lst es], ef =>
      have ef : (if ds.length + es.length ≤ sizeLine then some (D.non, D.lst (ds ++ es)) else none) = some (a, d') := ef
      split at ef
      case isTrue hl =>
        cases ef
        obtain ⟨u, rfl, b, zs, rfl, hb, _, r2⟩ := ha.one'
        exact mt_extend pins s σ H _ _ v vs Q I rx rs ⟨p, b, ws, zs, rfl, rfl, hp, hb, by rw [r.length, r2.length]; exact hl, q _ _ rfl (.lst (r.app r2))⟩
      case isFalse => cases ef
  | dK _ => exact nomatch (ef : none = some (a, d'))
  | dN _ => exact nomatch (ef : none = some (a, d'))
theorem vm_pop0 : MtR X "list.pop" (RMt g .pop0) := by
  rintro pins s σ H x us v vs Q I rx rs ⟨O, p, o, d, as, a, d', rfl, hp, cn, ha, ef, q⟩
  cases cn with
  | @lst ds ws r =>
    match as, ef with
    | [], ef =>
      obtain ⟨z, h1, h2⟩ := map_of (ef : ds.getLast?.map (fun a => (a, D.lst ds.dropLast)) = some (a, d'))
      cases h2
      cases ha
      rw [List.getLast?_eq_getElem?] at h1
      obtain ⟨w, hw, sw⟩ := r.get h1
      exact mt_pop pins s σ H _ _ v vs Q I rx rs ⟨p, ws, w, rfl, rfl, hp, by rw [r.length]; exact hw, q _ _ sw (.lst r.dropLast)⟩
    | _ :: _, ef => exact nomatch (ef : none = some (a, d'))
  | dK _ => exact nomatch (ef : none = some (a, d'))
  | dN _ => exact nomatch (ef : none = some (a, d'))
theorem vm_pop1 : MtR X "list.pop" (RMt g .pop1) := by
  rintro pins s σ H x us v vs Q I rx rs ⟨O, p, o, d, as, a, d', rfl, hp, cn, ha, ef, q⟩
  cases cn with
  | @lst ds ws r =>
    match as, ef with
    | [.int i], ef =>
      have ef : (if (decide (-(2 ^ 63) ≤ i) && decide (i < 2 ^ 63)) = true then (seqIndex? i ds.length).bind (fun k => ds[k]?.map fun a => (a, D.lst (ds.eraseIdx k))) else none) = some (a, d') := ef
      split at ef
      case isTrue hl =>
        simp only [Bool.and_eq_true, decide_eq_true_eq] at hl
        cases hk : seqIndex? i ds.length with
        | none => rw [hk] at ef; cases ef
        | some k =>
          rw [hk] at ef
          obtain ⟨z, h1, h2⟩ := map_of (ef : ds[k]?.map (fun a => (a, D.lst (ds.eraseIdx k))) = some (a, d'))
          cases h2
          obtain ⟨u, rfl, hu⟩ := ha.one'
          obtain ⟨w, hw, sw⟩ := r.get h1
          have hu : u = .int i := hu
          subst hu
          exact mt_popAt pins s σ H _ _ v vs Q I rx rs ⟨p, ws, i, k, w, rfl, rfl, hp, hl.1, hl.2, by rw [r.length]; exact hk, hw, q _ _ sw (.lst (r.erase k))⟩
      case isFalse => cases ef
  | dK _ => exact nomatch (ef : none = some (a, d'))
  | dN _ => exact nomatch (ef : none = some (a, d'))
/-! ### o[i] = v -/
theorem ShK.any {k : Key} : ∀ {ds : List (Key × D)} {vs : List (Key × V)}, ShK g O H ds vs → (vs.any fun kv => decide (kv.1 = k)) = ds.any fun kv => decide (kv.1 = k)
  | [], _, h => by cases h; rfl
  | (k1, d) :: ds, _, ⟨(k2, v), r, e, ⟨ek, h⟩, hs⟩ => by subst e ek; simp [ShK.any hs]
theorem ShK.repl {k : Key} (hv : Sh g O H d v) : ∀ {ds : List (Key × D)} {vs : List (Key × V)}, ShK g O H ds vs → ShK g O H (ds.map fun kv => if kv.1 = k then (kv.1, d) else kv) (vs.map fun kv => if kv.1 = k then (kv.1, v) else kv)
  | [], _, h => by cases h; rfl
  | (k1, d1) :: ds, _, ⟨(k2, v1), r, e, ⟨ek, h⟩, hs⟩ => by
    subst e ek
    refine ⟨_, _, rfl, ?_, ShK.repl hv hs⟩
    by_cases z : k1 = k
    · simp only [z, if_true]; exact ⟨rfl, hv⟩
    · simp only [z, if_false]; exact ⟨rfl, h⟩
theorem ShK.snoc {k : Key} (hv : Sh g O H d v) : ∀ {ds : List (Key × D)} {vs : List (Key × V)}, ShK g O H ds vs → ShK g O H (ds ++ [(k, d)]) (vs ++ [(k, v)])
  | [], _, h => by cases h; exact ⟨_, _, rfl, ⟨rfl, hv⟩, rfl⟩
  | (k1, d1) :: ds, _, ⟨(k2, v1), r, e, h, hs⟩ => by subst e; exact ⟨_, _, rfl, h, ShK.snoc hv hs⟩
theorem ShK.put {k : Key} (hv : Sh g O H d v) {ds : List (Key × D)} {vs : List (Key × V)} (h : ShK g O H ds vs) : ShK g O H (putD ds k d) (putK vs k v) := by
  unfold putD putK
  rw [h.any]
  split
  · exact h.repl hv
  · exact h.snoc hv
def RSet (g : G) : TSet := fun x i v H Q => ∃ O p o d di dv d', x = .ref p ∧ H p = some o ∧ Cn g O H p d o ∧ Sh g O H di i ∧ Sh g O H dv v ∧ setD d di dv = some d' ∧ ∀ o', Cn g O H p d' o' → Q (upd H p o')
theorem vm_set (gx : GX X g) (hu : X.A.units + 100 < cLine) : PSet X (RSet g) := by
  rintro pins s σ H x i v ov iv u Q I ro ri rv ⟨O, p, o, d, di, dv, d', rfl, hp, cn, hi, hv, ef, q⟩
  cases cn with
  | @lst ds ws r =>
    cases di with
    | int k =>
      obtain ⟨j, h1, rfl⟩ := map_of (ef : (ixN ds.length k).map (fun j => D.lst (ds.set j dv)) = some d')
      exact set_list pins s σ H _ _ _ ov iv u Q I ro ri rv ⟨p, ws, k, j, rfl, hi, hp, by rw [r.length]; exact h1, q _ (.lst (r.set j hv))⟩
    | _ => exact nomatch (ef : none = some d')
  | @dK ds ws r =>
    cases ro
    have ef : (if ds.length < sizeLine then (keyOf di).map fun k => D.dK (putD ds k dv) else none) = some d' := ef
    split at ef
    case isTrue hl =>
      obtain ⟨k, h1, rfl⟩ := map_of ef
      exact d_setItem (by omega) I (.inl ⟨ws, k, hp, keyOf_s hi h1, by rw [r.length]; exact hl, rfl⟩) ri rv fun s' I' => ⟨_, I', q _ (.dK (r.put hv))⟩
    case isFalse => cases ef
  | @dN ds es r =>
    cases ro
    have ef : (if ds.length < sizeLine then (keyT di).map fun k => D.dN (putD ds k dv) else none) = some d' := ef
    split at ef
    case isTrue hl =>
      obtain ⟨k, h1, rfl⟩ := map_of ef
      exact n_set gx hu I hp r hl hi h1 ri hv rv fun es' s' I' r' => ⟨_, I', q _ (.dN r')⟩
    case isFalse => cases ef
end
end VM

set_option linter.all false
set_option maxRecDepth 100000
/-! VMD: dicts of pairs. -/
namespace VM
open PySem PySem.Spec PyProof.Rows L2
section
variable {X : Cx} {g : G} {O : OP} {H : Hp} {pins : List (Addr × Obj)} {σ : L2.St} {s : Shared}
theorem twoS {d d2 : D} {us : List V} (h : Shs g O H [d, d2] us) : ∃ v v2, us = [v, v2] ∧ Sh g O H d v ∧ Sh g O H d2 v2 := by
  obtain ⟨v, r, e, h, v2, r2, e2, h2, hr⟩ := h
  cases hr
  subst e2
  exact ⟨v, v2, e, h, h2⟩
theorem pairsK_of : ∀ {ds : List D} {vs : List V} {kvs : List (Key × D)}, Shs g O H ds vs → pairsK ds = some kvs → ∃ (ps : List Addr) (kws : List (Key × V)), vs = ps.map V.ref ∧ Paired (fun p kv => SqT g.K H p [kV kv.1, kv.2]) ps kws ∧ ShK g O H kvs kws
  | [], _, _, h, e => by cases h; cases e; exact ⟨[], [], rfl, .nil, rfl⟩
  | d :: ds, _, kvs, ⟨v, r, e1, h, hs⟩, e => by
    unfold pairsK at e
    split at e
    · next z => cases z
    · next k x ds' z =>
      cases z
      cases hk : keyOf k with
      | none => rw [hk] at e; cases e
      | some kk =>
        rw [hk] at e
        obtain ⟨kvs', h1, rfl⟩ := map_of e
        obtain ⟨ps, kws, q1, q2, q3⟩ := pairsK_of hs h1
        obtain ⟨a, us, e2, h2, h3⟩ := h
        obtain ⟨v1, v2, rfl, s1, s2⟩ := twoS h3
        rw [keyOf_s s1 hk] at h2
        exact ⟨a :: ps, (kk, v2) :: kws, by rw [e1, e2, q1]; rfl, .cons h2.sq q2, ⟨_, _, rfl, ⟨rfl, s2⟩, q3⟩⟩
    · cases e
theorem ShK.putAll : ∀ {kvs : List (Key × D)} {kws : List (Key × V)} {acc : List (Key × D)} {accw : List (Key × V)}, ShK g O H kvs kws → ShK g O H acc accw → ShK g O H (putAll' acc kvs) (mergeK accw kws)
  | [], _, _, _, h, h0 => by cases h; exact h0
  | (k, d) :: kvs, _, acc, accw, ⟨(k2, v), r, e, ⟨ek, hv⟩, hs⟩, h0 => by
    subst e ek
    show ShK g O H (putAll' (putD acc k d) kvs) (mergeK (putK accw k v) r)
    exact ShK.putAll hs (h0.put hv)
/-- the pairs by their tuples: the keys' tuples, the values -/
theorem pairsN_of (hK : X.K = g.K) (I : Inv X pins σ H s) : ∀ {ds : List D} {vs : List V} {us : List Value} {kvs : List (NestedKey × D)}, Shs g O H ds vs → Vals vs us → pairsN ds = some kvs →
    ∃ (ts : List Addr) (es : List (NestedKey × Addr × Value)), us = ts.map Value.ref ∧ Paired (fun t x => IsTup s.heap t #[.ref x.2.1, x.2.2]) ts es ∧ ShN g O H kvs es
  | [], _, _, _, h, r, e => by cases h; cases r; cases e; exact ⟨[], [], rfl, .nil, rfl⟩
  | d :: ds, _, _, kvs, ⟨v, r, e1, h, hs⟩, rv, e => by
    subst e1
    cases rv with
    | cons r1 r2 =>
      unfold pairsN at e
      split at e
      · next z => cases z
      · next k x ds' z =>
        cases z
        cases hk : keyT k with
        | none => rw [hk] at e; cases e
        | some kk =>
          rw [hk] at e
          obtain ⟨kvs', h1, rfl⟩ := map_of e
          obtain ⟨ts, es, q1, q2, q3⟩ := pairsN_of hK I hs r2 h1
          obtain ⟨a, us2, e2, h2, h3⟩ := h
          obtain ⟨v1, v2, rfl, s1, s2⟩ := twoS h3
          subst e2
          cases r1
          obtain ⟨its, rt, tt⟩ := h2.its hK I
          obtain ⟨b, e3, kb⟩ := keyT_v (.inl s1) hk
          subst e3
          cases rt with
          | cons w1 w2 => cases w2 with
            | @cons _ u2 _ _ w2 w3 =>
              cases w3
              cases w1
              exact ⟨a :: ts, (kk, b, u2) :: es, by rw [q1]; rfl, .cons tt q2, ⟨_, _, rfl, ⟨rfl, kb, v2, w2, s2⟩, q3⟩⟩
      · cases e
theorem ShN.putAll : ∀ {kvs : List (NestedKey × D)} {es : List (NestedKey × Addr × Value)} {acc : List (NestedKey × D)} {accw : List (NestedKey × Addr × Value)}, ShN g O H kvs es → ShN g O H acc accw → ShN g O H (putAll' acc kvs) (storedAllH accw es)
  | [], _, _, _, h, h0 => by cases h; exact h0
  | (k, d) :: kvs, _, acc, accw, ⟨(k2, b, u), r, e, ⟨ek, hk, v, rv, hv⟩, hs⟩, h0 => by
    subst e ek
    show ShN g O H (putAll' (putD acc k d) kvs) (storedAllH (storedH accw k b u) r)
    exact ShN.putAll hs (h0.put hk rv hv)
theorem paired_at {α β : Type} {R : α → β → Prop} : ∀ {as : List α} {bs : List β}, Paired R as bs → ∀ {i : Nat} {b : β}, bs[i]? = some b → ∃ a, as[i]? = some a ∧ R a b
  | _, _, .nil, i, b, h => by simp at h
  | _, _, .cons r t, 0, b, h => by simp at h; subst h; exact ⟨_, rfl, r⟩
  | _, _, .cons r t, i + 1, b, h => by
    obtain ⟨a, h1, h2⟩ := paired_at t (i := i) (by simpa using h)
    exact ⟨a, by simpa using h1, h2⟩
theorem vm_dict (gx : GX X g) (hc : X.calm = true) (hu : X.A.units + 100 < cLine) : CallR X (.type "dict") (RLv g (biD .dict1)) := by
  intro pins s σ H xs us Q I r ⟨O, ds, c, ls, ef, q⟩
  match ds, ef with
  | [.lst is], ef =>
    have ef : dictOf is = some c := ef
    obtain ⟨x, rfl, lx⟩ := ls.one (ds := [])
    obtain ⟨a, vs, rfl, h1, rs⟩ := lx.lst
    unfold dictOf at ef
    cases hp : pairsK is with
    | some kvs =>
      rw [hp] at ef
      cases ef
      obtain ⟨ps, kws, e1, e2, e3⟩ := pairsK_of rs hp
      subst e1
      exact call_dictP hc pins s σ H _ us Q I r ⟨a, ps, kws, rfl, .of h1, by rw [gx.K]; exact e2, fun p hp => q _ _ (.dK hp (ShK.putAll e3 rfl))⟩
    | none =>
      rw [hp] at ef
      obtain ⟨kvs, hn, rfl⟩ := map_of ef
      obtain ⟨u, rfl, rx⟩ := vals1 r
      cases rx
      obtain ⟨its, rv, ⟨o, n, ho, ho2, hod, hdat⟩, hz⟩ := I.list (.of h1)
      obtain ⟨ts, es, e1, e2, e3⟩ := pairsN_of gx.K I rs rv hn
      have l1 : ts.length = es.length := Paired.length e2
      have l2 := rv.length
      rw [e1, List.length_map] at l2
      have pi : PairItems s.heap its.toArray (fun j => ts.getD j 0) (es.map fun x => (Value.ref x.2.1, x.2.2)) := by
        refine ⟨by rw [e1]; simp [l1], fun j k v hj => ?_⟩
        rw [List.getElem?_map] at hj
        obtain ⟨x, hx, e⟩ := map_of hj
        cases e
        obtain ⟨t, ht, tt⟩ := paired_at e2 hx
        have hT : (fun j => ts.getD j 0) j = t := by
          show ts.getD j 0 = t
          rw [List.getD_eq_getElem?_getD, ht]
          rfl
        refine ⟨by rw [e1, List.getElem?_toArray, List.getElem?_map, ht, hT]; rfl, .inl ?_⟩
        show Heap.IsTuple s.heap (ts.getD j 0) _
        rw [List.getD_eq_getElem?_getD, ht]
        exact tt
      have hks : ∀ x ∈ es, KeyAt g O H x.1 x.2.1 := e3.keys
      refine call_dict_pairsH (knd := nestedKind X.prog X.w) (ps := es) (PairArg.list a its.toArray (fun j => ts.getD j 0) (es.map fun x => (Value.ref x.2.1, x.2.2))) (I.ok.hd hc) (by show X.A.units + 1 + 1 + 8 < cLine; omega) ⟨⟨o, n, ho, ho2, hod, hdat⟩, pi⟩ ⟨by simp, fun i key v hr => ?_⟩ (fun h' hk x hx => ?_) (by rw [List.length_map, ← l1, ← l2]; exact hz) fun h' tk hd' hk => ?_
      · have hr : (es.map fun x => (Value.ref x.2.1, x.2.2))[i]? = some (key, v) := hr
        rw [List.getElem?_map] at hr
        obtain ⟨⟨k, b, u⟩, hx, e⟩ := map_of hr
        cases e
        exact ⟨k, b, hx, rfl⟩
      · have ka := (hks x hx).is gx I
        exact ⟨NestedIs.at (fun b o vs n hb hd => hk b o (Nat.ne_of_lt (Heap.lt_size hb)) (by simp) hb) _ _ ka.1, ka.2⟩
      · have hk' : ∀ b o, s.heap.get? b = some o → h'.get? b = some o := fun b o e => hk b o (by simp) e
        have hlen : (storedAllH [] es).length ≤ sizeLine := by
          have := storedAllH_length es []
          simp only [List.length_nil, Nat.zero_add] at this
          omega
        have hm : (s.heap.objs.size == sysModules) = false := beq_eq_false_iff_ne.mpr (Nat.ne_of_gt I.big)
        exact ⟨.ref s.heap.objs.size, _, I.laid (t' := tk) hk' (Nat.le_refl _) (dic_new gx hd' hm hlen), rfl, q _ _ (.dN (I.hok.fresh (Nat.le_refl _)) (ShN.putAll e3 rfl))⟩
end
end VM

set_option linter.all false
set_option maxRecDepth 100000
/-! VM11: readings follow from the evaluator. -/
namespace VM
open PySem PySem.Spec PyProof.Rows L2
section
variable {e : Env2} {W : WX} {α β : Type} {R : Rl α β} {T : AP1} {θ : List Addr} {s : S} {σ : L2.St} {H : Hp}
theorem Post.ofO {o : Option α} {Q : β → Hp → Prop} (p : Post e W R T θ s σ H (Out.ofO s o) Q) : ∃ a, o = some a ∧ Post e W R T θ s σ H (.ok a s) Q := by
  cases o with
  | none => exact p.elim
  | some a => exact ⟨a, rfl, p⟩
theorem opt_bind {γ δ : Type} {o : Option γ} {f : γ → Option δ} {b : δ} (h : o.bind f = some b) : ∃ a, o = some a ∧ f a = some b := by
  cases o with
  | none => cases h
  | some a => exact ⟨a, rfl, h⟩
/-- the end by a new value -/
theorem Post.nv {Q : V → Hp → Prop} {c : C} (st : StR e T θ s σ H) (p : Post e W (RC e) T θ s σ H (.ok c s) Q) {v : V} {H' : Hp} (n : NV e.g (Own T θ s.sl σ) H c v H') : Q v H' := by
  obtain ⟨T', stp, rc⟩ := n.stp st
  exact p v T' θ H' stp rc
theorem imp2 {fa fb : S → Out PV} {f : D → D → Option C} {Q : VK}
    (h : TEv e W (fun s => (fa s).bind fun x s => (fb s).bind fun y s => Out.ofO s ((x.de s).bind fun d => (y.de s).bind fun e => f d e)) σ H Q) : tOp (R2v e.g f) (TPv e W fa) (TPv e W fb) σ H Q := by
  obtain ⟨T, θ, s, st, p⟩ := h
  refine ⟨T, θ, s, st, p.bindS RP.eq fun x s1 v θ1 H1 st1 r1 p1 => ⟨T, θ1, s1, st1.st, p1.bindS RP.eq fun y s2 u θ2 H2 st2 r2 p2 => ?_⟩⟩
  obtain ⟨c, hc, p3⟩ := p2.ofO
  obtain ⟨d, hd, hc⟩ := opt_bind hc
  obtain ⟨d', hd', hc⟩ := opt_bind hc
  exact ⟨Own T θ2 s2.sl σ, d, d', c, (r1.on st2).de st2.st hd, r2.de st2.st hd', hc, fun w H' n => p3.nv st2.st n⟩
theorem imp1 {fa : S → Out PV} {f : D → Option C} {Q : VK} (h : TEv e W (fun s => (fa s).bind fun x s => Out.ofO s ((x.de s).bind f)) σ H Q) : tUn (R1v e.g f) (TPv e W fa) σ H Q := by
  obtain ⟨T, θ, s, st, p⟩ := h
  refine ⟨T, θ, s, st, p.bindS RP.eq fun x s1 v θ1 H1 st1 r1 p1 => ?_⟩
  obtain ⟨c, hc, p3⟩ := p1.ofO
  obtain ⟨d, hd, hc⟩ := opt_bind hc
  exact ⟨Own T θ1 s1.sl σ, d, c, r1.de st1.st hd, hc, fun w H' n => p3.nv st1.st n⟩
/-- a value that is let go: it is shared -/
theorem RC.share {T' : AP1} {θ' : List Addr} {s' : S} {H' : Hp} {c : C} {v : V} {d : D} (a : Stp e T θ s T' θ' s' σ H H') (r : RC e T T' θ' s' σ H' c v) (hd : c.d? = some d) : Stp e T θ s T θ' s' σ H H' ∧ Sh e.g (Own T θ' s'.sl σ) H' d v := by
  cases c with
  | sh d1 =>
    cases hd
    obtain ⟨rfl, u, e1, q⟩ := r
    cases e1
    exact ⟨a, q⟩
  | ow d1 =>
    cases hd
    obtain ⟨p, rfl, rfl, nT, rt⟩ := r
    obtain ⟨R', k, n⟩ := a.st.drop nT
    exact ⟨⟨R', a.pf, a.kp.trans k, fun _ z => z, a.tk⟩, (rt.keep k rfl).share n⟩
  | _ => cases hd
theorem imp_p {f : S → Out C} {Q : VK} (h : TPv e W (pOf f) σ H Q) : TEv e W f σ H Q := by
  obtain ⟨T, θ, s, st, p⟩ := h
  refine ⟨T, θ, s, st, p.bind fun c s1 v T1 θ1 H1 st1 r1 _ p1 => ?_⟩
  have p1 : Post e W (RP e) T θ s σ H (match c.d? with | some d => .ok (lkV d) s1 | none => .bad) Q := p1
  cases hd : c.d? with
  | none => rw [hd] at p1; exact p1.elim
  | some d =>
    rw [hd] at p1
    obtain ⟨st2, sh⟩ := RC.share st1 r1 hd
    exact p1 v T θ1 H1 st2 (RP.lk sh)
theorem imp_d {f : S → Out C} {Q : VK} (h : TDv e W (fun s => (f s).bind fun c s => match c.d? with | some d => .ok d s | none => .bad) σ H Q) : TEv e W f σ H Q := by
  obtain ⟨T, θ, s, st, p⟩ := h
  refine ⟨T, θ, s, st, p.bind fun c s1 v T1 θ1 H1 st1 r1 _ p1 => ?_⟩
  have p1 : Post e W (RD e) T θ s σ H (match c.d? with | some d => .ok d s1 | none => .bad) Q := p1
  cases hd : c.d? with
  | none => rw [hd] at p1; exact p1.elim
  | some d =>
    rw [hd] at p1
    obtain ⟨st2, sh⟩ := RC.share st1 r1 hd
    exact p1 v T θ1 H1 st2 ⟨rfl, sh⟩
theorem imp_t {p : S → Out PV} {Q : Bool → Hp → Prop} (h : TTv e W (tOf p) σ H Q) : TPv e W p σ H fun x H' => T1v e.g truth x H' Q := by
  obtain ⟨T, θ, s, st, q⟩ := h
  refine ⟨T, θ, s, st, q.bindS RP.eq fun x s1 v θ1 H1 st1 r1 p1 => ?_⟩
  obtain ⟨b, hb, p2⟩ := p1.ofO
  obtain ⟨d, hd, hb⟩ := opt_bind hb
  exact ⟨Own T θ1 s1.sl σ, d, b, r1.de st1.st hd, hb, p2 b T θ1 H1 (Stp.refl st1.st) ⟨rfl, rfl⟩⟩
end
/-! ### lists of arguments -/
/-- what is looked at, all of them -/
def RPs (e : Env2) : Rl (List PV) (List V) := fun T T' θ' s' σ H' xs vs => T' = T ∧ go e T' θ' s' σ H' xs vs
where go (e : Env2) (T' : AP1) (θ' : List Addr) (s' : S) (σ : L2.St) (H' : Hp) : List PV → List V → Prop
  | [], vs => vs = []
  | x :: xs, vs => ∃ v r, vs = v :: r ∧ RP e T' T' θ' s' σ H' x v ∧ go e T' θ' s' σ H' xs r
def RDs (e : Env2) : Rl (List D) (List V) := fun T T' θ' s' σ H' ds vs => T' = T ∧ Shs e.g (Own T θ' s'.sl σ) H' ds vs
section
variable {e : Env2} {W : WX} {T : AP1} {θ : List Addr} {s : S} {σ : L2.St} {H : Hp}
theorem RPs.eq {T1 θ1 s1 H1 d v} (h : RPs e T T1 θ1 s1 σ H1 d v) : T1 = T := h.1
theorem RDs.eq {T1 θ1 s1 H1 d v} (h : RDs e T T1 θ1 s1 σ H1 d v) : T1 = T := h.1
def TPs (e : Env2) (W : WX) (f : S → Out (List PV)) : TA := TO e W (RPs e) f
def TDs (e : Env2) (W : WX) (f : S → Out (List D)) : TA := TO e W (RDs e) f
theorem imp_pn {Q : List V → Hp → Prop} (h : TPs e W (fun s => .ok [] s) σ H Q) : tNil σ H Q := by
  obtain ⟨T, θ, s, st, p⟩ := h
  exact p [] T θ H (Stp.refl st) ⟨rfl, rfl⟩
theorem imp_pc {b : S → Out PV} {bs : S → Out (List PV)} {Q : List V → Hp → Prop} (h : TPs e W (fun s => (b s).bind fun x s => (bs s).bind fun xs s => .ok (x :: xs) s) σ H Q) : tCons (TPv e W b) (TPs e W bs) σ H Q := by
  obtain ⟨T, θ, s, st, p⟩ := h
  refine ⟨T, θ, s, st, p.bindS RP.eq fun x s1 v θ1 H1 st1 r1 p1 => ⟨T, θ1, s1, st1.st, p1.bindS RPs.eq fun xs s2 vs θ2 H2 st2 r2 p2 => ?_⟩⟩
  exact p2 (v :: vs) T θ2 H2 (Stp.refl st2.st) ⟨rfl, v, vs, rfl, r1.on st2, r2.2⟩
theorem imp_dn {Q : List V → Hp → Prop} (h : TDs e W (fun s => .ok [] s) σ H Q) : tNil σ H Q := by
  obtain ⟨T, θ, s, st, p⟩ := h
  exact p [] T θ H (Stp.refl st) ⟨rfl, rfl⟩
theorem imp_dc {b : S → Out D} {bs : S → Out (List D)} {Q : List V → Hp → Prop} (h : TDs e W (fun s => (b s).bind fun x s => (bs s).bind fun xs s => .ok (x :: xs) s) σ H Q) : tCons (TDv e W b) (TDs e W bs) σ H Q := by
  obtain ⟨T, θ, s, st, p⟩ := h
  refine ⟨T, θ, s, st, p.bindS RD.eq fun x s1 v θ1 H1 st1 r1 p1 => ⟨T, θ1, s1, st1.st, p1.bindS RDs.eq fun xs s2 vs θ2 H2 st2 r2 p2 => ?_⟩⟩
  exact p2 (v :: vs) T θ2 H2 (Stp.refl st2.st) ⟨rfl, v, vs, rfl, (r1.on st2).2, r2.2⟩
theorem RPs.lks {T1 θ1 s1 H1} (R : StR e T1 θ1 s1 σ H1) : ∀ {xs : List PV} {vs : List V} {ds : List D}, RPs.go e T1 θ1 s1 σ H1 xs vs → deAll s1 xs = some ds → Lks e.g (Own T1 θ1 s1.sl σ) H1 ds vs
  | [], _, _, h, hd => by cases h; cases hd; rfl
  | x :: xs, _, _, ⟨v, r, e1, h, hs⟩, hd => by
    have hd : (match x.de s1 with | none => none | some d => (deAll s1 xs).map (d :: ·)) = some _ := hd
    cases q : x.de s1 with
    | none => rw [q] at hd; cases hd
    | some d =>
      rw [q] at hd
      obtain ⟨ds, h2, rfl⟩ := map_of hd
      exact ⟨v, r, e1, h.de R q, RPs.lks R hs h2⟩
/-- a built-in function -/
theorem imp_bi {f : S → Out (List PV)} {b : List D → Option C} {Q : VK} (h : TEv e W (fun s => (f s).bind fun xs s => Out.ofO s ((deAll s xs).bind b)) σ H Q) : tCB (RLv e.g b) (TPs e W f) σ H Q := by
  obtain ⟨T, θ, s, st, p⟩ := h
  refine ⟨T, θ, s, st, p.bindS RPs.eq fun xs s1 vs θ1 H1 st1 r1 p1 => ?_⟩
  obtain ⟨c, hc, p2⟩ := p1.ofO
  obtain ⟨ds, hd, hc⟩ := opt_bind hc
  exact ⟨Own T θ1 s1.sl σ, ds, c, RPs.lks st1.st r1.2 hd, hc, fun w H' n => p2.nv st1.st n⟩
/-- a display -/
theorem imp_lst {f : S → Out (List D)} {Q : VK} (h : TEv e W (fun s => (f s).bind fun ds s => if ds.length ≤ sizeLine then .ok (.ow (.lst ds)) s else .bad) σ H Q) : tLst (TDs e W f) σ H Q := by
  obtain ⟨T, θ, s, st, p⟩ := h
  refine ⟨T, θ, s, st, p.bindS RDs.eq fun ds s1 vs θ1 H1 st1 r1 p1 => ?_⟩
  by_cases hl : ds.length ≤ sizeLine
  · have p1 : Post e W (RC e) T θ1 s1 σ H1 (if ds.length ≤ sizeLine then .ok (.ow (.lst ds)) s1 else .bad) Q := p1
    rw [if_pos hl] at p1
    exact ⟨by rw [r1.2.length]; exact hl, fun q hq => p1.nv st1.st (.lst hq r1.2)⟩
  · have p1 : Post e W (RC e) T θ1 s1 σ H1 (if ds.length ≤ sizeLine then .ok (.ow (.lst ds)) s1 else .bad) Q := p1
    rw [if_neg hl] at p1
    exact p1.elim
theorem imp_tup {f : S → Out (List D)} {Q : VK} (h : TEv e W (fun s => (f s).bind fun ds s => if ds.length ≤ sizeLine then .ok (.sh (.tup ds)) s else .bad) σ H Q) : tTupF (TDs e W f) σ H Q := by
  obtain ⟨T, θ, s, st, p⟩ := h
  refine ⟨T, θ, s, st, p.bindS RDs.eq fun ds s1 vs θ1 H1 st1 r1 p1 => ?_⟩
  by_cases hl : ds.length ≤ sizeLine
  · have p1 : Post e W (RC e) T θ1 s1 σ H1 (if ds.length ≤ sizeLine then .ok (.sh (.tup ds)) s1 else .bad) Q := p1
    rw [if_pos hl] at p1
    exact ⟨by rw [r1.2.length]; exact hl, fun q o hq ho => p1.nv st1.st (.tup hq ho r1.2)⟩
  · have p1 : Post e W (RC e) T θ1 s1 σ H1 (if ds.length ≤ sizeLine then .ok (.sh (.tup ds)) s1 else .bad) Q := p1
    rw [if_neg hl] at p1
    exact p1.elim
end
end VM

set_option linter.all false
set_option maxRecDepth 100000
/-! VM12: an expression's rules. -/
namespace VM
open PySem PySem.Spec PyProof.Rows L2
section
variable {X : Cx} {ex : Expr} {t t' : TE} {u u' : TT}
theorem pe_imp (h : PE X ex t) (i : ∀ σ H Q, t' σ H Q → t σ H Q) : PE X ex t' := ⟨fun pins s σ H Q I q => h.run pins s σ H Q I (i σ H Q q)⟩
theorem pt_imp (h : PT X ex u) (i : ∀ σ H Q, u' σ H Q → u σ H Q) : PT X ex u' := ⟨fun pins s σ H Q I q => h.run pins s σ H Q I (i σ H Q q)⟩
theorem pw_imp (h : PW X ex u) (i : ∀ σ H Q, u' σ H Q → u σ H Q) : PW X ex u' := ⟨fun w pins s σ H Q I q => h.run w pins s σ H Q I (i σ H Q q)⟩
theorem pa_imp {es : List Expr} {t t' : TA} (h : PA X es t) (i : ∀ σ H Q, t' σ H Q → t σ H Q) : PA X es t' := ⟨fun pos pins s σ H Q I q => h.run pos pins s σ H Q I (i σ H Q q)⟩
/-- truth of any plain expression -/
theorem pt_tru {r : V → Hp → (Bool → Hp → Prop) → Prop} (ha : PE X ex t) (hr : TruR X r) (he : ∀ whole, isTrue ex X.env whole = (do let v ← whole; standAt ex.pos; holding [v] (truthy v))) :
    PT X ex (fun σ H Q => t σ H fun x H' => r x H' Q) := by
  refine ⟨fun pins s σ H Q I h => ?_⟩
  exact isTrue_plain (thn (ha.run pins s σ H _ I h) fun v s1 ⟨x, H1, I1, r1, q1⟩ => hr pins s1 σ H1 x v Q I1 r1 q1) (he _)
end
/-- what an expression does, all three ways -/
structure PB (e : Env2) (W : WX) (X : Cx) (ex : Expr) (b : Bn) : Prop where
  pe : PE X ex (TEv e W b.e)
  pt : PT X ex (TTv e W b.t)
  pp : PE X ex (TPv e W b.p)
def Plain (X : Cx) (ex : Expr) : Prop := ∀ whole, isTrue ex X.env whole = (do let v ← whole; standAt ex.pos; holding [v] (truthy v))
section
variable {e : Env2} {W : WX} {X : Cx} {ex a b : Expr} {pos : Pos} {α β : Type} {R : Rl α β} {T : AP1} {θ : List Addr} {s : S} {σ : L2.St} {H : Hp}
theorem pe_p {f : S → Out C} (h : PE X ex (TEv e W f)) : PE X ex (TPv e W (pOf f)) := pe_imp h fun _ _ _ => imp_p
theorem pe_d {b : Bn} (h : PB e W X ex b) : PE X ex (TDv e W b.d) := pe_imp h.pe fun _ _ _ => imp_d
theorem pb_of (hK : X.K = e.g.K) {f : S → Out C} (h : PE X ex (TEv e W f)) (he : Plain X ex) : PB e W X ex (.of f) := by
  have hp := pe_p h
  exact ⟨h, pt_imp (pt_tru hp (vm_truth hK) he) fun _ _ _ => imp_t, hp⟩
/-! ### names -/
theorem slotV {i : Nat} {v : V} (h : σ[i]?.bind id = some v) : σ[i]? = some (some v) := by
  cases q : σ[i]? with
  | none => rw [q] at h; cases h
  | some x => rw [q] at h; exact congrArg some h
theorem imp_read {i : Nat} {Q : VK} (h : TEv e W (fun s => readSlot s i) σ H Q) : tVar i σ H Q := by
  obtain ⟨T, θ, s, st, p⟩ := h
  have p : Post e W (RC e) T θ s σ H (readSlot s i) Q := p
  unfold readSlot at p
  cases q : s.get i with
  | sh d =>
    rw [q] at p
    obtain ⟨v, e1, sh⟩ := st.slot i _ (S.get_of q (by simp))
    exact ⟨v, slotV e1, p v T θ H (Stp.refl st) ⟨rfl, v, rfl, sh⟩⟩
  | ow d =>
    rw [q] at p
    obtain ⟨a, e1, st2, k, sh⟩ := st.freeze q
    exact ⟨_, e1, p _ T θ H ⟨st2, fun _ _ z => z, k, fun _ z => z, fun _ _ => rfl⟩ ⟨rfl, _, rfl, sh⟩⟩
  | clo l sn => exact (st.slot i _ (S.get_of q (by simp))).elim
  | _ => rw [q] at p; exact p.elim
theorem imp_peek {i : Nat} {Q : VK} (h : TPv e W (fun s => peekSlot s i) σ H Q) : tVar i σ H Q := by
  obtain ⟨T, θ, s, st, p⟩ := h
  have p : Post e W (RP e) T θ s σ H (peekSlot s i) Q := p
  unfold peekSlot at p
  cases q : s.get i with
  | sh d =>
    rw [q] at p
    obtain ⟨v, e1, sh⟩ := st.slot i _ (S.get_of q (by simp))
    exact ⟨v, slotV e1, p v T θ H (Stp.refl st) (RP.lk sh)⟩
  | ow d =>
    rw [q] at p
    obtain ⟨a, e1, _⟩ := st.slot i _ (S.get_of q (by simp))
    exact ⟨_, slotV e1, p _ T θ H (Stp.refl st) ⟨rfl, slotV e1⟩⟩
  | hd n =>
    rw [q] at p
    obtain ⟨a, e1, hn⟩ := st.slot i _ (S.get_of q (by simp))
    exact ⟨_, slotV e1, p _ T θ H (Stp.refl st) ⟨rfl, a, rfl, hn⟩⟩
  | _ => rw [q] at p; exact p.elim
theorem pb_slot (hK : X.K = e.g.K) {i : Nat} {x : Str} (hN : X.N[i]? = some x) (hv : Vis X.env.scope x) (hd : (x == ("__debug__" : Str)) = false) (hcd : (x == ("__classdict__" : Str)) = false) :
    PB e W X (.Name x pos) ⟨fun s => readSlot s i, tOf fun s => peekSlot s i, fun s => peekSlot s i⟩ := by
  have hp : PE X (.Name x pos) (TPv e W fun s => peekSlot s i) := pe_imp (pe_var hN hv hd hcd) fun _ _ _ => imp_peek
  exact ⟨pe_imp (pe_var hN hv hd hcd) fun _ _ _ => imp_read, pt_imp (pt_tru hp (vm_truth hK) fun _ => rfl) fun _ _ _ => imp_t, hp⟩
/-- a root goes among the handles -/
theorem StR.borrow (R : StR e T θ s σ H) {i : Nat} {d : D} (h : s.get i = .ow d) : ∃ p, σ[i]? = some (some (.ref p)) ∧ (θ ++ [p])[θ.length]? = some p ∧
    Stp e T θ s T (θ ++ [p]) { sl := s.sl.set i (.hd s.om.length), om := s.om ++ [d] } σ H H := by
  have hs := S.get_of h (by simp)
  have hi := S.get_lt h (by simp)
  obtain ⟨p, e1, r⟩ := R.slot i _ hs
  have eσ := slotV e1
  have at_p : OwnAt s.sl σ i p := ⟨d, hs, eσ⟩
  have hle := R.hlen
  have own1 : ∀ j a, OwnAt (s.sl.set i (.hd s.om.length)) σ j a ↔ j ≠ i ∧ OwnAt s.sl σ j a := fun j a => by
    constructor
    · exact fun z => own_put' hi (by simp) z
    · rintro ⟨hj, x, h1, h2⟩
      exact ⟨x, by rw [put_at _ _ _ hi, if_neg hj]; exact h1, h2⟩
  have eO : ∀ a, Own T (θ ++ [p]) (s.sl.set i (.hd s.om.length)) σ a ↔ Own T θ s.sl σ a := fun a => by
    constructor
    · rintro (z | z | ⟨j, z⟩)
      · exact .inl z
      · rcases List.mem_append.mp z with z | z
        · exact .inr (.inl z)
        · rw [List.mem_singleton.mp z]; exact ownS at_p
      · exact .inr (.inr ⟨j, ((own1 j a).mp z).2⟩)
    · rintro (z | z | ⟨j, z⟩)
      · exact .inl z
      · exact .inr (.inl (List.mem_append_left _ z))
      · by_cases hj : j = i
        · subst hj
          obtain ⟨_, _, w⟩ := z
          rw [eσ] at w
          cases w
          exact .inr (.inl (by simp))
        · exact .inr (.inr ⟨j, (own1 j a).mpr ⟨hj, z⟩⟩)
  have k : Kp (Own T θ s.sl σ) H (Own T (θ ++ [p]) (s.sl.set i (.hd s.om.length)) σ) H := Kp.less (fun a z => (eO a).mp z) (fun n q z => by
    have z : θ[n]? = some q := z
    show (θ ++ [p])[n]? = some q
    rw [List.getElem?_append_left (List.getElem?_eq_some_iff.mp z).1]; exact z)
  have pf : Pfx θ (θ ++ [p]) := fun n q hq => by
    rw [List.getElem?_append_left (List.getElem?_eq_some_iff.mp hq).1]; exact hq
  have at_end : (θ ++ [p])[θ.length]? = some p := by simp
  refine ⟨p, eσ, at_end, ⟨⟨by simpa using R.len, fun j c hj => ?_, by simp [hle], fun n x q h1 h2 => ?_, ?_, fun j a z => ?_, fun j j' a z z' => R.inj j j' a ((own1 j a).mp z).2 ((own1 j' a).mp z').2, fun a ha => ?_, R.tr, R.tb⟩, pf, k, fun _ z => z, fun _ _ => rfl⟩⟩
  · have hj : (s.sl.set i (.hd s.om.length))[j]? = some c := hj
    rw [put_at _ _ _ hi] at hj
    by_cases q : j = i
    · rw [if_pos q] at hj
      cases hj
      rw [q, eσ]
      exact ⟨p, rfl, by rw [← hle]; exact at_end⟩
    · rw [if_neg q] at hj
      have z := R.slot j c hj
      by_cases ho : ∃ d, c = .ow d
      · obtain ⟨x, rfl⟩ := ho
        obtain ⟨pp, e2, r2⟩ := z
        exact ⟨pp, e2, r2.keep k rfl⟩
      · exact SlotOk.keep k pf (fun d y => ho ⟨d, y⟩) z
  · have h1 : (s.om ++ [d])[n]? = some x := h1
    by_cases hn : n < s.om.length
    · rw [List.getElem?_append_left hn] at h1
      rw [List.getElem?_append_left (by rw [hle]; exact hn)] at h2
      exact (R.hnd n x q h1 h2).keep k rfl
    · rw [List.getElem?_append_right (by omega)] at h1
      rw [List.getElem?_append_right (by omega)] at h2
      have n0 : n - s.om.length = 0 := by
        rcases Nat.eq_zero_or_pos (n - s.om.length) with z | z
        · exact z
        · rw [List.getElem?_eq_none (by simp; omega)] at h1; cases h1
      rw [n0] at h1
      rw [show n - θ.length = 0 by omega] at h2
      cases h1
      cases h2
      exact r.keep k rfl
  · rw [List.nodup_append]
    refine ⟨R.nd, by simp, fun a ha b hb => ?_⟩
    rw [List.mem_singleton.mp hb]
    intro z
    exact (R.sep i p at_p).2 (z ▸ ha)
  · obtain ⟨hj, z⟩ := (own1 j a).mp z
    refine ⟨(R.sep j a z).1, fun y => ?_⟩
    rcases List.mem_append.mp y with y | y
    · exact (R.sep j a z).2 y
    · rw [List.mem_singleton.mp y] at z
      exact hj (R.inj j i p z at_p)
  · rcases List.mem_append.mp ha with ha | ha
    · exact R.hT a ha
    · rw [List.mem_singleton.mp ha]
      exact (R.sep i p at_p).1
/-- a root in the air goes among the handles -/
theorem StR.alloc {p : Addr} {d : D} (R : StR e (And1 T p) θ s σ H) (nT : ¬ T p) (r : Root e.g (Own (And1 T p) θ s.sl σ) H d p) : StR e T (θ ++ [p]) { s with om := s.om ++ [d] } σ H ∧ Kp (Own (And1 T p) θ s.sl σ) H (Own T (θ ++ [p]) s.sl σ) H ∧ Pfx θ (θ ++ [p]) := by
  have hle := R.hlen
  have eO : ∀ a, Own T (θ ++ [p]) s.sl σ a → Own (And1 T p) θ s.sl σ a := fun a z => by
    rcases z with z | z | z
    · exact .inl (.inl z)
    · rcases List.mem_append.mp z with z | z
      · exact .inr (.inl z)
      · exact .inl (.inr (List.mem_singleton.mp z))
    · exact .inr (.inr z)
  have pf : Pfx θ (θ ++ [p]) := fun n q hq => by
    rw [List.getElem?_append_left (List.getElem?_eq_some_iff.mp hq).1]; exact hq
  have k : Kp (Own (And1 T p) θ s.sl σ) H (Own T (θ ++ [p]) s.sl σ) H := Kp.less eO pf
  refine ⟨⟨R.len, fun j c hj => ?_, by simp [hle], fun n x q h1 h2 => ?_, ?_, fun j a z => ⟨fun y => (R.sep j a z).1 (.inl y), fun y => ?_⟩, R.inj, fun a ha => ?_, fun a z => R.tr a (.inl z), R.tb⟩, k, pf⟩
  · have z := R.slot j c hj
    by_cases ho : ∃ d, c = .ow d
    · obtain ⟨x, rfl⟩ := ho
      obtain ⟨pp, e2, r2⟩ := z
      exact ⟨pp, e2, r2.keep k rfl⟩
    · exact SlotOk.keep k pf (fun d y => ho ⟨d, y⟩) z
  · have h1 : (s.om ++ [d])[n]? = some x := h1
    by_cases hn : n < s.om.length
    · rw [List.getElem?_append_left hn] at h1
      rw [List.getElem?_append_left (by rw [hle]; exact hn)] at h2
      exact (R.hnd n x q h1 h2).keep k rfl
    · rw [List.getElem?_append_right (by omega)] at h1
      rw [List.getElem?_append_right (by omega)] at h2
      have n0 : n - s.om.length = 0 := by
        rcases Nat.eq_zero_or_pos (n - s.om.length) with z | z
        · exact z
        · rw [List.getElem?_eq_none (by simp; omega)] at h1; cases h1
      rw [n0] at h1
      rw [show n - θ.length = 0 by omega] at h2
      cases h1
      cases h2
      exact r.keep k rfl
  · rw [List.nodup_append]
    refine ⟨R.nd, by simp, fun a ha b hb => ?_⟩
    rw [List.mem_singleton.mp hb]
    intro z
    exact R.hT a ha (.inr z)
  · rcases List.mem_append.mp y with y | y
    · exact (R.sep j a z).2 y
    · exact (R.sep j a z).1 (.inr (List.mem_singleton.mp y))
  · rcases List.mem_append.mp ha with ha | ha
    · exact fun z => R.hT a ha (.inl z)
    · rw [List.mem_singleton.mp ha]
      exact nT
theorem imp_alc {f : S → Out C} {Q : VK} (h : TEv e W (fun s => allocO (f s)) σ H Q) : TEv e W f σ H Q := by
  obtain ⟨T, θ, s, st, p⟩ := h
  refine ⟨T, θ, s, st, ?_⟩
  have p : Post e W (RC e) T θ s σ H (allocO (f s)) Q := p
  show Post e W (RC e) T θ s σ H (f s) Q
  revert p
  generalize f s = r
  intro p
  cases r with
  | ok c s' =>
    cases c with
    | ow d =>
      intro v T' θ' H' stp rc
      obtain ⟨q, rfl, rfl, nT, rt⟩ := rc
      obtain ⟨a1, a2, a3⟩ := stp.st.alloc nT rt
      refine p (.ref q) T _ H' ⟨a1, fun n p z => a3 n p (stp.pf n p z), stp.kp.trans a2, fun _ z => z, stp.tk⟩ ⟨rfl, .ref q, rfl, q, rfl, ?_⟩
      show (θ' ++ [q])[s'.om.length]? = some q
      rw [← stp.st.hlen]
      simp
    | _ => exact p.elim
  | exc k fs s' => exact p
  | bad => exact p
theorem imp_brw {i : Nat} {Q : VK} (h : TEv e W (fun s => borrow s i) σ H Q) : tVar i σ H Q := by
  obtain ⟨T, θ, s, st, p⟩ := h
  have p : Post e W (RC e) T θ s σ H (VM.borrow s i) Q := p
  unfold VM.borrow at p
  cases q : s.get i with
  | hd n =>
    rw [q] at p
    obtain ⟨a, e1, hn⟩ := st.slot i _ (S.get_of q (by simp))
    exact ⟨_, slotV e1, p _ T θ H (Stp.refl st) ⟨rfl, a, rfl, hn⟩⟩
  | ow d =>
    rw [q] at p
    obtain ⟨a, e1, h1, stp⟩ := st.borrow q
    exact ⟨_, e1, p _ T _ H stp ⟨rfl, a, rfl, by rw [← st.hlen]; exact h1⟩⟩
  | _ => rw [q] at p; exact p.elim
theorem pe_brw {i : Nat} {x : Str} (hN : X.N[i]? = some x) (hv : Vis X.env.scope x) (hd : (x == ("__debug__" : Str)) = false) (hcd : (x == ("__classdict__" : Str)) = false) :
    PE X (.Name x pos) (TEv e W fun s => VM.borrow s i) := pe_imp (pe_var hN hv hd hcd) fun _ _ _ => imp_brw
/-! ### constants -/
theorem imp_c {d : D} {v : V} {Q : VK} (hv : ∀ O H, Sh e.g O H d v) (h : TEv e W (fun s => .ok (.sh d) s) σ H Q) : tC v σ H Q := by
  obtain ⟨T, θ, s, st, p⟩ := h
  exact p v T θ H (Stp.refl st) ⟨rfl, v, rfl, hv _ _⟩
theorem pb_c (hK : X.K = e.g.K) {d : D} {v : V} (h : PE X ex (tC v)) (hv : ∀ O H, Sh e.g O H d v) (he : Plain X ex) : PB e W X ex (.of fun s => .ok (.sh d) s) := pb_of hK (pe_imp h fun _ _ _ => imp_c hv) he
/-! ### operators -/
theorem pb_bin (hK : X.K = e.g.K) {op : Operator} {ba bb : Bn} (ha : PB e W X a ba) (hb : PB e W X b bb) : PB e W X (.BinOp a op b pos) (.of fun s => (ba.p s).bind fun x s => (bb.p s).bind fun y s => Out.ofO s ((x.de s).bind fun d => (y.de s).bind fun e => binD op d e)) :=
  pb_of hK (pe_imp (pe_op (vm_bin hK op) ha.pp hb.pp) fun _ _ _ => imp2) fun _ => rfl
theorem pb_neg (hK : X.K = e.g.K) {ba : Bn} (ha : PB e W X a ba) : PB e W X (.UnaryOp .USub a pos) (.of fun s => (ba.p s).bind fun x s => Out.ofO s ((x.de s).bind fun d => match d with | .int i => some (.sh (.int (-i))) | _ => none)) :=
  pb_of hK (pe_imp (pe_un vm_neg ha.pp) fun _ _ _ => imp1) fun _ => rfl
theorem truV (hK : X.K = e.g.K) {O : OP} {d : D} {x : V} {k : Bool} (h : Lk e.g O H d x) (ek : truthV d = some k) : TruV X.K x H k := by
  cases d with
  | non => cases ek; obtain rfl := h.non; exact rfl
  | bl i => cases ek; obtain rfl := h.bl; exact rfl
  | int i => cases ek; obtain rfl := h.int; exact rfl
  | str z =>
    have ek : (if z.length ≤ sizeLine then some ((z.length : Int) != 0) else none) = some k := ek
    split at ek
    case isTrue hl => cases ek; obtain rfl := h.str; exact ⟨hl, rfl⟩
    case isFalse => cases ek
  | tup ds =>
    cases ek
    obtain ⟨a, vs, rfl, h1, r⟩ := h.tup
    refine .inr (.inl ⟨vs, hK ▸ h1.sq, ?_⟩)
    have := r.length
    cases ds <;> cases vs <;> first | rfl | cases this
  | lst ds =>
    cases ek
    obtain ⟨a, vs, rfl, h1, r⟩ := h.lst
    refine .inl ⟨vs, .of h1, ?_⟩
    have := r.length
    cases ds <;> cases vs <;> first | rfl | cases this
  | _ => exact nomatch (ek : none = some k)
/-- a value looked at, kept as it is -/
theorem Post.keepV {x : PV} {v : V} {Q : VK} (st : StR e T θ s σ H) (r : RP e T T θ s σ H x v) (p : Post e W (RC e) T θ s σ H (VM.keepV x s) Q) : Q v H := by
  cases x with
  | val d => exact p v T θ H (Stp.refl st) ⟨rfl, v, rfl, r.2⟩
  | hnd n =>
    obtain ⟨_, a, e1, e2⟩ := r
    exact p v T θ H (Stp.refl st) ⟨rfl, v, rfl, a, e1, e2⟩
  | _ => exact p.elim
theorem imp_and (hK : X.K = e.g.K) {ba bb : Bn} {Q : VK} (h : TEv e W (fun s => (ba.p s).bind fun x s => match (x.de s).bind truthV with
      | none => .bad
      | some true => bb.e s
      | some false => VM.keepV x s) σ H Q) : tAndT X.K (TPv e W ba.p) (TEv e W bb.e) σ H Q := by
  obtain ⟨T, θ, s, st, p⟩ := h
  refine ⟨T, θ, s, st, p.bindS RP.eq fun x s1 v θ1 H1 st1 r1 p1 => ?_⟩
  have p1 : Post e W (RC e) T θ1 s1 σ H1 (match (x.de s1).bind truthV with
      | none => .bad
      | some true => bb.e s1
      | some false => VM.keepV x s1) Q := p1
  cases q : (x.de s1).bind truthV with
  | none => rw [q] at p1; exact p1.elim
  | some k =>
    rw [q] at p1
    obtain ⟨d, hd, hk⟩ := opt_bind q
    refine ⟨k, truV hK (r1.de st1.st hd) hk, ?_⟩
    cases k with
    | true => rw [if_pos rfl]; exact ⟨T, θ1, s1, st1.st, p1⟩
    | false => rw [if_neg Bool.false_ne_true]; exact p1.keepV st1.st r1
theorem imp_or (hK : X.K = e.g.K) {ba bb : Bn} {Q : VK} (h : TEv e W (fun s => (ba.p s).bind fun x s => match (x.de s).bind truthV with
      | none => .bad
      | some false => bb.e s
      | some true => VM.keepV x s) σ H Q) : tOrT X.K (TPv e W ba.p) (TEv e W bb.e) σ H Q := by
  obtain ⟨T, θ, s, st, p⟩ := h
  refine ⟨T, θ, s, st, p.bindS RP.eq fun x s1 v θ1 H1 st1 r1 p1 => ?_⟩
  have p1 : Post e W (RC e) T θ1 s1 σ H1 (match (x.de s1).bind truthV with
      | none => .bad
      | some false => bb.e s1
      | some true => VM.keepV x s1) Q := p1
  cases q : (x.de s1).bind truthV with
  | none => rw [q] at p1; exact p1.elim
  | some k =>
    rw [q] at p1
    obtain ⟨d, hd, hk⟩ := opt_bind q
    refine ⟨k, truV hK (r1.de st1.st hd) hk, ?_⟩
    cases k with
    | false => rw [if_neg Bool.false_ne_true]; exact ⟨T, θ1, s1, st1.st, p1⟩
    | true => rw [if_pos rfl]; exact p1.keepV st1.st r1
theorem imp_not (hK : X.K = e.g.K) {fa : S → Out PV} {Q : VK} (h : TEv e W (fun s => (fa s).bind fun x s => Out.ofO s ((x.de s).bind fun d => (truthV d).map fun b => .sh (.bl (!b)))) σ H Q) : tNotT X.K (TPv e W fa) σ H Q := by
  obtain ⟨T, θ, s, st, p⟩ := h
  refine ⟨T, θ, s, st, p.bindS RP.eq fun x s1 v θ1 H1 st1 r1 p1 => ?_⟩
  obtain ⟨c, hc, p2⟩ := p1.ofO
  obtain ⟨d, hd, hc⟩ := opt_bind hc
  obtain ⟨k, hk, rfl⟩ := map_of hc
  exact ⟨k, truV hK (r1.de st1.st hd) hk, p2.nv st1.st (.sh rfl)⟩
theorem imp_tnot {fa : S → Out Bool} {Q : Bool → Hp → Prop} (h : TTv e W (fun s => (fa s).bind fun b s => .ok (!b) s) σ H Q) : tNot (TTv e W fa) σ H Q := by
  obtain ⟨T, θ, s, st, p⟩ := h
  refine ⟨T, θ, s, st, p.bindS RB.eq fun x s1 v θ1 H1 st1 r1 p1 => ?_⟩
  have e1 : x = v := r1.2
  subst e1
  exact p1 _ T θ1 H1 (Stp.refl st1.st) ⟨rfl, rfl⟩
theorem pb_not (hK : X.K = e.g.K) {ba : Bn} (ha : PB e W X a ba) {f : S → Out C} (hf : f = fun s => (ba.p s).bind fun x s => Out.ofO s ((x.de s).bind fun d => (truthV d).map fun b => .sh (.bl (!b)))) :
    PB e W X (.UnaryOp .Not a pos) ⟨f, fun s => (ba.t s).bind fun b s => .ok (!b) s, pOf f⟩ := by
  have h : PE X (.UnaryOp .Not a pos) (TEv e W f) := by subst hf; exact pe_imp (pe_notT ha.pp) fun _ _ _ => imp_not hK
  exact ⟨h, pt_imp (pt_not ha.pt) fun _ _ _ => imp_tnot, pe_p h⟩
theorem imp_tand {fa fb : S → Out Bool} {Q : Bool → Hp → Prop} (h : TTv e W (fun s => (fa s).bind fun c s => match c with | true => fb s | false => .ok false s) σ H Q) : tAnd (TTv e W fa) (TTv e W fb) σ H Q := by
  obtain ⟨T, θ, s, st, p⟩ := h
  refine ⟨T, θ, s, st, p.bindS RB.eq fun x s1 v θ1 H1 st1 r1 p1 => ?_⟩
  have e1 : x = v := r1.2
  subst e1
  cases x with
  | true => rw [if_pos rfl]; exact ⟨T, θ1, s1, st1.st, p1⟩
  | false => rw [if_neg Bool.false_ne_true]; exact p1 _ T θ1 H1 (Stp.refl st1.st) ⟨rfl, rfl⟩
theorem imp_tor {fa fb : S → Out Bool} {Q : Bool → Hp → Prop} (h : TTv e W (fun s => (fa s).bind fun c s => match c with | true => .ok true s | false => fb s) σ H Q) : tOr (TTv e W fa) (TTv e W fb) σ H Q := by
  obtain ⟨T, θ, s, st, p⟩ := h
  refine ⟨T, θ, s, st, p.bindS RB.eq fun x s1 v θ1 H1 st1 r1 p1 => ?_⟩
  have e1 : x = v := r1.2
  subst e1
  cases x with
  | false => rw [if_neg Bool.false_ne_true]; exact ⟨T, θ1, s1, st1.st, p1⟩
  | true => rw [if_pos rfl]; exact p1 _ T θ1 H1 (Stp.refl st1.st) ⟨rfl, rfl⟩
/-- x and y .., x or y .. -/
structure PBw (e : Env2) (W : WX) (X : Cx) (ex : Expr) (b : Bn) : Prop where
  pe : PE X ex (TEv e W b.e)
  pw : PW X ex (TTv e W b.t)
theorem PBw.pb {bb : Bn} {f : S → Out C} {g : S → Out Bool} (h : PBw e W X ex ⟨f, g, pOf f⟩) : PB e W X ex ⟨f, g, pOf f⟩ := ⟨h.pe, h.pw.pt, pe_p h.pe⟩
theorem pbw_and1 {ba : Bn} (ha : PB e W X a ba) : PBw e W X (.BoolOp .And [a] pos) ba := ⟨pe_one ha.pe, pw_and1 ha.pt⟩
theorem pbw_or1 {ba : Bn} (ha : PB e W X a ba) : PBw e W X (.BoolOp .Or [a] pos) ba := ⟨pe_one ha.pe, pw_or1 ha.pt⟩
theorem pbw_and (hK : X.K = e.g.K) {ba bb : Bn} {rest : List Expr} (ha : PB e W X a ba) (hb : PBw e W X (.BoolOp .And (b :: rest) pos) bb) {f : S → Out C} (hf : f = fun s => (ba.p s).bind fun x s => match (x.de s).bind truthV with
      | none => .bad
      | some true => bb.e s
      | some false => VM.keepV x s) : PBw e W X (.BoolOp .And (a :: b :: rest) pos) ⟨f, fun s => (ba.t s).bind fun c s => match c with | true => bb.t s | false => .ok false s, pOf f⟩ := by
  subst hf
  exact ⟨pe_imp (pe_andT ha.pp hb.pe) fun _ _ _ => imp_and hK, pw_imp (pw_and ha.pt hb.pw) fun _ _ _ => imp_tand⟩
theorem pbw_or (hK : X.K = e.g.K) {ba bb : Bn} {rest : List Expr} (ha : PB e W X a ba) (hb : PBw e W X (.BoolOp .Or (b :: rest) pos) bb) {f : S → Out C} (hf : f = fun s => (ba.p s).bind fun x s => match (x.de s).bind truthV with
      | none => .bad
      | some false => bb.e s
      | some true => VM.keepV x s) : PBw e W X (.BoolOp .Or (a :: b :: rest) pos) ⟨f, fun s => (ba.t s).bind fun c s => match c with | true => .ok true s | false => bb.t s, pOf f⟩ := by
  subst hf
  exact ⟨pe_imp (pe_orT ha.pp hb.pe) fun _ _ _ => imp_or hK, pw_imp (pw_or ha.pt hb.pw) fun _ _ _ => imp_tor⟩
/-! ### comparisons -/
theorem imp_tcmp {f : S → Out C} {Q : Bool → Hp → Prop} {fa fb : S → Out PV} {op : CmpOp} (hf : f = fun s => (fa s).bind fun x s => (fb s).bind fun y s => Out.ofO s ((x.de s).bind fun d => (y.de s).bind fun e => cmpC op d e))
    (h : TTv e W (tOf (pOf f)) σ H Q) : tTest (tOp (R2v e.g (cmpC op)) (TPv e W fa) (TPv e W fb)) σ H Q := by
  have h1 := imp_p (imp_t h)
  rw [hf] at h1
  obtain ⟨T, θ, s, st, p⟩ := h1
  have h2 : TEv e W (fun s => (fa s).bind fun x s => (fb s).bind fun y s => Out.ofO s ((x.de s).bind fun d => (y.de s).bind fun e => cmpC op d e)) σ H (fun x H' => (∃ k, x = .bl k ∧ Q k H')) := by
    refine ⟨T, θ, s, st, ?_⟩
    have p : Post e W (RC e) T θ s σ H ((fa s).bind fun x s => (fb s).bind fun y s => Out.ofO s ((x.de s).bind fun d => (y.de s).bind fun e => cmpC op d e)) (fun x H' => T1v e.g truth x H' Q) := p
    show Post e W (RC e) T θ s σ H ((fa s).bind fun x s => (fb s).bind fun y s => Out.ofO s ((x.de s).bind fun d => (y.de s).bind fun e => cmpC op d e)) _
    have key : ∀ c s', ((fa s).bind fun x s => (fb s).bind fun y s => Out.ofO s ((x.de s).bind fun d => (y.de s).bind fun e => cmpC op d e)) = .ok c s' → ∃ b, c = .sh (.bl b) := fun c s' hc => by
      cases h1 : fa s with
      | ok x s1 =>
        rw [h1] at hc
        have hc : ((fb s1).bind fun y s => Out.ofO s ((x.de s).bind fun d => (y.de s).bind fun e => cmpC op d e)) = .ok c s' := hc
        cases h2 : fb s1 with
        | ok y s2 =>
          rw [h2] at hc
          have hc : Out.ofO s2 ((x.de s2).bind fun d => (y.de s2).bind fun e => cmpC op d e) = .ok c s' := hc
          cases h3 : ((x.de s2).bind fun d => (y.de s2).bind fun e => cmpC op d e) with
          | none => rw [h3] at hc; cases hc
          | some c1 =>
            rw [h3] at hc
            cases hc
            obtain ⟨d, _, h4⟩ := opt_bind h3
            obtain ⟨d', _, h4⟩ := opt_bind h4
            obtain ⟨b, _, rfl⟩ := cmp_of h4
            exact ⟨b, rfl⟩
        | exc _ _ _ => rw [h2] at hc; cases hc
        | bad => rw [h2] at hc; cases hc
      | exc _ _ _ => rw [h1] at hc; cases hc
      | bad => rw [h1] at hc; cases hc
    revert p
    generalize hr : ((fa s).bind fun x s => (fb s).bind fun y s => Out.ofO s ((x.de s).bind fun d => (y.de s).bind fun e => cmpC op d e)) = r at key ⊢
    intro p
    cases r with
    | ok c s' =>
      obtain ⟨b, rfl⟩ := key c s' rfl
      intro v T' θ' H' stp rc
      obtain ⟨O, d, k, lx, hk, q⟩ := p v T' θ' H' stp rc
      obtain ⟨rfl, u, e1, e2⟩ := rc
      cases e1
      obtain rfl : v = .bl b := e2
      refine ⟨b, rfl, ?_⟩
      have : k = b := by
        cases d with
        | bl k2 => cases hk; have z := lx.bl; cases z; rfl
        | non => have z := lx.non; cases z
        | int _ => have z := lx.int; cases z
        | str _ => have z := lx.str; cases z
        | tup _ => obtain ⟨_, _, z, _⟩ := lx.tup; cases z
        | lst _ => obtain ⟨_, _, z, _⟩ := lx.lst; cases z
        | dK _ => obtain ⟨_, _, z, _⟩ := lx.dK; cases z
        | _ => cases hk
      rw [← this]
      exact q
    | exc k fs s' => exact p
    | bad => exact p
  exact imp2 h2
theorem pb_cmp (gx : GX X e.g) (hu : X.A.units + 100 < cLine) {op : CmpOp} {ba bb : Bn} (ha : PB e W X a ba) (hb : PB e W X b bb) (hm : behindInMarks op b = false) :
    PB e W X (.Compare a [op] [b] pos) (.of fun s => (ba.p s).bind fun x s => (bb.p s).bind fun y s => Out.ofO s ((x.de s).bind fun d => (y.de s).bind fun e => (cmpD op d e).map fun b => .sh (.bl b))) := by
  have h : PE X (.Compare a [op] [b] pos) (TEv e W fun s => (ba.p s).bind fun x s => (bb.p s).bind fun y s => Out.ofO s ((x.de s).bind fun d => (y.de s).bind fun e => cmpC op d e)) := pe_imp (pe_cmpR (vm_cmp gx hu op) ha.pp hb.pp hm) fun _ _ _ => imp2
  exact ⟨h, pt_imp (pt_cmpR (vm_cmp gx hu op) ha.pp hb.pp hm) fun _ _ _ => imp_tcmp rfl, pe_p h⟩
end
end VM

set_option linter.all false
set_option maxRecDepth 100000
/-! VM13: an expression's rules, further. -/
namespace VM
open PySem PySem.Spec PyProof.Rows L2
section
variable {e : Env2} {W : WX} {X : Cx} {ex a b c : Expr} {pos : Pos} {α β : Type} {R : Rl α β} {T : AP1} {θ : List Addr} {s : S} {σ : L2.St} {H : Hp}
/-! ### is None -/
def isNon : D → Bool
  | .non => true
  | _ => false
theorem Lk.isNon {g : G} {O : OP} {d : D} {v : V} (h : Lk g O H d v) : decide (v = .non) = isNon d := by
  cases d with
  | non => rw [h.non]; rfl
  | bl b => rw [h.bl]; rfl
  | int b => rw [h.int]; rfl
  | str b => rw [h.str]; rfl
  | tup b => obtain ⟨_, _, z, _⟩ := h.tup; rw [z]; rfl
  | lst b => obtain ⟨_, _, z, _⟩ := h.lst; rw [z]; rfl
  | rol b => obtain ⟨_, _, z, _⟩ := h.rol; rw [z]; rfl
  | dK b => obtain ⟨_, _, z, _⟩ := h.dK; rw [z]; rfl
  | dN b => obtain ⟨_, _, z, _⟩ := h.dN; rw [z]; rfl
  | prs b => obtain ⟨_, _, z, _⟩ := h.prs; rw [z]; rfl
  | fn i =>
    have z : v = .ref (g.fa i) := h.elim id fun ⟨_, _, z⟩ => z.elim
    rw [z]; rfl
  | hnd n =>
    rcases h with ⟨a, z, _⟩ | ⟨_, _, z⟩
    · rw [z]; rfl
    · exact z.elim
theorem imp_isN {fa : S → Out PV} {Q : VK} (h : TEv e W (fun s => (fa s).bind fun x s => Out.ofO s ((x.de s).map fun d => .sh (.bl (match d with | .non => true | _ => false)))) σ H Q) : tIsN (TPv e W fa) σ H Q := by
  obtain ⟨T, θ, s, st, p⟩ := h
  refine ⟨T, θ, s, st, p.bindS RP.eq fun x s1 v θ1 H1 st1 r1 p1 => ?_⟩
  obtain ⟨c, hc, p2⟩ := p1.ofO
  obtain ⟨d, hd, rfl⟩ := map_of hc
  rw [(r1.de st1.st hd).isNon]
  exact p2.nv st1.st (.sh (by cases d <;> rfl))
theorem imp_notN {fa : S → Out PV} {Q : VK} (h : TEv e W (fun s => (fa s).bind fun x s => Out.ofO s ((x.de s).map fun d => .sh (.bl (match d with | .non => false | _ => true)))) σ H Q) : tNotN (TPv e W fa) σ H Q := by
  obtain ⟨T, θ, s, st, p⟩ := h
  refine ⟨T, θ, s, st, p.bindS RP.eq fun x s1 v θ1 H1 st1 r1 p1 => ?_⟩
  obtain ⟨c, hc, p2⟩ := p1.ofO
  obtain ⟨d, hd, rfl⟩ := map_of hc
  rw [(r1.de st1.st hd).isNon]
  exact p2.nv st1.st (.sh (by cases d <;> rfl))
/-- a test by a value that is a truth value -/
theorem imp_tb {f : S → Out C} {Q : Bool → Hp → Prop} (hb : ∀ s c s', f s = .ok c s' → ∃ b, c = .sh (.bl b)) (h : TTv e W (tOf (pOf f)) σ H Q) : TEv e W f σ H (fun x H' => ∃ k, x = .bl k ∧ Q k H') := by
  obtain ⟨T, θ, s, st, p⟩ := imp_p (imp_t h)
  refine ⟨T, θ, s, st, ?_⟩
  have key := hb s
  revert p
  generalize f s = r at key ⊢
  intro p
  cases r with
  | ok c s' =>
    obtain ⟨b, rfl⟩ := key c s' rfl
    intro v T' θ' H' stp rc
    obtain ⟨O, d, k, lx, hk, q⟩ := p v T' θ' H' stp rc
    obtain ⟨rfl, u, e1, e2⟩ := rc
    cases e1
    obtain rfl : v = .bl b := e2
    refine ⟨b, rfl, ?_⟩
    have : k = b := by
      cases d with
      | bl k2 => cases hk; have z := lx.bl; cases z; rfl
      | non => have z := lx.non; cases z
      | int _ => have z := lx.int; cases z
      | str _ => have z := lx.str; cases z
      | tup _ => obtain ⟨_, _, z, _⟩ := lx.tup; cases z
      | lst _ => obtain ⟨_, _, z, _⟩ := lx.lst; cases z
      | dK _ => obtain ⟨_, _, z, _⟩ := lx.dK; cases z
      | _ => cases hk
    rw [← this]
    exact q
  | exc k fs s' => exact p
  | bad => exact p
theorem ofo_bl {fa : S → Out PV} {k : D → Bool} (s : S) (c : C) (s' : S) (h : ((fa s).bind fun x s => Out.ofO s ((x.de s).map fun d => C.sh (.bl (k d)))) = .ok c s') : ∃ b, c = .sh (.bl b) := by
  cases h1 : fa s with
  | ok x s1 =>
    rw [h1] at h
    have h : Out.ofO s1 ((x.de s1).map fun d => C.sh (.bl (k d))) = .ok c s' := h
    cases h2 : x.de s1 with
    | none => rw [h2] at h; cases h
    | some d => rw [h2] at h; cases h; exact ⟨_, rfl⟩
  | exc _ _ _ => rw [h1] at h; cases h
  | bad => rw [h1] at h; cases h
theorem pb_isN {ba : Bn} (ha : PB e W X a ba) {j pos'} : PB e W X (.Compare a [.Is] [.Constant .none j pos'] pos) (.of fun s => (ba.p s).bind fun x s => Out.ofO s ((x.de s).map fun d => .sh (.bl (match d with | .non => true | _ => false)))) := by
  have h : PE X (.Compare a [.Is] [.Constant .none j pos'] pos) (TEv e W fun s => (ba.p s).bind fun x s => Out.ofO s ((x.de s).map fun d => .sh (.bl (match d with | .non => true | _ => false)))) := pe_imp (pe_cmp (pc_isN ha.pp)) fun _ _ _ => imp_isN
  refine ⟨h, pt_imp (pt_cmp (pc_isN ha.pp)) fun σ H Q q => ?_, pe_p h⟩
  exact imp_isN (imp_tb (fun s c s' hc => ofo_bl (k := fun d => match d with | .non => true | _ => false) s c s' hc) q)
theorem pb_notN {ba : Bn} (ha : PB e W X a ba) {j pos'} : PB e W X (.Compare a [.IsNot] [.Constant .none j pos'] pos) (.of fun s => (ba.p s).bind fun x s => Out.ofO s ((x.de s).map fun d => .sh (.bl (match d with | .non => false | _ => true)))) := by
  have h : PE X (.Compare a [.IsNot] [.Constant .none j pos'] pos) (TEv e W fun s => (ba.p s).bind fun x s => Out.ofO s ((x.de s).map fun d => .sh (.bl (match d with | .non => false | _ => true)))) := pe_imp (pe_cmp (pc_notN ha.pp)) fun _ _ _ => imp_notN
  refine ⟨h, pt_imp (pt_cmp (pc_notN ha.pp)) fun σ H Q q => ?_, pe_p h⟩
  exact imp_notN (imp_tb (fun s c s' hc => ofo_bl (k := fun d => match d with | .non => false | _ => true) s c s' hc) q)
/-! ### a if t else b -/
theorem imp_ife {ft : S → Out Bool} {fa fb : S → Out C} {Q : VK} (h : TEv e W (fun s => (ft s).bind fun c s => match c with | true => fa s | false => fb s) σ H Q) : tIf (TTv e W ft) (TEv e W fa) (TEv e W fb) σ H Q := by
  obtain ⟨T, θ, s, st, p⟩ := h
  refine ⟨T, θ, s, st, p.bindS RB.eq fun x s1 v θ1 H1 st1 r1 p1 => ?_⟩
  have e1 : x = v := r1.2
  subst e1
  cases x with
  | true => rw [if_pos rfl]; exact ⟨T, θ1, s1, st1.st, p1⟩
  | false => rw [if_neg Bool.false_ne_true]; exact ⟨T, θ1, s1, st1.st, p1⟩
def tIfT (c : TT) (t u : TT) : TT := fun σ H Q => c σ H fun b H1 => if b = true then t σ H1 Q else u σ H1 Q
theorem pt_ife {tc ta tb : TT} (hc : PT X c tc) (ha : PT X a ta) (hb : PT X b tb) : PT X (.IfExp c a b pos) (tIfT tc ta tb) := by
  refine ⟨fun pins s σ H Q I h => ?_⟩
  have e1 : PySem.isTrue (.IfExp c a b pos) X.env (eval (.IfExp c a b pos) X.env) = (do if ← PySem.isTrue c X.env (eval c X.env) then PySem.isTrue a X.env (eval a X.env) else PySem.isTrue b X.env (eval b X.env)) := by rw [PySem.isTrue]
  rw [e1]
  refine wpAny_bind (thn (hc.run pins s σ H _ I h) fun k s1 ⟨H1, I1, q1⟩ => ?_)
  cases k with
  | true => rw [if_pos rfl] at q1 ⊢; exact ha.run pins s1 σ H1 Q I1 q1
  | false => rw [if_neg Bool.false_ne_true] at q1 ⊢; exact hb.run pins s1 σ H1 Q I1 q1
theorem imp_tife {ft fa fb : S → Out Bool} {Q : Bool → Hp → Prop} (h : TTv e W (fun s => (ft s).bind fun c s => match c with | true => fa s | false => fb s) σ H Q) : tIfT (TTv e W ft) (TTv e W fa) (TTv e W fb) σ H Q := by
  obtain ⟨T, θ, s, st, p⟩ := h
  refine ⟨T, θ, s, st, p.bindS RB.eq fun x s1 v θ1 H1 st1 r1 p1 => ?_⟩
  have e1 : x = v := r1.2
  subst e1
  cases x with
  | true => rw [if_pos rfl]; exact ⟨T, θ1, s1, st1.st, p1⟩
  | false => rw [if_neg Bool.false_ne_true]; exact ⟨T, θ1, s1, st1.st, p1⟩
theorem pb_ife {bc ba bb : Bn} (hc : PB e W X c bc) (ha : PB e W X a ba) (hb : PB e W X b bb) {f : S → Out C} (hf : f = fun s => (bc.t s).bind fun c s => match c with | true => ba.e s | false => bb.e s) :
    PB e W X (.IfExp c a b pos) ⟨f, fun s => (bc.t s).bind fun c s => match c with | true => ba.t s | false => bb.t s, pOf f⟩ := by
  subst hf
  have h : PE X (.IfExp c a b pos) (TEv e W fun s => (bc.t s).bind fun c s => match c with | true => ba.e s | false => bb.e s) := pe_imp (pe_ifExp hc.pt ha.pe hb.pe) fun _ _ _ => imp_ife
  exact ⟨h, pt_imp (pt_ife hc.pt ha.pt hb.pt) fun _ _ _ => imp_tife, pe_p h⟩
/-! ### subscripts -/
theorem plainIx {b : Expr} (h : notSlice b = true) : PlainIx b := by
  intro o i
  cases b <;> first | rfl | cases h
theorem pb_idx (gx : GX X e.g) (hu : X.A.units + 100 < cLine) {ba bb : Bn} (ha : PB e W X a ba) (hb : PB e W X b bb) (hs : notSlice b = true) :
    PB e W X (.Subscript a b pos) (.of fun s => (ba.p s).bind fun x s => (bb.p s).bind fun y s => Out.ofO s ((x.de s).bind fun d => (y.de s).bind fun e => (idxD d e).map .sh)) :=
  pb_of gx.K (pe_imp (pe_ix (vm_ix gx hu) ha.pp hb.pp (plainIx hs)) fun _ _ _ => imp2) fun _ => rfl
/-- a part of a slice -/
def TOv (e : Env2) (W : WX) (f : S → Out (Option Int)) : L2.TO := fun σ H Q => ∃ T θ s, StR e T θ s σ H ∧ Post e W (fun T T' _ _ _ _ (o : Option Int) (o' : Option Int) => T' = T ∧ o' = o) T θ s σ H (f s) Q
structure POv (e : Env2) (W : WX) (X : Cx) (o : Option Expr) (b : Option Bn) : Prop where
  po : PO X o (TOv e W (intOf b))
theorem pov_none : POv e W X none none := ⟨⟨fun pins s σ H Q I h => po_none.run pins s σ H Q I (by
  obtain ⟨T, θ, s, st, p⟩ := h
  exact p none T θ H (Stp.refl st) ⟨rfl, rfl⟩)⟩⟩
theorem pov_some {ba : Bn} (ha : PB e W X a ba) : POv e W X (some a) (some ba) := ⟨⟨fun pins s σ H Q I h => (po_some (pe_d ha)).run pins s σ H Q I (by
  obtain ⟨T, θ, s, st, p⟩ := h
  refine ⟨T, θ, s, st, Post.bindS (R1 := RD e) p RD.eq fun d s1 v θ1 H1 st1 r1 p1 => ?_⟩
  cases d with
  | int i =>
    have e1 : v = .int i := r1.2
    exact ⟨i, e1, p1 (some i) T θ1 H1 (Stp.refl st1.st) ⟨rfl, rfl⟩⟩
  | _ => exact p1.elim)⟩⟩
theorem pb_slc (hK : X.K = e.g.K) {ba : Bn} {lo hi : Option Expr} {bl bh : Option Bn} {p2 : Pos} (ha : PB e W X a ba) (hl : POv e W X lo bl) (hh : POv e W X hi bh) :
    PB e W X (.Subscript a (.Slice lo hi none p2) pos) (.of fun s => (ba.p s).bind fun x s => (intOf bl s).bind fun l s => (intOf bh s).bind fun u s => Out.ofO s ((x.de s).bind fun d => match d with
    | .lst xs => some (.ow (.lst (cutD xs l u)))
    | .rol xs => some (.ow (.lst (cutD xs l u)))
    | .tup xs => some (.sh (.tup (cutD xs l u)))
    | _ => none)) := by
  refine pb_of hK (pe_imp (pe_slice (vm_slc hK) ha.pp hl.po hh.po) fun σ H Q h => ?_) fun _ => rfl
  obtain ⟨T, θ, s, st, p⟩ := h
  refine ⟨T, θ, s, st, Post.bindS (R1 := RP e) p RP.eq fun x s1 v θ1 H1 st1 r1 p1 => ⟨T, θ1, s1, st1.st, p1.bindS (fun h => h.1) fun l s2 l' θ2 H2 st2 r2 p2 => ⟨T, θ2, s2, st2.st, p2.bindS (fun h => h.1) fun u s3 u' θ3 H3 st3 r3 p3 => ?_⟩⟩⟩
  obtain ⟨_, rfl⟩ := r2
  obtain ⟨_, rfl⟩ := r3
  obtain ⟨c, hc, p4⟩ := p3.ofO
  obtain ⟨d, hd, hc⟩ := opt_bind hc
  exact ⟨Own T θ3 s3.sl σ, d, c, (r1.on (st2.trans st3)).de st3.st hd, hc, fun w H' n => p4.nv st3.st n⟩
/-! ### displays -/
theorem star_one {ex : Expr} {es : List Expr} {env : Env} (h : notStar ex = true) : starEach (ex :: es) env = (false, eval ex env) :: starEach es env := by
  cases ex <;> first | rfl | cases h
abbrev PBs (e : Env2) (W : WX) (X : Cx) : List Expr → List Bn → Prop := Paired fun ex b => PB e W X ex b ∧ notStar ex = true
theorem pa_ps : ∀ {es : List Expr} {bs : List Bn}, PBs e W X es bs → PA X es (TPs e W (psOf bs))
  | _, _, .nil => pa_imp pa_nil fun _ _ _ => imp_pn
  | _, _, .cons h r => pa_imp (pa_cons h.1.pp (pa_ps r) (star_one h.2)) fun _ _ _ => imp_pc
theorem pa_ds : ∀ {es : List Expr} {bs : List Bn}, PBs e W X es bs → PA X es (TDs e W (dsOf bs))
  | _, _, .nil => pa_imp pa_nil fun _ _ _ => imp_dn
  | _, _, .cons h r => pa_imp (pa_cons (pe_d h.1) (pa_ds r) (star_one h.2)) fun _ _ _ => imp_dc
theorem plains : ∀ {es : List Expr} {bs : List Bn}, PBs e W X es bs → ∀ pos, (backTo pos (starEach es X.env)).any (·.1) = false
  | _, _, .nil, pos => rfl
  | _, _, .cons h r, pos => by rw [star_one h.2]; exact plains r pos
theorem fews : ∀ {es : List Expr} {bs : List Bn}, PBs e W X es bs → ∀ pos, (backTo pos (starEach es X.env)).all (fun x => !x.1) = true
  | _, _, .nil, pos => rfl
  | _, _, .cons h r, pos => by rw [star_one h.2]; exact fews r pos
theorem pb_lst (hK : X.K = e.g.K) {es : List Expr} {bs : List Bn} (h : PBs e W X es bs) : PB e W X (.List es pos) (.of fun s => (dsOf bs s).bind fun ds s => if ds.length ≤ sizeLine then .ok (.ow (.lst ds)) s else .bad) :=
  pb_of hK (pe_imp (pe_lst (pa_ds h)) fun _ _ _ => imp_lst) fun _ => rfl
theorem pb_tup (hK : X.K = e.g.K) {es : List Expr} {bs : List Bn} {x1} (h : PBs e W X es bs) : PB e W X (.Tuple es x1 pos) (.of fun s => (dsOf bs s).bind fun ds s => if ds.length ≤ sizeLine then .ok (.sh (.tup ds)) s else .bad) :=
  pb_of hK (pe_imp (pe_tupF (pa_ds h)) fun _ _ _ => imp_tup) fun _ => rfl
/-- {}, whose keys are tuples -/
theorem pe_dnewN (g : G) (gx : GX X g) : PE X (.Dict [] [] pos) (fun _ H Q => ∀ p, H p = none → Q (.ref p) (upd H p (DicO g.P g.w p []))) := ⟨fun pins s σ H Q I h =>
  wpAny_Dict_empty ⟨.ref s.heap.objs.size, _, I.laid (a := s.heap.objs.size) (o := DicO g.P g.w s.heap.objs.size []) (t' := s.toks) (fun _ _ q => Heap.get?_push_of_some _ q) (Nat.le_refl _)
    (dic_new gx (Heap.DictOfH.new s.heap) (beq_eq_false_iff_ne.mpr (Ne.symm (Nat.ne_of_lt I.big))) (Nat.zero_le _)), rfl, h _ (I.hok.fresh (Nat.le_refl _))⟩⟩
theorem pb_dnew (gx : GX X e.g) (tk : Bool) : PB e W X (.Dict [] [] pos) (.of fun s => .ok (.ow (if tk then .dN [] else .dK [])) s) := by
  cases tk with
  | true => exact pb_of gx.K (pe_imp (pe_dnewN e.g gx) fun σ H Q ⟨T, θ, s, st, p⟩ q hq => p.nv st (.dN hq rfl)) fun _ => rfl
  | false => exact pb_of gx.K (pe_imp pe_dnewK fun σ H Q ⟨T, θ, s, st, p⟩ q hq => p.nv st (.dK hq rfl)) fun _ => rfl
/-! ### built-ins -/
theorem pb_bi {id : String} {b : Bi} (hK : X.K = e.g.K) {x : Str} {p : Pos} {ex : Expr} {es : List Expr} {bs : List Bn} (hc : CallR X (.builtin id) (RLv e.g (biD b))) (hg : Gl X x) (hm : X.mg x = none) (hv : bootBuiltins x = some (.builtin id)) (h : PBs e W X (ex :: es) bs) (hn : x ≠ "__name__") (hdb : (x == ("__debug__" : Str)) = false) :
    PB e W X (.Call (.Name x p) (ex :: es) [] pos) (.of fun s => (psOf bs s).bind fun xs s => Out.ofO s ((deAll s xs).bind fun ds => biD b ds)) := by
  have hp := plains h pos
  cases h with
  | cons h1 h2 =>
    exact pb_of hK (pe_imp (pe_callB hc hg hm hv (pa_ps (.cons h1 h2)) hn hdb (star_one h1.2) (plains h2 pos)) fun _ _ _ => imp_bi) fun _ => rfl
theorem pb_ty {id : String} {b : Bi} (hK : X.K = e.g.K) {x : Str} {p : Pos} {ex : Expr} {es : List Expr} {bs : List Bn} (hc : CallR X (.type id) (RLv e.g (biD b))) (hg : Gl X x) (hm : X.mg x = none) (hv : bootBuiltins x = some (.type id)) (h : PBs e W X (ex :: es) bs) (hn : x ≠ "__name__") (hdb : (x == ("__debug__" : Str)) = false) :
    PB e W X (.Call (.Name x p) (ex :: es) [] pos) (.of fun s => (psOf bs s).bind fun xs s => Out.ofO s ((deAll s xs).bind fun ds => biD b ds)) := by
  cases h with
  | cons h1 h2 =>
    exact pb_of hK (pe_imp (pe_callTy hc hg hm hv (pa_ps (.cons h1 h2)) hn hdb (star_one h1.2) (plains h2 pos)) fun _ _ _ => imp_bi) fun _ => rfl
/-- isinstance -/
theorem pb_isi (hK : X.K = e.g.K) {p p2 : Pos} {ty : Ty} {tn : Str} {ba : Bn} (hg : Gl X "isinstance") (hm : X.mg "isinstance" = none) (hgt : Gl X tn) (hmt : X.mg tn = none) (hvt : bootBuiltins tn = some (.type ty.nm)) (hn : tn ≠ "__name__") (hdb : (tn == ("__debug__" : Str)) = false) (ha : PB e W X a ba) (hs : notStar a = true) :
    PB e W X (.Call (.Name "isinstance" p) [a, .Name tn p2] [] pos) (.of fun s => (ba.p s).bind fun x s => Out.ofO s ((x.de s).bind fun d => (tyD d ty).map fun b => .sh (.bl b))) := by
  have h1 : PE X (.Name tn p2) (tC (.ty ty.nm)) := pe_bltn hgt hmt hvt rfl hn hdb
  have hb : PE X (.Call (.Name "isinstance" p) [a, .Name tn p2] [] pos) _ := pe_callB (vm_isi hK ty) hg hm (by rfl) (pa_cons ha.pp (pa_cons h1 pa_nil (by rfl)) (star_one hs)) (by decide) (by decide) (star_one hs) (by rfl)
  refine pb_of hK (pe_imp hb fun σ H Q h => ?_) fun _ => rfl
  obtain ⟨T, θ, s, st, p⟩ := h
  refine ⟨T, θ, s, st, Post.bindS (R1 := RP e) p RP.eq fun x s1 v θ1 H1 st1 r1 p1 => ?_⟩
  obtain ⟨c, hc, p2⟩ := p1.ofO
  obtain ⟨d, hd, hc⟩ := opt_bind hc
  obtain ⟨k, hk, rfl⟩ := map_of hc
  exact ⟨Own T θ1 s1.sl σ, d, k, v, rfl, r1.de st1.st hd, hk, p2.nv st1.st (.sh rfl)⟩
end
end VM

set_option linter.all false
set_option maxRecDepth 100000
/-! VM14: methods, what is backwards, ranges as lists, displays of dicts. -/
namespace VM
open PySem PySem.Spec PyProof.Rows L2
section
variable {e : Env2} {W : WX} {X : Cx} {ex a b c : Expr} {pos : Pos} {α β : Type} {R : Rl α β} {T : AP1} {θ : List Addr} {s s' : S} {σ : L2.St} {H : Hp} {d d' : D} {v : V}
theorem Kp.own {O : OP} {p : Addr} (h : O p) (o : HO) : Kp O H O (upd H p o) := And.intro Pfx.refl fun a u ha _ n => ⟨n, .inl (by rw [upd_ne (fun (z : a = p) => n (z ▸ h))]; exact ha)⟩
/-- a root that is looked at is changed -/
theorem up_root (st : StR e T θ s σ H) {x : PV} (r : RP e T T θ s σ H x v) (hd : x.de s = some d) (hu : x.up s d' = some s') : ∃ p o, v = .ref p ∧ H p = some o ∧ Cn e.g (Own T θ s.sl σ) H p d o ∧
    (∀ o', Cn e.g (Own T θ s.sl σ) H p d' o' → Stp e T θ s T θ s' σ H (upd H p o')) := by
  obtain ⟨_, r⟩ := r
  cases x with
  | val _ => cases hu
  | slot i =>
    have hu : (match s.get i with | .ow _ => some (s.put i (.ow d')) | _ => none) = some s' := hu
    have hd : (s.get i).d? = some d := hd
    cases q : s.get i with
    | ow d0 =>
      rw [q] at hu hd
      cases hu
      cases hd
      have hs := S.get_of q (by simp)
      obtain ⟨p, e1, rt⟩ := st.slot i _ hs
      rw [show σ[i]?.bind id = some v by rw [show σ[i]? = some (some v) from r]; rfl] at e1
      cases e1
      obtain ⟨o, ho, cn⟩ := rt.cn
      have at_p : OwnAt s.sl σ i p := ⟨d, hs, r⟩
      refine ⟨p, o, rfl, ho, cn, fun o' cn' => ?_⟩
      obtain ⟨R', k⟩ := st.mutS q r (d' := d') (o := o') ((cn'.keep (Kp.own (ownS at_p) o')).root upd_same)
      exact ⟨R', fun _ _ z => z, k, fun _ z => z, fun c hc => upd_ne fun z => (st.sep i p at_p).1 (z ▸ hc)⟩
    | _ => rw [q] at hu; cases hu
  | hnd n =>
    obtain ⟨p, rfl, hn⟩ := r
    cases hu
    have rt := st.hnd n d p hd hn
    obtain ⟨o, ho, cn⟩ := rt.cn
    have mp : p ∈ θ := List.mem_of_getElem? hn
    refine ⟨p, o, rfl, ho, cn, fun o' cn' => ?_⟩
    obtain ⟨R', k⟩ := st.mutH hd hn (d' := d') (o := o') ((cn'.keep (Kp.own (ownH mp) o')).root upd_same)
    exact ⟨R', fun _ _ z => z, k, fun _ z => z, fun c hc => upd_ne fun z => st.hT p mp (z ▸ hc)⟩
def methF (fo : S → Out PV) (fs : S → Out (List D)) (m : Me) : S → Out C := fun s => (fo s).bind fun x s => match isL (x.de s) with
    | false => .bad
    | true => (fs s).bind fun ds s => match (x.de s).bind fun d => meD m d ds with
      | none => .bad
      | some (a, d') => match x.up s d' with
        | none => .bad
        | some s => .ok (.sh a) s
theorem isL_of {o : Option D} (h : isL o = true) : ∃ xs, o = some (.lst xs) := by
  cases o with
  | none => cases h
  | some d => cases d <;> first | exact ⟨_, rfl⟩ | cases h
theorem imp_meth {fo : S → Out PV} {fs : S → Out (List D)} {m : Me} {K : PySem.W.Frag} {Q : VK} (h : TEv e W (methF fo fs m) σ H Q) : tBM K "list" (RMt e.g m) (TPv e W fo) (TDs e W fs) σ H Q := by
  obtain ⟨T, θ, s, st, p⟩ := h
  refine ⟨T, θ, s, st, Post.bindS (R1 := RP e) p RP.eq fun x s1 v θ1 H1 st1 r1 p1 => ?_⟩
  cases hl : isL (x.de s1) with
  | false => rw [hl] at p1; exact p1.elim
  | true =>
    rw [hl] at p1
    obtain ⟨xs, hx⟩ := isL_of hl
    obtain ⟨a, vs, rfl, ha, _⟩ := (r1.de st1.st hx).lst
    refine ⟨.inl ⟨rfl, vs, .of ha⟩, T, θ1, s1, st1.st, Post.bindS (R1 := RDs e) p1 RDs.eq fun ds s2 us θ2 H2 st2 r2 p2 => ?_⟩
    have p2 : Post e W (RC e) T θ2 s2 σ H2 (match (x.de s2).bind fun d => meD m d ds with
      | none => .bad
      | some (a, d') => match x.up s2 d' with
        | none => .bad
        | some s => .ok (.sh a) s) Q := p2
    cases q : (x.de s2).bind fun d => meD m d ds with
    | none => rw [q] at p2; exact p2.elim
    | some r =>
      obtain ⟨a', d'⟩ := r
      rw [q] at p2
      obtain ⟨d, hd, hm⟩ := opt_bind q
      have p2 : Post e W (RC e) T θ2 s2 σ H2 (match x.up s2 d' with
        | none => .bad
        | some s => .ok (.sh a') s) Q := p2
      cases hu : x.up s2 d' with
      | none => rw [hu] at p2; exact p2.elim
      | some s3 =>
        rw [hu] at p2
        obtain ⟨p, o, ep, ho, cn, nx⟩ := up_root st2.st (r1.on st2) hd hu
        refine ⟨Own T θ2 s2.sl σ, p, o, d, ds, a', d', ep, ho, cn, r2.2, hm, fun w o' hw hc => ?_⟩
        have stp := nx o' hc
        exact p2 w T θ2 _ stp ⟨rfl, w, rfl, Sh.keep stp.kp _ _ hw⟩
/-- what a method asks of the text -/
theorem attr_plain {o : Expr} {m : Str} {env : Env} {whole : Sem Value} (h : notCall o = true) : attributeBase o m env whole = whole := by
  unfold attributeBase
  cases o <;> first | rfl | cases h
theorem pb_meth (hK : X.K = e.g.K) {id : String} {m : Me} {name : Str} {o : Expr} {bo : Bn} {ex : Expr} {es : List Expr} {bs : List Bn} {apos : Pos} (slot : Slot "list" name id) (hty : typeOf (.builtin id) = pure (.type "method_descriptor")) (hm : MtR X id (RMt e.g m))
    (ho : PB e W X o bo) (hc : notCall o = true) (h : PBs e W X (ex :: es) bs) (hlen : (ex :: es).length < 29) (hline : (apos.endLine == pos.line) = true) : PB e W X (.Call (.Attribute o name apos) (ex :: es) [] pos) (.of (methF bo.p (dsOf bs) m)) := by
  have hp := plains h pos
  have hf := fews h pos
  cases h with
  | cons h1 h2 =>
    have h3 : PBs e W X (ex :: es) (_ :: _) := .cons h1 h2
    refine pb_of hK (pe_imp (pe_bm PySem.F.plainAttrs_list slot hty hm ho.pp (pa_ds h3) (attr_plain hc) ?_ hline (star_one h1.2) (plains h2 pos)) fun _ _ _ => imp_meth) fun _ => rfl
    rw [hf]
    simp only [keywordEach, backToKw, List.map_nil, List.all_nil, Bool.true_and, List.isEmpty_nil, List.length_nil, if_true, decide_eq_true_eq]
    simp only [List.length_cons] at hlen ⊢
    omega
theorem pb_meth0 (hK : X.K = e.g.K) {id : String} {m : Me} {name : Str} {o : Expr} {bo : Bn} {apos : Pos} (slot : Slot "list" name id) (hty : typeOf (.builtin id) = pure (.type "method_descriptor")) (hm : MtR X id (RMt e.g m))
    (ho : PB e W X o bo) (hc : notCall o = true) (hline : (apos.endLine == pos.line) = true) : PB e W X (.Call (.Attribute o name apos) [] [] pos) (.of (methF bo.p (dsOf []) m)) := by
  refine pb_of hK (pe_imp (pe_bm0 PySem.F.plainAttrs_list slot hty hm ho.pp (attr_plain hc) hline) fun σ H Q h => ?_) fun _ => rfl
  have h : TEv e W (methF bo.p (dsOf []) m) σ H Q := h
  obtain ⟨T, θ, s, st, p⟩ := imp_meth (K := X.K) h
  exact ⟨T, θ, s, st, p.mono fun v H1 q => ⟨q.1, imp_dn q.2⟩⟩
/-! ### list(range(n)), tuple(range(n)) -/
theorem rng_sh {g : G} {O : OP} {H : Hp} (n : Int) : Shs g O H (rngD 0 n) (rgV 0 n) := by
  unfold rngD rgV
  generalize List.range (n - 0).toNat = l
  induction l with
  | nil => rfl
  | cons x l ih => exact ⟨_, _, rfl, rfl, ih⟩
theorem inRng_of {i : Int} (h : inRng i = true) : -(2 ^ 62) ≤ i ∧ i < 2 ^ 62 := by
  unfold inRng at h
  simpa [Bool.and_eq_true] using h
theorem rgOk {n : Int} (h : (inRng n && decide (n ≤ 16777216)) = true) : RgOk 0 n := by
  rw [Bool.and_eq_true, decide_eq_true_eq] at h
  have := inRng_of h.1
  exact ⟨by omega, by omega, this.1, this.2, by omega⟩
theorem imp_one {fa : S → Out PV} {k : List D → Option C} {Q : VK} (h : TEv e W (fun s => (psOf [⟨fun _ => .bad, fun _ => .bad, fa⟩] s).bind fun xs s => Out.ofO s ((deAll s xs).bind k)) σ H Q) :
    TPv e W fa σ H (fun x H' => ∃ O d c, Lk e.g O H' d x ∧ k [d] = some c ∧ ∀ v H2, NV e.g O H' c v H2 → Q v H2) := by
  obtain ⟨T, θ, s, st, p⟩ := h
  have p : Post e W (RC e) T θ s σ H (((fa s).bind fun x s => (Out.ok [] s : Out (List PV)).bind fun xs s => .ok (x :: xs) s).bind fun xs s => Out.ofO s ((deAll s xs).bind k)) Q := p
  refine ⟨T, θ, s, st, ?_⟩
  revert p
  generalize fa s = r
  intro p
  cases r with
  | ok x s1 =>
    intro v T1 θ1 H1 st1 r1
    have e1 : T1 = T := RP.eq r1
    subst e1
    have p : Post e W (RC e) T1 θ s σ H (Out.ofO s1 ((deAll s1 [x]).bind k)) Q := p
    have p := p.shift st1
    obtain ⟨c, hc, p2⟩ := p.ofO
    obtain ⟨ds, hd, hc⟩ := opt_bind hc
    have hd : (match x.de s1 with | none => none | some d => (deAll s1 []).map (d :: ·)) = some ds := hd
    cases q : x.de s1 with
    | none => rw [q] at hd; cases hd
    | some d =>
      rw [q] at hd
      cases hd
      exact ⟨Own T1 θ1 s1.sl σ, d, c, r1.de st1.st q, hc, fun w H2 n => p2.nv st1.st n⟩
  | exc k fs s' => exact p
  | bad => exact p
theorem ps_one {ba : Bn} : (fun s => psOf [ba] s) = fun s => psOf [⟨fun _ => .bad, fun _ => .bad, ba.p⟩] s := rfl
theorem pb_listR (hK : X.K = e.g.K) (hcalm : X.calm = true) {p p2 pos2 : Pos} {ba : Bn} (hg : Gl X "list") (hm : X.mg "list" = none) (hg2 : Gl X "range") (hm2 : X.mg "range" = none) (ha : PB e W X a ba) (hs : notStar a = true) :
    PB e W X (.Call (.Name "list" p) [.Call (.Name "range" p2) [a] [] pos2] [] pos) (.of fun s => (psOf [ba] s).bind fun xs s => Out.ofO s ((deAll s xs).bind fun ds => biD .listR ds)) := by
  refine pb_of hK (pe_imp (pe_listRg hcalm hg hm (prg_1 hg2 hm2 ha.pp (star_one hs))) fun σ H Q h => ?_) fun _ => rfl
  obtain ⟨T, θ, s, st, q⟩ := imp_one (fa := ba.p) h
  refine ⟨T, θ, s, st, q.mono fun v H' ⟨O, d, c, lx, hk, nx⟩ => ?_⟩
  cases d with
  | int n =>
    have hk : (if (inRng n && decide (n ≤ 16777216)) = true then some (C.ow (.lst (rngD 0 n))) else none) = some c := hk
    split at hk
    case isTrue hl => cases hk; exact ⟨n, lx.int, rgOk hl, fun p hp => nx _ _ (.lst hp (rng_sh n))⟩
    case isFalse => cases hk
  | _ => exact nomatch (hk : none = some c)
theorem pb_tupR (hK : X.K = e.g.K) (hcalm : X.calm = true) {p p2 pos2 : Pos} {ba : Bn} (hg : Gl X "tuple") (hm : X.mg "tuple" = none) (hg2 : Gl X "range") (hm2 : X.mg "range" = none) (ha : PB e W X a ba) (hs : notStar a = true) :
    PB e W X (.Call (.Name "tuple" p) [.Call (.Name "range" p2) [a] [] pos2] [] pos) (.of fun s => (psOf [ba] s).bind fun xs s => Out.ofO s ((deAll s xs).bind fun ds => biD .tupR ds)) := by
  refine pb_of hK (pe_imp (pe_tupRgF hcalm hg hm (prg_1 hg2 hm2 ha.pp (star_one hs))) fun σ H Q h => ?_) fun _ => rfl
  obtain ⟨T, θ, s, st, q⟩ := imp_one (fa := ba.p) h
  refine ⟨T, θ, s, st, q.mono fun v H' ⟨O, d, c, lx, hk, nx⟩ => ?_⟩
  cases d with
  | int n =>
    have hk : (if (inRng n && decide (n ≤ 16777216)) = true then some (C.sh (.tup (rngD 0 n))) else none) = some c := hk
    split at hk
    case isTrue hl => cases hk; exact ⟨n, lx.int, rgOk hl, fun p o hp ho => nx _ _ (.tup hp ho (rng_sh n))⟩
    case isFalse => cases hk
  | _ => exact nomatch (hk : none = some c)
/-! ### a[::-1] -/
def revD (d : D) : Option C := match d with
  | .lst xs => some (.ow (.lst xs.reverse))
  | .tup xs => some (.sh (.tup xs.reverse))
  | _ => none
theorem pe_back {t : TE} {k : Nat} {p1 p2 p3 : Pos} (hK : X.K = e.g.K) (he : PE X a t) :
    PE X (.Subscript a (.Slice none none (some (.UnaryOp .USub (.Constant (.int 1) k p1) p2)) p3) pos) (tUn (R1v e.g revD) t) := by
  have three : PO X (some (.UnaryOp .USub (.Constant (.int 1) k p1) p2)) (tPart (tUn (rU fun i => .int (-i)) (tC (.int 1)))) := po_some (pe_un un_neg pe_int)
  refine ⟨fun pins s σ H Q I h => Subscript_ (thn (he.run pins s σ H _ I h) fun v s1 ⟨x, H1, I1, r1, O, d, c, lx, ef, q⟩ => ?_)⟩
  refine wpAny_Slice (thn (po_none.run pins s1 σ H1 (fun o H2 => o = none ∧ H2 = H1) I1 ⟨rfl, rfl⟩) fun vl s2 ⟨l, H2, I2, pl, el, e2⟩ =>
    thn (po_none.run pins s2 σ H2 (fun o H3 => o = none ∧ H3 = H2) I2 ⟨rfl, rfl⟩) fun vu s3 ⟨u, H3, I3, pu, eu, e3⟩ =>
      thn (three.run pins s3 σ H3 (fun o H4 => o = some (-1) ∧ H4 = H3) I3 ⟨1, rfl, -1, rfl, rfl, rfl⟩) fun vs s4 ⟨o, H4, I4, ps, eo, e4⟩ => ?_)
  subst el e2 eu e3 eo e4
  have I5 : Inv X pins σ H4 { s4 with heap := s4.heap.push { cls := .type "slice", data := .fields #[vl, vu, vs] } } := I4.kept (t' := s4.toks) fun b ob q => Heap.get?_push_of_some _ q
  show wpAny (model X.prog X.w) X.A (subscriptTail a (.Slice none none (some (.UnaryOp .USub (.Constant (.int 1) k p1) p2)) p3) v (.ref s4.heap.objs.size)) (EP X pins σ Q) X.xe
    { s4 with heap := s4.heap.push { cls := .type "slice", data := .fields #[vl, vu, vs] } }
  have isl : Heap.IsSliceOf (s4.heap.push { cls := .type "slice", data := .fields #[vl, vu, vs] }) s4.heap.objs.size vl vu vs := Heap.IsSliceOf.new _ vl vu vs
  cases d with
  | lst ds =>
    cases ef
    obtain ⟨p, xs, rfl, h1, rs⟩ := lx.lst
    cases r1
    obtain ⟨its, rv, ht, hz⟩ := I5.list (.of h1)
    have hlen := rv.length
    refine tail_any (ops := [.ref p, .ref s4.heap.objs.size]) ht.isList.typeIs PySem.slot_list_getitem.lookup (wpAny_getItem_list_slice ht.isList isl pl pu ps (by decide) ?_ (by rw [List.size_toArray]; omega)) (by with_unfolding_all rfl)
    rw [PySem.W.krv_pick]
    have nw : ObjOk X.prog X.w (upd H4 (s4.heap.push { cls := .type "slice", data := .fields #[vl, vu, vs] }).objs.size (.lst xs.reverse)) (Heap.push (s4.heap.push { cls := .type "slice", data := .fields #[vl, vu, vs] }) { cls := .type "list", data := .seq its.toArray.toList.reverse.toArray }) (s4.heap.push { cls := .type "slice", data := .fields #[vl, vu, vs] }).objs.size (.lst xs.reverse) :=
      ⟨by rw [List.length_reverse]; exact hz, _, 0, rv.reverse, Heap.get?_push_size _ rfl⟩
    exact ⟨.ref _, _, I5.laid (t' := s4.toks) (fun b ob q => Heap.get?_push_of_some _ q) (Nat.le_refl _) nw, rfl, q _ _ (.lst (I5.hok.fresh (Nat.le_refl _)) rs.rev)⟩
  | tup ds =>
    cases ef
    obtain ⟨p, xs, rfl, h1, rs⟩ := lx.tup
    cases r1
    obtain ⟨its, rv, ht, hz⟩ := I5.tuple (hK ▸ h1.sq)
    have hlen := rv.length
    refine tail_any (ops := [.ref p, .ref s4.heap.objs.size]) ht.typeIs PyProof.Rows.slot_tuple_getitem.lookup (item_back ht isl pl pu ps ?_ (by rw [List.size_toArray]; omega)) (by with_unfolding_all rfl)
    have z := epT (t' := s4.toks) I5 rv.reverse (by rw [List.length_reverse]; exact hz) (Q := Q) fun p o hp ho => q _ _ (.tup hp ho rs.rev)
    simpa using z
  | _ => exact nomatch (ef : none = some c)
theorem pb_rev (hK : X.K = e.g.K) {ba : Bn} {k : Nat} {p1 p2 p3 : Pos} (ha : PB e W X a ba) : PB e W X (.Subscript a (.Slice none none (some (.UnaryOp .USub (.Constant (.int 1) k p1) p2)) p3) pos) (.of fun s => (ba.p s).bind fun x s => Out.ofO s ((x.de s).bind fun d => match d with
    | .lst xs => some (.ow (.lst xs.reverse))
    | .tup xs => some (.sh (.tup xs.reverse))
    | _ => none)) := pb_of hK (pe_imp (pe_back hK ha.pp) fun _ _ _ => imp1) fun _ => rfl
end
end VM

set_option linter.all false
set_option maxRecDepth 100000
/-! VML: methods that only look, by what the receiver is. -/
namespace VM
open PySem PySem.Spec PyProof.Rows L2
/-- what is called there -/
structure MethAt (X : Cx) (name : Str) (T id : String) (x : V) (H : Hp) : Prop where
  pa : PlainAttrs T
  slot : Slot T name id
  ty : typeOf (.builtin id) = pure (.type "method_descriptor")
  at_ : ∀ (pins : List (Addr × Obj)) (σ : L2.St) (s : Shared) (v : Value), Inv X pins σ H s → RelV x v → s.TypeIs v T ∧ ∀ a, v = .ref a → ∃ ob, s.heap.get? a = some ob ∧ ob.dict = none
abbrev RM := V → List V → Hp → VK → Prop
section
variable {X : Cx} {o e : Expr} {es : List Expr} {to : TE} {t : TA} {name : Str} {apos cpos : Pos}
theorem pe_bmX (ho : PE X o to) (ha : PA X (e :: es) t) (hbase : attributeBase o name X.env (eval o X.env) = eval o X.env)
    (hfew : ((backTo cpos (starEach (e :: es) X.env)).all (fun x => !x.1) && (backToKw cpos (keywordEach [] X.env)).all (fun x => x.1.isSome)
      && decide ((e :: es).length + ([] : List Keyword).length + (if ([] : List Keyword).isEmpty then 0 else 1) < 30)) = true)
    (hline : (apos.endLine == cpos.line) = true) (hs : starEach (e :: es) X.env = (false, eval e X.env) :: starEach es X.env) (hplain : (backTo cpos (starEach es X.env)).any (·.1) = false) :
    PE X (.Call (.Attribute o name apos) (e :: es) [] cpos) (fun σ H Q => to σ H fun x H1 => ∃ (T id : String) (r : RM), MethAt X name T id x H1 ∧ MtR X id r ∧ t σ H1 fun vs H2 => r x vs H2 Q) := by
  refine ⟨fun pins s σ H Q I h => ?_⟩
  refine wpAny_Call_method_late hbase hfew hline rfl (thn (ho.run pins s σ H _ I h) fun v s1 ⟨x, H1, I1, r1, T, id, r, ma, hm, q1⟩ => ?_)
  obtain ⟨h1, h2⟩ := ma.at_ pins σ s1 v I1 r1
  refine ⟨T, id, ma.pa, ma.slot, ma.ty, h1, h2, ?_⟩
  have hA := ha.run cpos pins s1 σ H1 _ I1 q1
  rw [hs] at hA ⊢
  refine Calls.callWith_builtin (by show (false || (backTo cpos (starEach es X.env)).any (·.1)) = false; rw [hplain] <;> rfl) (Calls.evalArgs_plain ?_)
  exact thn hA fun us s2 ⟨vs, H2, I2, r2, q2⟩ => hm pins s2 σ H2 x vs v us Q I2 r1 r2 q2
end
section
variable {X : Cx} {g : G} {O : OP} {H : Hp}
/-! ### what a receiver is -/
theorem at_lst {a : Addr} {vs : List V} (h : SqL X.K H a vs) : ∀ (pins : List (Addr × Obj)) (σ : L2.St) (s : Shared) (v : Value), Inv X pins σ H s → RelV (.ref a) v → s.TypeIs v "list" ∧ ∀ b, v = .ref b → ∃ ob, s.heap.get? b = some ob ∧ ob.dict = none := fun pins σ s v I r => by
  cases r
  obtain ⟨its, rv, ⟨o, n, ho, hc, hdn, hd⟩, _⟩ := I.list h
  exact ⟨⟨o, ho, hc⟩, fun b e => by cases e; exact ⟨o, ho, hdn⟩⟩
theorem at_tup (hK : X.K = g.K) {a : Addr} {vs : List V} (h : TupAt g.K O H a vs) : ∀ (pins : List (Addr × Obj)) (σ : L2.St) (s : Shared) (v : Value), Inv X pins σ H s → RelV (.ref a) v → s.TypeIs v "tuple" ∧ ∀ b, v = .ref b → ∃ ob, s.heap.get? b = some ob ∧ ob.dict = none := fun pins σ s v I r => by
  cases r
  rcases h with ⟨o, e, _, hd⟩ | ⟨o, its, n, e, hc, hd, _⟩
  · obtain ⟨h1, _, us, _, o2, h2, h3, _⟩ := I.hok a _ e
    rw [h1] at h2
    cases h2
    exact ⟨⟨o, h1, h3⟩, fun b e => by cases e; exact ⟨o, h1, hd⟩⟩
  · have h1 := I.kIn _ _ (hK ▸ e)
    exact ⟨⟨o, h1, hc⟩, fun b e => by cases e; exact ⟨o, h1, hd⟩⟩
theorem at_dK {a : Addr} {kvs : List (Key × V)} (h : Rd H a (.dK kvs)) : ∀ (pins : List (Addr × Obj)) (σ : L2.St) (s : Shared) (v : Value), Inv X pins σ H s → RelV (.ref a) v → s.TypeIs v "dict" ∧ ∀ b, v = .ref b → ∃ ob, s.heap.get? b = some ob ∧ ob.dict = none := fun pins σ s v I r => by
  cases r
  obtain ⟨_, _, vs, _, dd⟩ := dk_rd I.hok h
  obtain ⟨ob, _, _, h1, h2, _⟩ := id dd
  exact ⟨dd.typeIs, fun b e => by cases e; exact ⟨ob, h1, h2.2.1⟩⟩
theorem at_dN (gx : GX X g) {a : Addr} {es : List (NestedKey × Addr × Value)} {ds : List (NestedKey × D)} (h : DicAt g H a es) (r : ShN g O H ds es) : ∀ (pins : List (Addr × Obj)) (σ : L2.St) (s : Shared) (v : Value), Inv X pins σ H s → RelV (.ref a) v → s.TypeIs v "dict" ∧ ∀ b, v = .ref b → ∃ ob, s.heap.get? b = some ob ∧ ob.dict = none := fun pins σ s v I rv => by
  cases rv
  obtain ⟨dd, _, _⟩ := dic_of gx I h r
  obtain ⟨ob, _, _, h1, h2, _⟩ := id dd
  exact ⟨dd.typeIs, fun b e => by cases e; exact ⟨ob, h1, h2.2.1⟩⟩
/-! ### what is told -/
def rLm (g : G) (m : Lm) (t : Nat) : RM := fun x us H Q => ∃ O d as c, Lk g O H d x ∧ tag d = t ∧ Shs g O H as us ∧ lmD m d as = some c ∧ ∀ v H', NV g O H c v H' → Q v H'
theorem ite_some {α : Type} {b : Bool} {o : Option α} {a : α} (h : (if b = true then o else none) = some a) : b = true ∧ o = some a := by
  cases b with
  | false => cases h
  | true => exact ⟨rfl, h⟩
theorem cntL_of {ds as : List D} {c : C} (h : cntL ds as = some c) : ∃ a p qs, as = [a] ∧ toP a = some p ∧ toPs ds = some qs ∧ PyData.plainAll qs = true ∧ p.plain = true ∧ PyData.depthAll qs ≤ 60 ∧ c = .sh (.int ((qs.countP fun y => PyData.eqv y p : Nat) : Int)) := by
  unfold cntL at h
  split at h
  case h_2 => cases h
  case h_1 a =>
    split at h
    case h_2 => cases h
    case h_1 p qs e1 e2 =>
      obtain ⟨hb, hc⟩ := ite_some h
      simp only [Bool.and_eq_true, decide_eq_true_eq] at hb
      exact ⟨a, p, qs, rfl, e1, e2, hb.1.1, hb.1.2, hb.2, (Option.some.inj hc).symm⟩
theorem tag1 {d : D} (h : tag d = 1) : ∃ ds, d = .lst ds := by cases d <;> first | exact ⟨_, rfl⟩ | cases h
theorem tag2 {d : D} (h : tag d = 2) : ∃ ds, d = .tup ds := by cases d <;> first | exact ⟨_, rfl⟩ | cases h
theorem tag3 {d : D} (h : tag d = 3) : (∃ ds, d = .dK ds) ∨ ∃ ds, d = .dN ds := by cases d <;> first | exact .inl ⟨_, rfl⟩ | exact .inr ⟨_, rfl⟩ | cases h
theorem mt_cnt1 (hK : X.K = g.K) (hu : X.A.units + 100 < cLine) : MtR X "list.count" (rLm g .count 1) := by
  intro pins s σ H x xs v us Q I rx rxs ⟨O, d, as, c, lx, ht, ha, hl, q⟩
  obtain ⟨ds, rfl⟩ := tag1 ht
  obtain ⟨a, p, qs, rfl, g1, g2, g3, g4, g5, rfl⟩ := cntL_of (show cntL ds as = some c from hl)
  obtain ⟨b, vs, rfl, hb, hs⟩ := lx.lst
  obtain ⟨v0, rfl, ha1⟩ := ha.one'
  cases rx
  obtain ⟨u, rfl, ru⟩ := rxs.one
  obtain ⟨its, rv, ⟨o, n, ho, hc, hdn, hd⟩, _⟩ := I.list (.of hb)
  obtain ⟨as1, r1⟩ := Dp.readsAll I qs vs its (hK ▸ Shs.dp _ _ _ hs g2) rv
  obtain ⟨bs, r2⟩ := Dp.reads I p v0 u (hK ▸ Sh.dp _ _ _ ha1 g1) ru
  exact SeqAt.count_list_data (vs := its.toArray) ⟨o, ho, hc, n, hd⟩ (by simpa using r1) r2 g3 g4 (by omega) ⟨.int ((qs.countP fun y => PyData.eqv y p : Nat) : Int), H, I.tok _, ⟨s.toks, rfl⟩, q _ _ (.sh rfl)⟩
theorem mt_cnt2 (hK : X.K = g.K) (hu : X.A.units + 100 < cLine) : MtR X "tuple.count" (rLm g .count 2) := by
  intro pins s σ H x xs v us Q I rx rxs ⟨O, d, as, c, lx, ht, ha, hl, q⟩
  obtain ⟨ds, rfl⟩ := tag2 ht
  obtain ⟨a, p, qs, rfl, g1, g2, g3, g4, g5, rfl⟩ := cntL_of (show cntL ds as = some c from hl)
  obtain ⟨b, vs, rfl, hb, hs⟩ := lx.tup
  obtain ⟨v0, rfl, ha1⟩ := ha.one'
  cases rx
  obtain ⟨u, rfl, ru⟩ := rxs.one
  obtain ⟨its, rv, tt, _⟩ := I.tuple (hK ▸ hb.sq)
  obtain ⟨as1, r1⟩ := Dp.readsAll I qs vs its (hK ▸ Shs.dp _ _ _ hs g2) rv
  obtain ⟨bs, r2⟩ := Dp.reads I p v0 u (hK ▸ Sh.dp _ _ _ ha1 g1) ru
  exact SeqAt.count_tuple_data (vs := its.toArray) tt (by simpa using r1) r2 g3 g4 (by omega) ⟨.int ((qs.countP fun y => PyData.eqv y p : Nat) : Int), H, I.tok _, ⟨s.toks, rfl⟩, q _ _ (.sh rfl)⟩
theorem Shs.two' {O : OP} {d d2 : D} {us : List V} (h : Shs g O H [d, d2] us) : ∃ v v2, us = [v, v2] ∧ Sh g O H d v ∧ Sh g O H d2 v2 := by
  obtain ⟨v, r, e, h, v2, r2, e2, h2, hr⟩ := h
  cases hr
  subst e2
  exact ⟨v, v2, e, h, h2⟩
/-- what a dict has at a key, or another thing -/
theorem mt_get (gx : GX X g) (hu : X.A.units + 100 < cLine) : MtR X "dict.get" (rLm g .get 3) := by
  intro pins s σ H x xs v us Q I rx rxs ⟨O, d, as, c, lx, ht, ha, hl, q⟩
  have hl : getL d as = some c := hl
  -- the key, and what is told if it is not there
  have key : ∀ (k : D) (y : V) (u : Value) (dd : D) (z : V) (zu : Value), Sh g O H k y → RelV y u → Sh g O H dd z → RelV z zu → (∀ o, dictGet d k = some o → some (C.sh (o.getD dd)) = some c) → (dictGet d k).isSome = true →
      (∀ Q2 : Value → Shared → Prop, (∀ w' s', Inv X pins σ H s' → (∃ vv, RelV vv w' ∧ Q vv H) → Q2 w' s') →
        (∀ (A : Around) (E : Value → Shared → Prop), A = X.A → wpAny (model X.prog X.w) A (call (.builtin "dict.get") [v, u, zu]) Q2 E s) ∧ (dd = .non → ∀ (A : Around) (E : Value → Shared → Prop), A = X.A → wpAny (model X.prog X.w) A (call (.builtin "dict.get") [v, u]) Q2 E s)) := by
    intro k y u dd z zu hk ru hz rz hc hsome Q2 h2
    rcases tag3 ht with ⟨ds, rfl⟩ | ⟨ds, rfl⟩
    · cases e1 : dictGet (.dK ds) k with
      | none => rw [e1] at hsome; cases hsome
      | some o =>
        have hc := hc o e1
        obtain ⟨a, r, rfl, dg, ho⟩ := vm_get lx (.inl hk) e1
        cases rx
        refine ⟨fun A E eA => ?_, fun en A E eA => ?_⟩
        · subst eA
          refine d_get2 (by omega) I dg ru rz fun w' s' I' rw' => h2 w' s' I' ⟨_, rw', ?_⟩
          cases hc
          rcases ho with ⟨rfl, rfl⟩ | ⟨d1, v1, rfl, rfl, hs⟩
          · exact q _ _ (.sh hz)
          · exact q _ _ (.sh hs)
        · subst eA en
          refine d_get1 (by omega) I dg ru fun w' s' I' rw' => h2 w' s' I' ⟨_, rw', ?_⟩
          cases hc
          rcases ho with ⟨rfl, rfl⟩ | ⟨d1, v1, rfl, rfl, hs⟩
          · exact q _ _ (.sh rfl)
          · exact q _ _ (.sh hs)
    · have e0 : dictGet (.dN ds) k = (keyT k).map (valD ds) := rfl
      cases e1 : keyT k with
      | none => rw [e0, e1] at hsome; cases hsome
      | some kk =>
        have hc := hc (valD ds kk) (by rw [e0, e1]; rfl)
        obtain ⟨a, es, rfl, hda, hr⟩ := lx.dN
        obtain ⟨b, rfl, kb⟩ := keyT_v (.inl hk) e1
        cases ru
        cases rx
        obtain ⟨hm, hd, _⟩ := dic_of gx I hda hr
        have hm' : s.heap.DictKeyed (nestedKind X.prog X.w) a (pairsH es) := ⟨es, hm, rfl⟩
        refine ⟨fun A E eA => ?_, fun en A E eA => ?_⟩
        · subst eA
          refine getOr_keyed (nroom hu) (kb.is gx I) hd hm' (h2 _ _ (I.tok _) ?_)
          rw [valueAt_pairsH]
          cases hc
          rcases hr.val (k := kk) with ⟨z1, z2⟩ | ⟨d1, b1, u1, v1, e1, e2, e3, e4⟩
          · rw [z2]; exact ⟨z, rz, q _ _ (by rw [z1]; exact .sh hz)⟩
          · rw [e2]; exact ⟨v1, e3, q _ _ (by rw [e1]; exact .sh e4)⟩
        · subst eA en
          refine get_keyed (nroom hu) (kb.is gx I) hd hm' (h2 _ _ (I.tok _) ?_)
          rw [valueAt_pairsH]
          cases hc
          rcases hr.val (k := kk) with ⟨z1, z2⟩ | ⟨d1, b1, u1, v1, e1, e2, e3, e4⟩
          · rw [z2]; exact ⟨.non, rfl, q _ _ (by rw [z1]; exact .sh rfl)⟩
          · rw [e2]; exact ⟨v1, e3, q _ _ (by rw [e1]; exact .sh e4)⟩
  match as, hl with
  | [k], hl =>
    obtain ⟨y, rfl, hk⟩ := ha.one'
    obtain ⟨u, rfl, ru⟩ := rxs.one
    obtain ⟨o, h1, h2⟩ := map_of (show (dictGet d k).map (fun o => C.sh (o.getD .non)) = some c from hl)
    exact (key k y u .non .non .none hk ru rfl rfl (fun o' ho' => by rw [h1] at ho'; cases ho'; rw [h2]) (by rw [h1]; rfl) _ fun w' s' I' ⟨vv, r1, q1⟩ => ⟨vv, H, I', r1, q1⟩).2 rfl _ _ rfl
  | [k, x2], hl =>
    obtain ⟨y, z, rfl, hk, hz⟩ := Shs.two' ha
    cases rxs with
    | cons ru rr =>
      cases rr with
      | cons rz rr =>
        cases rr
        obtain ⟨o, h1, h2⟩ := map_of (show (dictGet d k).map (fun o => C.sh (o.getD x2)) = some c from hl)
        exact (key k y _ x2 z _ hk ru hz rz (fun o' ho' => by rw [h1] at ho'; cases ho'; rw [h2]) (by rw [h1]; rfl) _ fun w' s' I' ⟨vv, r1, q1⟩ => ⟨vv, H, I', r1, q1⟩).1 _ _ rfl
end
section
variable {e : Env2} {W : WX} {X : Cx} {o a : Expr} {pos : Pos} {σ : L2.St} {H : Hp}
def Lm.nm : Lm → Str
  | .count => "count" | .get => "get"
/-- the method of a receiver -/
theorem meth_at (gx : GX X e.g) (hu : X.A.units + 100 < cLine) {O : OP} {m : Lm} {d : D} {x : V} (h : hasM m (tag d) = true) (lx : Lk e.g O H d x) : ∃ T id, MethAt X m.nm T id x H ∧ MtR X id (rLm e.g m (tag d)) := by
  cases m with
  | count =>
    have h : (tag d == 1 || tag d == 2) = true := h
    rcases Bool.or_eq_true _ _ ▸ h with h | h
    · have h := eq_of_beq h
      obtain ⟨ds, rfl⟩ := tag1 h
      obtain ⟨a, vs, rfl, ha, _⟩ := lx.lst
      exact ⟨"list", "list.count", ⟨PySem.F.plainAttrs_list, PySem.F.slot_list_count, PySem.F.type_list_count, at_lst (.of ha)⟩, mt_cnt1 gx.K hu⟩
    · have h := eq_of_beq h
      obtain ⟨ds, rfl⟩ := tag2 h
      obtain ⟨a, vs, rfl, ha, _⟩ := lx.tup
      exact ⟨"tuple", "tuple.count", ⟨PySem.F.plainAttrs_tuple, PySem.F.slot_tuple_count, PySem.F.type_tuple_count, at_tup gx.K ha⟩, mt_cnt2 gx.K hu⟩
  | get =>
    have h : (tag d == 3) = true := h
    have h := eq_of_beq h
    rw [h]
    rcases tag3 h with ⟨ds, rfl⟩ | ⟨ds, rfl⟩
    · obtain ⟨a, vs, rfl, ha, _⟩ := lx.dK
      exact ⟨"dict", "dict.get", ⟨PySem.F.plainAttrs_dict, PySem.F.slot_dict_get, PySem.F.type_dict_get, at_dK ha⟩, mt_get gx hu⟩
    · obtain ⟨a, vs, rfl, ha, r⟩ := lx.dN
      exact ⟨"dict", "dict.get", ⟨PySem.F.plainAttrs_dict, PySem.F.slot_dict_get, PySem.F.type_dict_get, at_dN gx ha r⟩, mt_get gx hu⟩
theorem imp_lm (gx : GX X e.g) (hu : X.A.units + 100 < cLine) {m : Lm} {fo : S → Out PV} {fs : S → Out (List D)} {Q : VK} (h : TEv e W (lmF m fo fs) σ H Q) :
    TPv e W fo σ H (fun x H1 => ∃ (T id : String) (r : RM), MethAt X m.nm T id x H1 ∧ MtR X id r ∧ TDs e W fs σ H1 fun vs H2 => r x vs H2 Q) := by
  obtain ⟨T, θ, s, st, p⟩ := h
  refine ⟨T, θ, s, st, Post.bindS (R1 := RP e) p RP.eq fun x s1 v θ1 H1 st1 r1 p1 => ?_⟩
  cases hh : hasM m (tagO (x.de s1)) with
  | false => rw [hh] at p1; exact p1.elim
  | true =>
    rw [hh] at p1
    cases hx : x.de s1 with
    | none => rw [hx] at hh; cases m <;> cases hh
    | some d =>
      rw [hx] at hh p1
      obtain ⟨TT, id, ma, mt⟩ := meth_at gx hu hh (r1.de st1.st hx)
      refine ⟨TT, id, _, ma, mt, T, θ1, s1, st1.st, Post.bindS (R1 := RDs e) p1 RDs.eq fun as s2 us θ2 H2 st2 r2 p2 => ?_⟩
      obtain ⟨c, hc, p3⟩ := p2.ofO
      obtain ⟨d2, h2, h3⟩ := opt_bind hc
      obtain ⟨h4, h5⟩ := ite_some h3
      exact ⟨_, d2, as, c, (r1.on st2).de st2.st h2, eq_of_beq h4, r2.2, h5, fun v H' nv => p3.nv st2.st nv⟩
theorem pb_lm (gx : GX X e.g) (hu : X.A.units + 100 < cLine) {m : Lm} {name : Str} (hn : name = m.nm) {bo : Bn} {es : List Expr} {bs : List Bn} {apos : Pos} (ho : PB e W X o bo) (hc : notCall o = true) (h : PBs e W X (a :: es) bs) (hlen : es.length < 20) (hline : (apos.endLine == pos.line) = true) :
    PB e W X (.Call (.Attribute o name apos) (a :: es) [] pos) (.of (lmF m bo.p (dsOf bs))) := by
  have hf := fews h pos
  have h3 := h
  cases h with
  | cons h1 h2 =>
    refine pb_of gx.K (pe_imp (pe_bmX ho.pp (pa_ds h3) (attr_plain hc) ?_ hline (star_one h1.2) (plains h2 pos)) fun _ _ _ h => by rw [hn]; exact imp_lm gx hu h) fun _ => rfl
    rw [hf]
    simp only [keywordEach, backToKw, List.map_nil, List.all_nil, Bool.true_and, List.isEmpty_nil, List.length_nil, if_true, decide_eq_true_eq, List.length_cons]
    omega
end
end VM

set_option linter.all false
set_option maxRecDepth 100000
/-! VM15: what hangs in the air; displays of dicts. -/
namespace VM
open PySem PySem.Spec PyProof.Rows L2
section
variable {e : Env2} {W : WX} {X : Cx} {ex a b c : Expr} {pos : Pos} {α β : Type} {R : Rl α β} {T T' : AP1} {θ θ' : List Addr} {s s' : S} {σ : L2.St} {H H' : Hp} {d d' : D} {v : V} {p : Addr}
theorem Stp.air (R : StR e T θ s σ H) (hp : H p = none) (o : HO) (ho : isRt o := by exact True.intro) : Stp e T θ s (And1 T p) θ s σ H (upd H p o) := by
  obtain ⟨R', k, nT⟩ := R.air hp o ho
  exact ⟨R', fun _ _ z => z, k, fun _ z => .inl z, fun a z => upd_ne fun y => R.trn z (y ▸ hp)⟩
/-- what is in the air is changed -/
theorem StR.mutT (R : StR e T θ s σ H) (hT : T p) {o0 : HO} (h0 : H p = some o0) (n1 : ¬ isTbl o0) (n2 : notCode o0) (o : HO) (ho : isRt o) : StR e T θ s σ (upd H p o) ∧ Kp (Own T θ s.sl σ) H (Own T θ s.sl σ) (upd H p o) := by
  have k : Kp (Own T θ s.sl σ) H (Own T θ s.sl σ) (upd H p o) := Kp.own (ownT hT) o
  refine ⟨⟨R.len, fun j c hj => ?_, R.hlen, fun n x q h1 h2 => ?_, R.nd, R.sep, R.inj, R.hT, fun a z => ?_, tabs_upd R.tb h0 n1 n2⟩, k⟩
  · have z := R.slot j c hj
    by_cases ho : ∃ d, c = .ow d
    · obtain ⟨x, rfl⟩ := ho
      obtain ⟨pp, e1, r'⟩ := z
      exact ⟨pp, e1, r'.keep k (upd_ne fun y => (R.sep j pp ⟨x, hj, slotV e1⟩).1 (y ▸ hT))⟩
    · exact SlotOk.keep k (fun _ _ z => z) (fun d y => ho ⟨d, y⟩) z
  · exact (R.hnd n x q h1 h2).keep k (upd_ne fun y => R.hT q (List.mem_of_getElem? h2) (y ▸ hT))
  · by_cases y : a = p
    · exact ⟨o, by rw [y, upd_same], ho⟩
    · rw [upd_ne y]; exact R.tr a z
/-- what hung in the air beside is let go -/
theorem Stp.undo (R : StR e T θ s σ H) (hp : H p = none) {o : HO} (ho : isRt o) (a : Stp e (And1 T p) θ s (And1 T p) θ' s' σ (upd H p o) H') : Stp e T θ s T θ' s' σ H H' := by
  have nT : ¬ T p := fun z => R.trn z hp
  obtain ⟨R2, k2, _⟩ := a.st.drop nT
  obtain ⟨_, k1, _⟩ := R.air hp o ho
  exact ⟨R2, a.pf, (k1.trans a.kp).trans k2, fun _ z => z, fun c z => (a.tk c (.inl z)).trans (upd_ne fun y => nT (y ▸ z))⟩
/-- a value that was shared beside what hung in the air is shared -/
theorem Stp.undoK (a : StR e (And1 T p) θ' s' σ H') : ∀ x, Own T θ' s'.sl σ x → Own (And1 T p) θ' s'.sl σ x := fun x z => z.elim (fun z => .inl (.inl z)) .inr
/-! ### {'a': x, ..} -/
def pairT (e : Env2) (W : WX) : List Str → List Bn → List (TE × TE)
  | k :: ks, b :: bs => (tC (.str k), TDv e W b.d) :: pairT e W ks bs
  | _, _ => []
theorem imp_pairs : ∀ {ks : List Str} {bs : List Bn} {T : AP1} {θ : List Addr} {s : S} {H : Hp} {Q : List V → Hp → Prop}, ks.length = bs.length → StR e T θ s σ H → Post e W (RDs e) T θ s σ H (dsOf bs s) Q →
    tPairs (pairT e W ks bs) σ H fun ps H2 => ∃ vs, vs.length = ks.length ∧ ps = (ks.zip vs).map (fun p => (V.str p.1, p.2)) ∧ Q vs H2
  | [], [], T, θ, s, H, Q, hl, st, p => ⟨[], rfl, rfl, p [] T θ H (Stp.refl st) ⟨rfl, rfl⟩⟩
  | k :: ks, b :: bs, T, θ, s, H, Q, hl, st, p => by
    have p : Post e W (RDs e) T θ s σ H ((b.d s).bind fun x s => (dsOf bs s).bind fun xs s => .ok (x :: xs) s) Q := p
    refine ⟨T, θ, s, st, p.bindS RD.eq fun x s1 v θ1 H1 st1 r1 p1 => ?_⟩
    have p2 : Post e W (RDs e) T θ1 s1 σ H1 (dsOf bs s1) (fun vs H' => Q (v :: vs) H') := by
      refine p1.bindS RDs.eq fun xs s2 vs θ2 H2 st2 r2 p2 => ?_
      exact p2 (v :: vs) T θ2 H2 (Stp.refl st2.st) ⟨rfl, v, vs, rfl, (r1.on st2).2, r2.2⟩
    have ih := imp_pairs (ks := ks) (Nat.succ.inj hl) st1.st p2
    refine tPairs_mono ih fun ps H2 ⟨vs, hv, ep, q⟩ => ⟨v :: vs, by simp [hv], by rw [ep]; rfl, q⟩
  | [], _ :: _, _, _, _, _, _, hl, _, _ => by cases hl
  | _ :: _, [], _, _, _, _, _, hl, _, _ => by cases hl
where tPairs_mono {σ : L2.St} : ∀ {ks : List Str} {bs : List Bn} {H : Hp} {Q Q' : List (V × V) → Hp → Prop}, tPairs (pairT e W ks bs) σ H Q → (∀ ps H, Q ps H → Q' ps H) → tPairs (pairT e W ks bs) σ H Q'
  | [], _, H, Q, Q', h, m => m _ _ h
  | _ :: _, [], H, Q, Q', h, m => m _ _ h
  | k :: ks, b :: bs, H, Q, Q', h, m => by
    obtain ⟨T, θ, s, st, p⟩ := h
    exact ⟨T, θ, s, st, p.mono fun y H2 h2 => tPairs_mono h2 fun ps H3 h3 => m _ _ h3⟩
theorem ShK.merge {g : G} {O : OP} {H : Hp} : ∀ {ks : List Str} {ds : List D} {vs : List V} {ds0 : List (Key × D)} {kvs0 : List (Key × V)}, Shs g O H ds vs → ShK g O H ds0 kvs0 →
    ShK g O H ((ks.zip ds).foldl (fun r p => putD r (.inr p.1) p.2) ds0) (mergeK kvs0 ((ks.zip vs).map fun p => (Sum.inr p.1, p.2)))
  | [], _, _, _, _, _, h0 => h0
  | _ :: _, [], _, _, _, h, h0 => by cases h; exact h0
  | k :: ks, d :: ds, _, ds0, kvs0, ⟨v, r, e1, h, hs⟩, h0 => by
    subst e1
    exact ShK.merge (ks := ks) hs (h0.put h)
/-- an ending beside what hangs in the air -/
theorem Post.under {r : Out (List D)} {k : List D → D} {Q : VK} (st : StR e T θ s σ H) (hp : H p = none) {o : HO} (ho : isRt o) (n1 : ¬ isTbl o) (n2 : notCode o)
    (P : Post e W (RC e) T θ s σ H (r.bind fun ds s => .ok (.ow (k ds)) s) Q) : Post e W (RDs e) (And1 T p) θ s σ (upd H p o) r (fun vs H' => H' p = some o ∧ ∃ (ds : List D) (θ' : List Addr) (s' : S), Shs e.g (Own (And1 T p) θ' s'.sl σ) H' ds vs ∧ ∀ o', Cn e.g (Own (And1 T p) θ' s'.sl σ) H' p (k ds) o' → Q (.ref p) (upd H' p o')) := by
  have nT : ¬ T p := fun z => st.trn z hp
  cases r with
  | ok ds s' =>
    intro vs T1 θ1 H1 st1 r1
    obtain ⟨rfl, sh⟩ := r1
    have hp1 : H1 p = some o := (st1.tk p (.inr rfl)).trans upd_same
    refine ⟨hp1, ds, θ1, s', sh, fun o' cn => ?_⟩
    obtain ⟨R2, k2⟩ := st1.st.mutT (.inr rfl) hp1 n1 n2 o' cn.rt
    obtain ⟨_, k1, _⟩ := st.air hp o ho
    refine P (.ref p) (And1 T p) θ1 _ ⟨R2, st1.pf, (k1.trans st1.kp).trans k2, fun _ z => .inl z, fun c z => ?_⟩ ⟨p, rfl, rfl, nT, (cn.keep k2).root upd_same⟩
    have ne : c ≠ p := fun y => nT (y ▸ z)
    rw [upd_ne ne, st1.tk c (.inl z), upd_ne ne]
  | exc k fs s' =>
    intro θ1 H1 d st1 x
    obtain ⟨R2, k2, _⟩ := st1.st.drop nT
    refine P θ1 H1 d (Stp.undo st hp ho st1) ?_
    obtain ⟨fv, h1, h2, h3⟩ := x
    exact ⟨fv, (k2.xd h1 h2).1, (k2.xd h1 h2).2, ShF.keep k2 _ _ h3⟩
  | bad => exact P
theorem pps_of {pos : Pos} : ∀ {kes : List (Option Expr)} {es : List Expr} {ks : List Str} {bs : List Bn}, strsOf kes = some ks → PBs e W X es bs → kes.length = es.length → PPs X pos kes es (pairT e W ks bs)
  | [], _, _, _, hk, .nil, _ => by cases hk; exact pps_nil
  | some (.Constant (.str x) j p) :: kes, _, _, _, hk, .cons h r, hl => by
    obtain ⟨ks, hk2, rfl⟩ := map_of (hk : (strsOf kes).map (x :: ·) = some _)
    exact pps_cons pe_str (pe_d h.1) (pps_of hk2 r (Nat.succ.inj hl))
theorem strs_some : ∀ {kes : List (Option Expr)} {ks : List Str}, strsOf kes = some ks → kes.all (·.isSome) = true ∧ ks.length = kes.length
  | [], _, hk => by cases hk; exact ⟨rfl, rfl⟩
  | some (.Constant (.str x) j p) :: kes, _, hk => by
    obtain ⟨ks, hk2, rfl⟩ := map_of (hk : (strsOf kes).map (x :: ·) = some _)
    obtain ⟨h1, h2⟩ := strs_some hk2
    exact ⟨by simp [h1], by simp [h2]⟩
theorem pbs_len : ∀ {es : List Expr} {bs : List Bn}, PBs e W X es bs → bs.length = es.length
  | _, _, .nil => rfl
  | _, _, .cons _ r => by simp [pbs_len r]
theorem pb_disp (hK : X.K = e.g.K) {kes : List (Option Expr)} {es : List Expr} {ks : List Str} {bs : List Bn} (hk : strsOf kes = some ks) (h : PBs e W X es bs) (hl : kes.length = es.length) (h15 : kes.length ≤ 15) (h0 : kes ≠ []) :
    PB e W X (.Dict kes es pos) (.of fun s => (dsOf bs s).bind fun ds s => .ok (.ow (.dK ((ks.zip ds).foldl (fun r p => putD r (.inr p.1) p.2) []))) s) := by
  obtain ⟨k1, k2⟩ := strs_some hk
  refine pb_of hK (pe_imp (pe_disp (pps_of hk h hl) k1 hl h0 h15) fun σ H Q ⟨T, θ, s, st, p⟩ q hq => ?_) fun _ => rfl
  have P := Post.under (k := fun ds => D.dK ((ks.zip ds).foldl (fun r p => putD r (.inr p.1) p.2) [])) (o := .dK []) st hq True.intro id (isRt.nc (o := .dK []) True.intro) p
  have z := imp_pairs (ks := ks) (by rw [k2, hl, pbs_len h]) (Stp.air st hq (.dK [])).st P
  refine imp_pairs.tPairs_mono z fun ps H2 ⟨vs, hv, ep, hp2, ds, θ', s', sh, nx⟩ => ⟨hp2, (ks.zip vs).map fun p => (Sum.inr p.1, p.2), ?_, ?_, nx _ (.dK (ShK.merge (ds0 := []) (kvs0 := []) sh rfl))⟩
  · rw [ep, List.map_map]; rfl
  · rw [List.length_map, List.length_zip, hv]; omega
end
end VM

set_option linter.all false
set_option maxRecDepth 100000
/-! VMZ: zip and enumerate over lists and tuples, in any mix. -/
namespace VM
open PySem PySem.Spec PyProof.Rows L2
/-- a list, or a tuple -/
def SqB (K : PySem.W.Frag) : Bool → Hp → Addr → List V → Prop
  | true => SqL K
  | false => SqT K
def atB : Bool → Heap → Addr → Array Value → Prop
  | true => Heap.IsList
  | false => Heap.IsTuple
def iterB : Bool → Heap → Addr → Addr → Nat → Prop
  | true => Heap.IsListIter
  | false => Heap.IsTupleIter
def itO (b : Bool) (l : Addr) : Obj := { cls := .type (if b then "list_iterator" else "tuple_iterator"), data := .fields #[.ref l, .int 0 0] }
theorem iterB_obj {b : Bool} {h : Heap} {i l : Addr} {k : Nat} (x : iterB b h i l k) : ∃ o, h.get? i = some o ∧ ∀ v, o.data ≠ .cell v := by
  cases b <;> obtain ⟨o, e, _, d⟩ := x <;> exact ⟨o, e, fun v z => by rw [d] at z; cases z⟩
theorem iterB_at {b : Bool} {h h' : Heap} {i l : Addr} {k : Nat} (x : iterB b h i l k) (e : ∀ o, h.get? i = some o → h'.get? i = some o) : iterB b h' i l k := by
  cases b <;> obtain ⟨o, e1, r⟩ := x <;> exact ⟨o, e _ e1, r⟩
theorem iterB_new {b : Bool} {h : Heap} {i l : Addr} (e : h.get? i = some (itO b l)) : iterB b h i l 0 := by
  cases b <;> exact ⟨_, e, rfl, rfl⟩
theorem drawsB {prog : Program} {w : World} {A : Around} (hh : A.handled = none) (b : Bool) (it l : Addr) (hne : l ≠ it) (items : Array Value) : Draws prog w A it [it, l] items.size (fun i v => items[i]? = some v) (fun i h => iterB b h it l i ∧ atB b h l items) := by
  cases b
  · exact Draws.tuple hh it l hne items
  · exact Draws.list hh it l hne items
theorem beginsB (b : Bool) (l : Addr) (items : Array Value) : Begins (.ref l) (itO b l) fun h => atB b h l items := by
  cases b
  · exact begins_tuple l items
  · exact begins_list l items
section
variable {X : Cx} {pins : List (Addr × Obj)} {σ : L2.St} {H : Hp} {s : Shared} {K : PySem.W.Frag}
theorem sqB_its {b : Bool} {a : Addr} {xs : List V} (I : Inv X pins σ H s) (h : SqB X.K b H a xs) : ∃ us, Vals xs us ∧ atB b s.heap a us.toArray := by
  cases b
  · obtain ⟨us, r, t, _⟩ := I.tuple h
    exact ⟨us, r, t⟩
  · obtain ⟨us, r, t, _⟩ := I.list h
    exact ⟨us, r, t.isList⟩
theorem atB_lt {b : Bool} {h : Heap} {a : Addr} {us : Array Value} (x : atB b h a us) : a < h.objs.size := by
  cases b <;> obtain ⟨o, e, _⟩ := x <;> exact Heap.lt_size e
/-! ### zip -/
def Itz2 (K : PySem.W.Frag) (b1 b2 : Bool) (a1 a2 : Addr) (xs ys : List V) : It :=
  ⟨fun i H => SqB K b1 H a1 xs ∧ SqB K b2 H a2 ys ∧ i < xs.length ∧ i < ys.length,
   fun i H v H' => ∃ T x y, v = .ref T ∧ H T = none ∧ H' = upd H T (.tup [x, y]) ∧ xs[i]? = some x ∧ ys[i]? = some y,
   fun i H => SqB K b1 H a1 xs ∧ SqB K b2 H a2 ys ∧ i = min xs.length ys.length⟩
/-- where a zip's parts stand -/
structure Apart2 (z TI TO i1 i2 a1 a2 : Addr) : Prop where
  TIz : TI ≠ z
  TOz : TO ≠ z
  TITO : TI ≠ TO
  TIi1 : TI ≠ i1
  TIi2 : TI ≠ i2
  i1z : i1 ≠ z
  i2z : i2 ≠ z
  i1T : i1 ≠ TO
  i2T : i2 ≠ TO
  i12 : i1 ≠ i2
  a1n : ∀ c ∈ [z, TO, i1, i2], c ≠ a1
  a2n : ∀ c ∈ [z, TO, i1, i2], c ≠ a2
theorem Apart2.sep {z TI TO i1 i2 a1 a2 : Addr} (D : Apart2 z TI TO i1 i2 a1 a2) : ZipSep2 z TI TO i1 i2 [i1, a1] [i2, a2] where
  TIz := D.TIz
  TOz := D.TOz
  TITO := D.TITO
  TIi1 := D.TIi1
  mem1 := by simp
  zf1 := by simp [Ne.symm D.i1z, D.a1n z (by simp)]
  Tf1 := by simp [Ne.symm D.i1T, D.a1n TO (by simp)]
  TIi2 := D.TIi2
  mem2 := by simp
  zf2 := by simp [Ne.symm D.i2z, D.a2n z (by simp)]
  Tf2 := by simp [Ne.symm D.i2T, D.a2n TO (by simp)]
  sep1_2 := by simp [D.i12, D.a2n i1 (by simp)]
  sep2_1 := by simp [Ne.symm D.i12, D.a1n i2 (by simp)]
theorem turn_zip2 {P : Program} {w : World} {elts : List Expr} {kk : Nat} {tpos : Pos} {b1 b2 : Bool} {a1 a2 z TI TO i1 i2 : Addr} {xs ys : List V} (D : Apart2 z TI TO i1 i2 a1 a2) :
    Turn P w K (.Tuple elts kk tpos) (Itz2 K b1 b2 a1 a2 xs ys) [z, TI, TO, i1, i2] z (fun i h => IsZip h z TI TO .none ∧ IsTupOf2 h TI (.ref i1) (.ref i2) ∧ (∃ x y, IsTupOf2 h TO x y) ∧ iterB b1 h i1 a1 i ∧ iterB b2 h i2 a2 i) where
  mem := by simp
  obj := fun i h st c hc => by
    obtain ⟨hz, hTI, ⟨x, y, hTO⟩, h1, h2⟩ := st
    have e' : c = z ∨ c = TI ∨ c = TO ∨ c = i1 ∨ c = i2 := by simpa using hc
    rcases e' with q | q | q | q | q <;> subst q
    · exact ⟨_, hz, fun v q => nomatch q⟩
    · exact ⟨_, hTI, fun v q => nomatch q⟩
    · exact ⟨_, hTO, fun v q => nomatch q⟩
    · exact iterB_obj h1
    · exact iterB_obj h2
  keep := fun i h h' st k => by
    obtain ⟨hz, hTI, ⟨x, y, hTO⟩, h1, h2⟩ := st
    exact ⟨k z (by simp) _ hz, k TI (by simp) _ hTI, ⟨x, y, k TO (by simp) _ hTO⟩, iterB_at h1 fun o q => k i1 (by simp) o q, iterB_at h2 fun o q => k i2 (by simp) o q⟩
  item := by
    intro X hP hw hK hc i pins s σ H E I hf st hg
    subst hP hw hK
    obtain ⟨hqx, hqy, lx, ly⟩ := hg
    obtain ⟨us, rv, p1⟩ := sqB_its I hqx
    obtain ⟨us2, rv2, p2⟩ := sqB_its I hqy
    obtain ⟨u, hu, ru⟩ := rv.get (List.getElem?_eq_getElem lx)
    obtain ⟨u2, hu2, ru2⟩ := rv2.get (List.getElem?_eq_getElem ly)
    obtain ⟨hz, hTI, hTO, h1, h2⟩ := id st
    have S := D.sep
    have hd := I.ok.hd hc
    have G := GoesN.zip2 (elts := elts) (x1 := kk) (pos := tpos) S (drawsB (prog := X.prog) (w := X.w) (A := X.A.in1) hd b1 i1 a1 (fun z => D.a1n i1 (by simp) z.symm) us.toArray) (drawsB (prog := X.prog) (w := X.w) (A := X.A.in1) hd b2 i2 a2 (fun z => D.a2n i2 (by simp) z.symm) us2.toArray)
    have hi : i < min us.toArray.size us2.toArray.size := by
      rw [List.size_toArray, List.size_toArray, ← rv.length, ← rv2.length]
      omega
    refine wpAny_mono (G.goes i s (fun v s2 => ∃ x H', Inv X pins σ H' s2 ∧ RelV x v ∧ (Itz2 X.K b1 b2 a1 a2 xs ys).yld i H x H' ∧ (IsZip s2.heap z TI TO .none ∧ IsTupOf2 s2.heap TI (.ref i1) (.ref i2) ∧ (∃ x y, IsTupOf2 s2.heap TO x y) ∧ iterB b1 s2.heap i1 a1 (i + 1) ∧ iterB b2 s2.heap i2 a2 (i + 1)) ∧ ∀ b ∈ [z, TI, TO, i1, i2], H' b = none) E hi ⟨hz, hTI, hTO, ⟨h1, p1⟩, ⟨h2, p2⟩⟩ fun v h' tk ⟨T, x, y, ev, hT, hx, hy, it⟩ st' kp htk => ?_) (fun r s1 h => h) fun e s' h => h
    subst ev
    have ex : us.toArray[i]? = some u := by simpa using hu
    have ey : us2.toArray[i]? = some u2 := by simpa using hu2
    rw [ex] at hx
    rw [ey] at hy
    cases hx
    cases hy
    obtain ⟨ot, t1, t2, nt, t3⟩ := it
    have new : ObjOk X.prog X.w (upd H T (.tup [xs[i], ys[i]])) h' T (.tup [xs[i], ys[i]]) := ⟨by show 2 ≤ sizeLine; decide, [u, u2], .cons ru (.cons ru2 .nil), ⟨ot, t1, t2, nt, t3⟩⟩
    have I1 : Inv X pins σ (upd H T (.tup [xs[i], ys[i]])) { s with heap := h', toks := tk } :=
      I.turnedNew (t' := tk) (ch := [z, TI, TO, i1, i2]) (fun c o hb q => kp c o (fun m => hb (by
        have m : c = z ∨ c = TO ∨ c = i1 ∨ c = i2 := by simpa using m
        rcases m with m | m | m | m <;> subst m <;> simp)) q) hf hT new
    refine ⟨.ref T, _, I1, rfl, ⟨T, xs[i], ys[i], rfl, I.hok.fresh hT, rfl, List.getElem?_eq_getElem lx, List.getElem?_eq_getElem ly⟩, ⟨st'.1, st'.2.1, st'.2.2.1, st'.2.2.2.1.1, st'.2.2.2.2.1⟩, fun c hcm => ?_⟩
    have hlt : c < s.heap.objs.size := by
      have e' : c = z ∨ c = TI ∨ c = TO ∨ c = i1 ∨ c = i2 := by simpa using hcm
      obtain ⟨x0, y0, hTO⟩ := hTO
      rcases e' with q | q | q | q | q <;> subst q
      · exact Heap.lt_size hz
      · exact Heap.lt_size hTI
      · exact Heap.lt_size hTO
      · obtain ⟨o, e, _⟩ := iterB_obj h1; exact Heap.lt_size e
      · obtain ⟨o, e, _⟩ := iterB_obj h2; exact Heap.lt_size e
    rw [upd_ne (Nat.ne_of_lt (Nat.lt_of_lt_of_le hlt hT))]
    exact (hf c hcm).1
  done := by
    intro X hP hw hK hc i pins s σ H E I hf st hg
    subst hP hw hK
    obtain ⟨hqx, hqy, lx⟩ := hg
    obtain ⟨us, rv, p1⟩ := sqB_its I hqx
    obtain ⟨us2, rv2, p2⟩ := sqB_its I hqy
    obtain ⟨hz, hTI, hTO, h1, h2⟩ := id st
    have hd := I.ok.hd hc
    have G := GoesN.zip2 (elts := elts) (x1 := kk) (pos := tpos) D.sep (drawsB (prog := X.prog) (w := X.w) (A := X.A.in1) hd b1 i1 a1 (fun z => D.a1n i1 (by simp) z.symm) us.toArray) (drawsB (prog := X.prog) (w := X.w) (A := X.A.in1) hd b2 i2 a2 (fun z => D.a2n i2 (by simp) z.symm) us2.toArray)
    have hi : i = min us.toArray.size us2.toArray.size := by
      rw [List.size_toArray, List.size_toArray, ← rv.length, ← rv2.length]
      exact lx
    subst hi
    exact G.stops s (fun s1 => Inv X pins σ H s1) E ⟨hz, hTI, hTO, ⟨h1, p1⟩, ⟨h2, p2⟩⟩ fun h' tk kp htk => I.turnedL (t' := tk) (ch := [z, TI, TO, i1, i2]) (fun c o hb q => kp c o (fun m => hb (by
      have m : c = z ∨ c = TO ∨ c = i1 ∨ c = i2 := by simpa using m
      rcases m with m | m | m | m <;> subst m <;> simp)) q) hf
  self := fun A i s Q E st h => wpAny_pyIter_zip st.1 h
theorem pi_zip2 {tg e e2 : Expr} {ta : TA} {p pos tpos : Pos} {elts : List Expr} {kk : Nat} (hg : Gl X "zip") (hm : X.mg "zip" = none) (ha : PA X [e, e2] ta)
    (hs : starEach [e, e2] X.env = (false, eval e X.env) :: starEach [e2] X.env := by rfl) (hpl : (backTo pos (starEach [e2] X.env)).any (·.1) = false := by rfl) :
    PI X (.Tuple elts kk tpos) (.Call (.Name "zip" p) [e, e2] [] pos) (fun σ H R => ta σ H fun vs H1 => ∃ b1 b2 a1 a2 xs ys, vs = [.ref a1, .ref a2] ∧ SqB X.K b1 H1 a1 xs ∧ SqB X.K b2 H1 a2 ys ∧ R (Itz2 X.K b1 b2 a1 a2 xs ys) H1) := by
  refine ⟨fun pins s σ H R I h => ?_⟩
  refine Call_ (ld_blt I hg hm PyProof.Rows.boot_zip (PyProof.Rows.callWith_type1 (thn (ha.run pos pins s σ H _ I h) fun us s1 ⟨vs, H1, I1, r1, q1⟩ => ?_) hs hpl))
  obtain ⟨b1, b2, a1, a2, xs, ys, ex, hqx, hqy, q⟩ := q1
  subst ex
  cases r1 with
  | cons r rr =>
    cases rr with
    | cons r' rr =>
      cases rr
      cases r
      cases r'
      obtain ⟨us1, rv, p1⟩ := sqB_its I1 hqx
      obtain ⟨us2, rv2, p2⟩ := sqB_its I1 hqy
      have l1 := atB_lt p1
      have l2 := atB_lt p2
      refine zip_begins2 (beginsB b1 a1 us1.toArray) (beginsB b2 a2 us2.toArray) p1 p2 fun h' z1 z2 z3 z4 z5 hsz hk => ?_
      have hf : ∀ c ∈ [s1.heap.objs.size + 4, s1.heap.objs.size + 2, s1.heap.objs.size + 3, s1.heap.objs.size, s1.heap.objs.size + 1], FpOk X pins H1 c := fun c hc => by
        have e' : c = s1.heap.objs.size + 4 ∨ c = s1.heap.objs.size + 2 ∨ c = s1.heap.objs.size + 3 ∨ c = s1.heap.objs.size ∨ c = s1.heap.objs.size + 1 := by simpa using hc
        have hle : s1.heap.objs.size ≤ c := by omega
        exact I1.fpOk hle (I1.hok.fresh hle)
      have I2 : Inv X pins σ H1 { s1 with heap := h' } := I1.kept (t' := s1.toks) hk
      have D : Apart2 (s1.heap.objs.size + 4) (s1.heap.objs.size + 2) (s1.heap.objs.size + 3) s1.heap.objs.size (s1.heap.objs.size + 1) a1 a2 := by
        have nn : ∀ {a b : Nat}, a < b → a ≠ b := fun h => Nat.ne_of_lt h
        have nm : ∀ {a b : Nat}, b < a → a ≠ b := fun h => Nat.ne_of_gt h
        have k1 : ∀ c ∈ [s1.heap.objs.size + 4, s1.heap.objs.size + 3, s1.heap.objs.size, s1.heap.objs.size + 1], s1.heap.objs.size ≤ c := fun c hc => by
          have e' : c = s1.heap.objs.size + 4 ∨ c = s1.heap.objs.size + 3 ∨ c = s1.heap.objs.size ∨ c = s1.heap.objs.size + 1 := by simpa using hc
          omega
        exact ⟨nn (by omega), nn (by omega), nn (by omega), nm (by omega), nm (by omega), nn (by omega), nn (by omega), nn (by omega), nn (by omega), nn (by omega), fun c hc => nm (Nat.lt_of_lt_of_le l1 (k1 c hc)), fun c hc => nm (Nat.lt_of_lt_of_le l2 (k1 c hc))⟩
      refine wpAny_pyIter_zip z1 ⟨s1.heap.objs.size + 4, _, _, _, H1, rfl, I2, turn_zip2 D, ⟨z1, z2, ⟨_, _, z3⟩, iterB_new z4, iterB_new z5⟩, hf, q⟩
/-! ### enumerate -/
def Ite2 (K : PySem.W.Frag) (b : Bool) (a : Addr) (xs : List V) : It :=
  ⟨fun i H => SqB K b H a xs ∧ i < xs.length,
   fun i H v H' => ∃ T x, v = .ref T ∧ H T = none ∧ H' = upd H T (.tup [.int (i : Int), x]) ∧ xs[i]? = some x,
   fun i H => SqB K b H a xs ∧ i = xs.length⟩
theorem turn_enum2 {P : Program} {w : World} {elts : List Expr} {kk : Nat} {tpos : Pos} {b : Bool} {a e it : Addr} {xs : List V} (h1 : e ≠ it) (h2 : e ≠ a) (h3 : it ≠ a) :
    Turn P w K (.Tuple elts kk tpos) (Ite2 K b a xs) [e, it] e (fun i h => (∃ old, IsEnum h e it (i : Int) old) ∧ iterB b h it a i) where
  mem := by simp
  obj := fun i h st c hc => by
    obtain ⟨⟨old, he⟩, hi⟩ := st
    have e' : c = e ∨ c = it := by simpa using hc
    rcases e' with q | q <;> subst q
    · exact ⟨_, he, fun v q => nomatch q⟩
    · exact iterB_obj hi
  keep := fun i h h' st k => by
    obtain ⟨⟨old, he⟩, hi⟩ := st
    exact ⟨⟨old, k e (by simp) _ he⟩, iterB_at hi fun o q => k it (by simp) o q⟩
  item := by
    intro X hP hw hK hc i pins s σ H E I hf st hg
    subst hP hw hK
    obtain ⟨hqx, lx⟩ := hg
    obtain ⟨us, rv, p1⟩ := sqB_its I hqx
    obtain ⟨u, hu, ru⟩ := rv.get (List.getElem?_eq_getElem lx)
    obtain ⟨he, hi⟩ := id st
    have hd := I.ok.hd hc
    have G := GoesN.enumFrom (elts := elts) (x1 := kk) (pos := tpos) 0 (drawsB (prog := X.prog) (w := X.w) (A := X.A.in1) hd b it a (Ne.symm h3) us.toArray) e h1 (by simp [h1, h2]) (by simp)
    have e0 : (0 : Int) + (i : Int) = i := by omega
    refine wpAny_mono (G.goes i s (fun v s2 => ∃ x H', Inv X pins σ H' s2 ∧ RelV x v ∧ (Ite2 X.K b a xs).yld i H x H' ∧ ((∃ old, IsEnum s2.heap e it ((i + 1 : Nat) : Int) old) ∧ iterB b s2.heap it a (i + 1)) ∧ ∀ b ∈ [e, it], H' b = none) E (by rw [List.size_toArray, ← rv.length]; exact lx) ⟨by rw [e0]; exact he, hi, p1⟩ fun v h' tk ⟨T, t, x, ev, hT, hx, tt⟩ st' kp htk => ?_) (fun r s1 h => h) fun e s' h => h
    subst ev
    have ex : us.toArray[i]? = some u := by simpa using hu
    rw [ex] at hx
    cases hx
    rw [e0] at tt
    obtain ⟨ot, t1, t2, nt, t3⟩ := tt
    have new : ObjOk X.prog X.w (upd H T (.tup [.int (i : Int), xs[i]])) h' T (.tup [.int (i : Int), xs[i]]) := ⟨by show 2 ≤ sizeLine; decide, [.int (i : Int) t, u], .cons ⟨t, rfl⟩ (.cons ru .nil), ⟨ot, t1, t2, nt, t3⟩⟩
    have I1 : Inv X pins σ (upd H T (.tup [.int (i : Int), xs[i]])) { s with heap := h', toks := tk } := I.turnedNew (t' := tk) (ch := [e, it]) (fun c o hb q => kp c o hb q) hf hT new
    have e2 : (0 : Int) + ((i + 1 : Nat) : Int) = ((i + 1 : Nat) : Int) := by omega
    refine ⟨.ref T, _, I1, rfl, ⟨T, xs[i], rfl, I.hok.fresh hT, rfl, List.getElem?_eq_getElem lx⟩, ⟨by rw [← e2]; exact st'.1, st'.2.1⟩, fun c hcm => ?_⟩
    have hlt : c < s.heap.objs.size := by
      have e' : c = e ∨ c = it := by simpa using hcm
      rcases e' with q | q <;> subst q
      · obtain ⟨old, he⟩ := he; exact Heap.lt_size he
      · obtain ⟨o, e, _⟩ := iterB_obj hi; exact Heap.lt_size e
    rw [upd_ne (Nat.ne_of_lt (Nat.lt_of_lt_of_le hlt hT))]
    exact (hf c hcm).1
  done := by
    intro X hP hw hK hc i pins s σ H E I hf st hg
    subst hP hw hK
    obtain ⟨hqx, lx⟩ := hg
    obtain ⟨us, rv, p1⟩ := sqB_its I hqx
    obtain ⟨he, hi⟩ := id st
    have hd := I.ok.hd hc
    have G := GoesN.enumFrom (elts := elts) (x1 := kk) (pos := tpos) 0 (drawsB (prog := X.prog) (w := X.w) (A := X.A.in1) hd b it a (Ne.symm h3) us.toArray) e h1 (by simp [h1, h2]) (by simp)
    have hn : i = us.toArray.size := by rw [List.size_toArray, ← rv.length]; exact lx
    subst hn
    have e0 : (0 : Int) + ((us.toArray.size : Nat) : Int) = (us.toArray.size : Nat) := by omega
    exact G.stops s (fun s1 => Inv X pins σ H s1) E ⟨by rw [e0]; exact he, hi, p1⟩ fun h' tk kp htk => I.turnedL (t' := tk) (ch := [e, it]) (fun c o hb q => kp c o hb q) hf
  self := fun A i s Q E st h => by
    obtain ⟨⟨old, he⟩, _⟩ := st
    exact wpAny_pyIter_enum he h
set_option maxHeartbeats 1000000 in
theorem meets_enum_new {v : Value} {o : Obj} {G : Heap → Prop} (B : Begins v o G) :
    Meets (Builtin.«enumerate.__new__» ⟨[.type "enumerate", v], []⟩) (fun _ R s => G s.heap ∧
      R (.ok (.ret (.ref (s.heap.push o).objs.size))) { s with heap := (s.heap.push o).push { cls := .type "enumerate", data := .fields #[.none, .bool false, .ref s.heap.objs.size, rawInt 0, .none, .none] } }) :=
  .of_wp fun prog w A R s h => by
    obtain ⟨hp, g, d, tk, os⟩ := s
    obtain ⟨h1, h⟩ := h
    have hsub := sub_enumerate
    have q1 : ∀ {A' : Around} {E : Value → Shared → Prop} {Q : Value → Shared → Prop}, Q (.ref hp.objs.size) ⟨hp.push o, g, d, tk, os⟩ → wpAny (model prog w) A' (pyIter v) Q E ⟨hp, g, d, tk, os⟩ :=
      fun q => B.iter prog w _ _ ⟨hp, g, d, tk, os⟩ _ h1 q
    wp_walk using q1
    refine wpAny_stack_any fun st => wpAny_pure ?_
    split
    · rename_i c _ _ _ _ _
      cases (c == Value.type "enumerate") <;> (wp_walk using q1; exact ⟨_, rfl, h⟩)
    · wp_walk using q1
      exact ⟨_, rfl, h⟩
theorem enum_one {A : Around} {E : Value → Shared → Prop} {v : Value} {o : Obj} {G : Heap → Prop} {Q : Value → Shared → Prop} (B : Begins v o G) (h1 : G s.heap)
    (h : ∀ h', IsEnum h' (s.heap.objs.size + 1) s.heap.objs.size 0 .none → h'.get? s.heap.objs.size = some o → (∀ b o, s.heap.get? b = some o → h'.get? b = some o) → Q (.ref (s.heap.objs.size + 1)) { s with heap := h' }) :
    wpAny (model X.prog X.w) A (call (.type "enumerate") [v]) Q E s := by
  refine callType_new F.called_enumerate (by decide) (F.typeCall_enumerate_1 _) (F.newCall_enumerate_1 _) (fun obj => F.args_object_init_2 obj _) F.entry_enumerate_new (meets_enum_new B) ⟨h1, ?_⟩
  have hz : (s.heap.push o).objs.size = s.heap.objs.size + 1 := Heap.size_push ..
  show _ ∧ _
  rw [hz]
  have he : IsEnum ((s.heap.push o).push { cls := .type "enumerate", data := .fields #[.none, .bool false, .ref s.heap.objs.size, rawInt 0, .none, .none] }) (s.heap.objs.size + 1) s.heap.objs.size 0 .none := by
    have := Heap.get?_push_size (s.heap.push o) (o := { cls := .type "enumerate", data := .fields #[.none, .bool false, .ref s.heap.objs.size, rawInt 0, .none, .none] }) rfl
    rw [hz] at this
    exact this
  exact ⟨⟨_, he, rfl⟩, h _ he (Heap.get?_push_of_some _ (Heap.get?_push_size _ B.free)) fun b o x => Heap.get?_push_of_some _ (Heap.get?_push_of_some _ x)⟩
theorem pi_enum2 {tg ex : Expr} {ta : TA} {p pos tpos : Pos} {elts : List Expr} {kk : Nat} (hg : Gl X "enumerate") (hm : X.mg "enumerate" = none) (ha : PA X [ex] ta) (hs : starEach [ex] X.env = [(false, eval ex X.env)] := by rfl) :
    PI X (.Tuple elts kk tpos) (.Call (.Name "enumerate" p) [ex] [] pos) (fun σ H R => ta σ H fun vs H1 => ∃ b a xs, vs = [.ref a] ∧ SqB X.K b H1 a xs ∧ R (Ite2 X.K b a xs) H1) := by
  refine ⟨fun pins s σ H R I h => ?_⟩
  refine Call_ (ld_blt I hg hm boot_enumerate (PyProof.Rows.callWith_type1 (thn (ha.run pos pins s σ H _ I h) fun us s1 ⟨vs, H1, I1, r1, q1⟩ => ?_) hs rfl))
  obtain ⟨b, a, xs, ex, hq, q⟩ := q1
  subst ex
  cases r1 with
  | cons r rr =>
    cases rr
    cases r
    obtain ⟨its, rv, p'⟩ := sqB_its I1 hq
    have l1 := atB_lt p'
    refine enum_one (beginsB b a its.toArray) p' fun h' he hit hk => wpAny_pyIter_enum he ?_
    have I2 : Inv X pins σ H1 { s1 with heap := h' } := I1.kept (t' := s1.toks) hk
    refine ⟨s1.heap.objs.size + 1, _, _, _, H1, rfl, I2, turn_enum2 (a := a) (it := s1.heap.objs.size) (Nat.succ_ne_self _) (Nat.ne_of_gt (Nat.lt_succ_of_lt l1)) (Nat.ne_of_gt l1), ⟨⟨.none, he⟩, iterB_new hit⟩, fun c hc => ?_, q⟩
    have e' : c = s1.heap.objs.size + 1 ∨ c = s1.heap.objs.size := by simpa using hc
    have hle : s1.heap.objs.size ≤ c := by
      rcases e' with z | z
      · rw [z]; exact Nat.le_succ _
      · rw [z]; exact Nat.le_refl _
    exact I1.fpOk hle (I1.hok.fresh hle)
end
end VM

set_option linter.all false
set_option maxRecDepth 100000
/-! VM16: what is walked. -/
namespace VM
open PySem PySem.Spec PyProof.Rows L2
/-- a walk gives ds, at every later state -/
structure ItOk (g : G) (J : It) (O0 : OP) (H0 : Hp) (ds : List D) : Prop where
  stop : ∀ O H, Kp O0 H0 O H → J.stop ds.length H
  go : ∀ i d, ds[i]? = some d → ∀ O H, Kp O0 H0 O H → (∀ a, O a → ∃ o, H a = some o ∧ isRt o) → J.go i H ∧ ∀ x H', J.yld i H x H' → NV g O H (.sh d) x H'
def RI (e : Env2) : Rl (List D) It := fun T T' θ' s' σ H' ds J => T' = T ∧ ItOk e.g J (Own T θ' s'.sl σ) H' ds
theorem RI.eq {e : Env2} {σ : L2.St} {T T1 θ1 s1 H1 d v} (h : RI e T T1 θ1 s1 σ H1 d v) : T1 = T := h.1
def TIv (e : Env2) (W : WX) (f : S → Out (List D)) : TI := TO e W (RI e) f
section
variable {e : Env2} {W : WX} {X : Cx} {ex a b c tg : Expr} {pos : Pos} {α β : Type} {R : Rl α β} {T T' : AP1} {θ θ' : List Addr} {s s' : S} {σ : L2.St} {H H' : Hp} {d d' : D} {v : V} {p : Addr} {g : G} {O : OP}
theorem shs_at {ds : List D} {vs : List V} (h : Shs g O H ds vs) {i : Nat} (e : ds[i]? = some d) : ∃ v, vs[i]? = some v ∧ Sh g O H d v := h.get e
theorem itok_lst {K : PySem.W.Frag} {ds : List D} (h : Sh g O H (.lst ds) (.ref p)) : ItOk g (Itl K p) O H ds where
  stop := fun O' H' k => by
    obtain ⟨a, vs, ea, h1, _, r⟩ := Sh.keep k _ _ h
    cases ea
    exact ⟨vs, .of h1, by rw [r.length]; exact Nat.le_refl _⟩
  go := fun i d hd O' H' k _ => by
    obtain ⟨a, vs, ea, h1, _, r⟩ := Sh.keep k _ _ h
    cases ea
    obtain ⟨v, hv, hs⟩ := r.get hd
    refine ⟨⟨vs, v, .of h1, hv⟩, fun x H2 ⟨e1, e2⟩ => ?_⟩
    have := e2 vs (.of h1)
    rw [hv] at this
    cases this
    subst e1
    exact .sh hs
theorem itok_rol (hK : X.K = g.K) {ds : List D} (h : Sh g O H (.rol ds) (.ref p)) : ItOk g (Itl X.K p) O H ds where
  stop := fun O' H' k => by
    obtain ⟨a, vs, ea, h1, r⟩ := Sh.keep k _ _ h
    cases ea
    exact ⟨vs, hK ▸ h1.sq, by rw [r.length]; exact Nat.le_refl _⟩
  go := fun i d hd O' H' k _ => by
    obtain ⟨a, vs, ea, h1, r⟩ := Sh.keep k _ _ h
    cases ea
    obtain ⟨v, hv, hs⟩ := r.get hd
    refine ⟨⟨vs, v, hK ▸ h1.sq, hv⟩, fun x H2 ⟨e1, e2⟩ => ?_⟩
    have := e2 vs (hK ▸ h1.sq)
    rw [hv] at this
    cases this
    subst e1
    exact .sh hs
theorem itok_tup {K : PySem.W.Frag} (hK : K = g.K) {ds : List D} (h : Sh g O H (.tup ds) (.ref p)) : ItOk g (Itt K p) O H ds where
  stop := fun O' H' k => by
    obtain ⟨a, vs, ea, h1, r⟩ := Sh.keep k _ _ h
    cases ea
    exact ⟨vs, hK ▸ h1.sq, by rw [r.length]; exact Nat.le_refl _⟩
  go := fun i d hd O' H' k _ => by
    obtain ⟨a, vs, ea, h1, r⟩ := Sh.keep k _ _ h
    cases ea
    obtain ⟨v, hv, hs⟩ := r.get hd
    have hq : SqT K H' p vs := hK ▸ h1.sq
    refine ⟨⟨vs, v, hq, hv⟩, fun x H2 ⟨e1, e2⟩ => ?_⟩
    have := e2 vs hq
    rw [hv] at this
    cases this
    subst e1
    exact .sh hs
theorem itok_rng (lo : Int) (n : Nat) {ds : List D} (hds : ds = (List.range n).map fun (i : Nat) => .int (lo + (i : Int))) : ItOk g (Itr lo n) O H ds where
  stop := fun O' H' k => by subst hds; simp [Itr]
  go := fun i d hd O' H' k _ => by
    subst hds
    rw [List.getElem?_map] at hd
    obtain ⟨j, hj, rfl⟩ := map_of hd
    have hl := (List.getElem?_eq_some_iff.mp hj).1
    rw [List.getElem?_eq_getElem hl] at hj
    cases hj
    simp only [List.length_range] at hl
    refine ⟨hl, fun x H2 ⟨e1, e2⟩ => ?_⟩
    subst e1 e2
    exact .sh (by simp [Sh])
/-! ### a dict is locked -/
theorem StR.lock (R : StR e T θ s σ H) {u : HO} (h : H p = some u) (hd : isDict u) (n : ¬ Own T θ s.sl σ p) (od : Obj) : StR e T θ s σ (upd H p (.frz od u)) ∧ Kp (Own T θ s.sl σ) H (Own T θ s.sl σ) (upd H p (.frz od u)) := by
  have k : Kp (Own T θ s.sl σ) H (Own T θ s.sl σ) (upd H p (.frz od u)) := And.intro Pfx.refl fun a o ha _ na => by
    refine ⟨na, ?_⟩
    by_cases z : a = p
    · subst z
      rw [h] at ha
      cases ha
      exact .inr ⟨hd, od, upd_same⟩
    · exact .inl (by rw [upd_ne z]; exact ha)
  have rt : isRt u := by cases u <;> first | exact hd.elim | exact True.intro | exact hd
  have nt := rt.nt
  have nx := rt.nc
  refine ⟨⟨R.len, fun j c hj => ?_, R.hlen, fun m x q h1 h2 => ?_, R.nd, R.sep, R.inj, R.hT, fun a z => ?_, tabs_upd R.tb h nt nx⟩, k⟩
  · have z := R.slot j c hj
    by_cases ho : ∃ d, c = .ow d
    · obtain ⟨x, rfl⟩ := ho
      obtain ⟨pp, e1, r'⟩ := z
      exact ⟨pp, e1, r'.keep k (upd_ne fun y => n (y ▸ (show Own T θ s.sl σ pp from ownS ⟨x, hj, slotV e1⟩)))⟩
    · exact SlotOk.keep k (fun _ _ z => z) (fun d y => ho ⟨d, y⟩) z
  · exact (R.hnd m x q h1 h2).keep k (upd_ne fun y => n (y ▸ (show Own T θ s.sl σ q from ownH (List.mem_of_getElem? h2))))
  · obtain ⟨o, q, r⟩ := R.tr a z
    have ne : a ≠ p := fun y => n (by rw [← y]; exact ownT z)
    exact ⟨o, by rw [upd_ne ne]; exact q, r⟩
def tLock (t : TE) : TE := fun σ H Q => t σ H fun x H1 => ∃ d u, x = .ref d ∧ isDict u ∧ ((H1 d = some u ∧ ∀ od, Q x (upd H1 d (.frz od u))) ∨ ∃ od, H1 d = some (.frz od u) ∧ Q x H1)
theorem pe_lock {t : TE} (h : PE X ex t) : PE X ex (tLock t) := ⟨fun pins s σ H Q I q => by
  refine thn (h.run pins s σ H _ I q) fun u s1 ⟨x, H1, I1, r1, d, o, ex, hd, q1⟩ => ?_
  rcases q1 with ⟨h1, q1⟩ | ⟨od, h1, q1⟩
  · have mu : Mut (some o) := by cases o <;> first | exact hd.elim | exact True.intro
    obtain ⟨od, I2⟩ := I1.lock h1 mu
    exact ⟨x, _, I2, r1, q1 od⟩
  · exact ⟨x, H1, I1, r1, q1⟩⟩
theorem kD_sh {k : Key} : Sh g O H (kD k) (kV k) := by cases k <;> rfl
theorem kDs_sh : ∀ {ks : List Key}, Shs g O H (ks.map kD) (ks.map kV)
  | [] => rfl
  | k :: ks => ⟨_, _, rfl, kD_sh, kDs_sh⟩
theorem ShK.key : ∀ {ds : List (Key × D)} {vs : List (Key × V)}, ShK g O H ds vs → vs.map (·.1) = ds.map (·.1)
  | [], _, h => by cases h; rfl
  | (k1, d) :: ds, _, ⟨(k2, v), r, e, ⟨ek, _⟩, hs⟩ => by subst e ek; simp [ShK.key hs]
theorem itok_dK {ds : List (Key × D)} {kvs : List (Key × V)} {od : Obj} (h : H p = some (.frz od (.dK kvs))) (n : ¬ O p) (r : ShK g O H ds kvs) : ItOk g (Itk p od kvs) O H (ds.map fun kv => kD kv.1) where
  stop := fun O' H' k => ⟨(k.frz h n).1, by rw [List.length_map, r.length]; exact Nat.le_refl _⟩
  go := fun i d hd O' H' k _ => by
    rw [List.getElem?_map] at hd
    obtain ⟨q, hq, rfl⟩ := map_of hd
    have hl := (List.getElem?_eq_some_iff.mp hq).1
    refine ⟨⟨(k.frz h n).1, by rw [r.length]; exact hl⟩, fun x H2 ⟨e1, kk, v, e2, e3⟩ => ?_⟩
    subst e1 e3
    have e4 : (kvs.map (·.1))[i]? = some kk := by rw [List.getElem?_map, e2]; rfl
    rw [r.key, List.getElem?_map, hq] at e4
    cases e4
    exact .sh kD_sh
/-- the keys of a locked dict of tuple keys -/
def Itkn (g : G) (d : Addr) (o : Obj) (es : List (NestedKey × Addr × Value)) : It :=
  ⟨fun i H => H d = some (.frz o (DicO g.P g.w d es)) ∧ i < es.length, fun i H x H' => H' = H ∧ ∃ k b u, es[i]? = some (k, b, u) ∧ x = .ref b, fun i H => H d = some (.frz o (DicO g.P g.w d es)) ∧ es.length ≤ i⟩
theorem dic_at {pins : List (Addr × Obj)} {s : Shared} {d : Addr} {o : Obj} {es : List (NestedKey × Addr × Value)} (I : Inv X pins σ H s) (h : H d = some (.frz o (DicO g.P g.w d es))) :
    s.heap.get? d = some o ∧ o.ExactDict ∧ ∃ ar ep, o.data = .dict ar ep ∧ ar.toList = es.map (entryOfKey (nestedKind g.P g.w)) ∧ (d == sysModules) = false := by
  obtain ⟨h0, ⟨o', ar, ep, h1, h2, h3, h4, h5, h6, h7⟩, _⟩ := I.hok d _ h
  rw [h0] at h1
  cases h1
  exact ⟨h0, h2, ar, ep, h3, h4, h6⟩
theorem turn_keysN {P : Program} {w : World} {K : PySem.W.Frag} {o : Obj} {ar : Array DictEntry} {ep : Nat} {es : List (NestedKey × Addr × Value)} {d : Addr} (it : Addr) (hod : o.data = .dict ar ep) : Turn P w K tg (Itkn g d o es) [it] it (fun i h => h.IsKeyIter it d i es.length ep) where
  mem := by simp
  obj := fun i h st b hb => by
    obtain rfl : b = it := by simpa using hb
    obtain ⟨oi, e, c, dd⟩ := st
    exact ⟨oi, e, fun v z => by rw [dd] at z; cases z⟩
  keep := fun i h h' st k => st.at fun oi e => k it (by simp) oi e
  item := by
    intro Y hP hw hK hc i pins s σ H E I hf st hg
    subst hP hw hK
    obtain ⟨hd, hi⟩ := hg
    obtain ⟨f0, f1, f2, f3, f4, f5⟩ := hf it (by simp)
    obtain ⟨hgd, hx, ar', ep', hdt, ent, _⟩ := dic_at I hd
    obtain ⟨rfl, rfl⟩ := dict_ep hod hdt
    obtain ⟨⟨k, b, u⟩, hkv⟩ : ∃ p, es[i]? = some p := ⟨es[i], List.getElem?_eq_getElem hi⟩
    have hen : ar'[i]? = some (entryOfKey (nestedKind g.P g.w) (k, b, u)) := by
      rw [entry_at ent i, hkv]
      rfl
    refine next_key_item st hgd hdt (size_of_entries ent) hen fun h' st' sb => ?_
    have I1 : Inv Y pins σ H { s with heap := h' } := I.turned (t' := s.toks) (fun c ob hb e => (sb.2 c hb).trans e) f0 f1 f3 f4 f5
    obtain ⟨oi, e, c, dd⟩ := id st'
    exact ⟨_, rfl, go_of (s := { s with heap := h' }) e c dd (by decide) ⟨.ref b, H, I1, rfl, ⟨rfl, k, b, u, hkv, rfl⟩, st', fun x hb => (hf x hb).1⟩⟩
  done := by
    intro Y hP hw hK hc i pins s σ H E I hf st hg
    subst hP hw hK
    obtain ⟨hd, hi⟩ := hg
    obtain ⟨f0, f1, f2, f3, f4, f5⟩ := hf it (by simp)
    obtain ⟨hgd, hx, ar', ep', hdt, ent, _⟩ := dic_at I hd
    obtain ⟨rfl, rfl⟩ := dict_ep hod hdt
    exact next_key_end (I.ok.hd hc) st hgd hdt (size_of_entries ent) hi fun h' eb => ⟨rfl, I.turned (t' := s.toks) (fun b ob hb e => eb b ob hb e) f0 f1 f3 f4 f5⟩
  self := fun A i s Q E st h => by
    refine wpAny_pyIter_slot st.typeIs F.slot_dict_keyiterator_iter (wpAny_call_entry F.slot_dict_keyiterator_iter st.typeIs F.entry_dict_keyiterator_iter ?_ (F.args_dict_keyiterator_iter_1 _))
    show wpAny _ _ (ret (.ref it)) _ _ s
    exact wpAny_pure ⟨_, rfl, "dict_keyiterator", _, st.typeIs, F.slot_dict_keyiterator_next.lookup, h⟩
theorem pi_keysN {t : TE} (he : PE X ex t) : PI X tg ex (fun σ H R => t σ H fun x H1 => ∃ d o es, x = .ref d ∧ H1 d = some (.frz o (DicO g.P g.w d es)) ∧ R (Itkn g d o es) H1) := by
  refine ⟨fun pins s σ H R I h => ?_⟩
  refine thn (he.run pins s σ H _ I h) fun u s1 ⟨x, H1, I1, rx, d, o, es, hx, hd, q⟩ => ?_
  subst hx
  obtain rfl : u = Value.ref d := rx
  obtain ⟨hgd, hxd, ar, ep, hdt, ent, hs⟩ := dic_at I1 hd
  refine iter_keys hs hgd hxd hdt (pi_one (tk := s1.toks) I1 _ (turn_keysN _ hdt) ⟨_, Heap.get?_push_size _ rfl, rfl, ?_⟩ q)
  rw [size_of_entries ent] <;> rfl
theorem itok_dN {ds : List (NestedKey × D)} {es : List (NestedKey × Addr × Value)} {od : Obj} (h : H p = some (.frz od (DicO g.P g.w p es))) (n : ¬ O p) (r : ShN g O H ds es) : ItOk g (Itkn g p od es) O H (ds.map fun kv => nD kv.1) where
  stop := fun O' H' k => ⟨(k.frz h n).1, by rw [List.length_map, r.length]; exact Nat.le_refl _⟩
  go := fun i d hd O' H' k _ => by
    rw [List.getElem?_map] at hd
    obtain ⟨q, hq, rfl⟩ := map_of hd
    have hl := (List.getElem?_eq_some_iff.mp hq).1
    refine ⟨⟨(k.frz h n).1, by rw [r.length]; exact hl⟩, fun x H2 ⟨e1, kk, b, u, e2, e3⟩ => ?_⟩
    subst e1 e3
    have r' := ShN.keep k _ _ r
    have e4 : q.1 = kk := ShN.keyAt r' hq e2
    have ka := r'.keys _ (List.mem_of_getElem? e2)
    rw [e4]
    exact .sh (nD_sh _ _ ka.2.2)
where ShN.keyAt {O : OP} {H : Hp} : ∀ {ds : List (NestedKey × D)} {es : List (NestedKey × Addr × Value)}, ShN g O H ds es → ∀ {i : Nat} {q : NestedKey × D} {x : NestedKey × Addr × Value}, ds[i]? = some q → es[i]? = some x → q.1 = x.1
  | [], _, _, i, q, x, h1, _ => by simp at h1
  | (k1, d) :: ds, _, ⟨(k2, b, u), r, e, ⟨ek, _⟩, hs⟩, 0, q, x, h1, h2 => by
    subst e
    simp at h1 h2
    rw [← h1, ← h2]
    exact ek
  | (k1, d) :: ds, _, ⟨(k2, b, u), r, e, ⟨ek, _⟩, hs⟩, i + 1, q, x, h1, h2 => by
    subst e
    exact ShN.keyAt hs (by simpa using h1) (by simpa using h2)
/-! ### zip, enumerate -/
theorem zip_get : ∀ {xs ys : List D} {i : Nat} {d : D}, (zipD xs ys)[i]? = some d → ∃ x y, xs[i]? = some x ∧ ys[i]? = some y ∧ d = .prs [x, y]
  | [], _, _, _, h => by simp [zipD] at h
  | _ :: _, [], _, _, h => by simp [zipD] at h
  | x :: xs, y :: ys, 0, d, h => by simp [zipD] at h; exact ⟨x, y, rfl, rfl, h.symm⟩
  | x :: xs, y :: ys, i + 1, d, h => by
    have h : (zipD xs ys)[i]? = some d := by simpa [zipD] using h
    obtain ⟨a, b, h1, h2, h3⟩ := zip_get h
    exact ⟨a, b, by simpa using h1, by simpa using h2, h3⟩
theorem zip_len : ∀ (xs ys : List D), (zipD xs ys).length = min xs.length ys.length
  | [], _ => by simp [zipD]
  | _ :: _, [] => by simp [zipD]
  | x :: xs, y :: ys => by simp [zipD, zip_len xs ys]
theorem enum_get : ∀ {xs : List D} {k i : Nat} {d : D}, (enumD k xs)[i]? = some d → ∃ x, xs[i]? = some x ∧ d = .prs [.int ((k + i : Nat) : Int), x]
  | [], _, _, _, h => by simp [enumD] at h
  | x :: xs, k, 0, d, h => by simp [enumD] at h; exact ⟨x, rfl, h.symm⟩
  | x :: xs, k, i + 1, d, h => by
    have h : (enumD (k + 1) xs)[i]? = some d := by simpa [enumD] using h
    obtain ⟨a, h1, h2⟩ := enum_get h
    exact ⟨a, by simpa using h1, by rw [h2, show k + 1 + i = k + (i + 1) by omega]⟩
theorem enum_len : ∀ (xs : List D) (k : Nat), (enumD k xs).length = xs.length
  | [], _ => rfl
  | x :: xs, k => by simp [enumD, enum_len xs]
theorem sh_sq {K : PySem.W.Frag} (hK : K = g.K) {xs : List D} (hd : seqD d = some xs) (h : Sh g O H d v) : ∃ b p vs, v = .ref p ∧ ∀ O' H', Kp O H O' H' → SqB K b H' p vs ∧ Shs g O' H' xs vs := by
  cases d with
  | lst ds =>
    cases hd
    obtain ⟨p, vs, rfl, h1, n, r⟩ := h
    exact ⟨true, p, vs, rfl, fun O' H' k => ⟨.of (k.lst h1 n).1, Shs.keep k _ _ r⟩⟩
  | tup ds =>
    cases hd
    obtain ⟨p, vs, rfl, h1, r⟩ := h
    exact ⟨false, p, vs, rfl, fun O' H' k => ⟨hK ▸ (k.tupAt h1).sq, Shs.keep k _ _ r⟩⟩
  | _ => cases hd
theorem itok_zip2 {K : PySem.W.Frag} {b1 b2 : Bool} {q : Addr} {xs ys : List D} {vs us : List V} (h : ∀ O' H', Kp O H O' H' → SqB K b1 H' p vs ∧ Shs g O' H' xs vs) (h2 : ∀ O' H', Kp O H O' H' → SqB K b2 H' q us ∧ Shs g O' H' ys us) : ItOk g (Itz2 K b1 b2 p q vs us) O H (zipD xs ys) where
  stop := fun O' H' k => by
    obtain ⟨q1, r1⟩ := h O' H' k
    obtain ⟨q2, r2⟩ := h2 O' H' k
    exact ⟨q1, q2, by rw [zip_len, r1.length, r2.length]⟩
  go := fun i d hd O' H' k _ => by
    obtain ⟨q1, r1⟩ := h O' H' k
    obtain ⟨q2, r2⟩ := h2 O' H' k
    obtain ⟨x, y, hx, hy, rfl⟩ := zip_get hd
    obtain ⟨v, hv, sv⟩ := r1.get hx
    obtain ⟨u, hu, su⟩ := r2.get hy
    refine ⟨⟨q1, q2, (List.getElem?_eq_some_iff.mp hv).1, (List.getElem?_eq_some_iff.mp hu).1⟩, fun z H2 ⟨t, z1, z2, ez, hn, eh, e1, e2⟩ => ?_⟩
    rw [hv] at e1
    rw [hu] at e2
    cases e1
    cases e2
    subst ez eh
    exact .prs hn ⟨_, _, rfl, sv, Shs.one su⟩
theorem itok_enum2 {K : PySem.W.Frag} {b : Bool} {xs : List D} {vs : List V} (h : ∀ O' H', Kp O H O' H' → SqB K b H' p vs ∧ Shs g O' H' xs vs) : ItOk g (Ite2 K b p vs) O H (enumD 0 xs) where
  stop := fun O' H' k => by
    obtain ⟨q1, r1⟩ := h O' H' k
    exact ⟨q1, by rw [enum_len, r1.length]⟩
  go := fun i d hd O' H' k _ => by
    obtain ⟨q1, r1⟩ := h O' H' k
    obtain ⟨x, hx, rfl⟩ := enum_get hd
    obtain ⟨v, hv, sv⟩ := r1.get hx
    refine ⟨⟨q1, (List.getElem?_eq_some_iff.mp hv).1⟩, fun z H2 ⟨t, z1, ez, hn, eh, e1⟩ => ?_⟩
    rw [hv] at e1
    cases e1
    subst ez eh
    exact .prs hn ⟨_, _, rfl, by show V.int _ = _; simp, Shs.one sv⟩
end
end VM

set_option linter.all false
set_option maxRecDepth 100000
/-! VM17: walks, targets. -/
namespace VM
open PySem PySem.Spec PyProof.Rows L2
section
variable {e : Env2} {W : WX} {X : Cx} {l a b tg : Expr} {pos : Pos} {α β : Type} {R : Rl α β} {T T' : AP1} {θ θ' : List Addr} {s s' : S} {σ : L2.St} {H H' : Hp} {d d' : D} {v : V} {p : Addr} {g : G} {O : OP}
theorem pi_imp {wi wi' : TI} (h : PI X tg l wi) (i : ∀ σ H Q, wi' σ H Q → wi σ H Q) : PI X tg l wi' := ⟨fun pins s σ H Q I q => h.run pins s σ H Q I (i σ H Q q)⟩
/-- one walk or another, by what is to be walked -/
theorem pi_or {wi : TI} (h : ∀ σ H Q, wi σ H Q → ∃ wj, PI X tg l wj ∧ wj σ H Q) : PI X tg l wi := ⟨fun pins s σ H Q I q => by
  obtain ⟨wj, hj, q⟩ := h σ H Q q
  exact hj.run pins s σ H Q I q⟩
theorem pi_seq (hK : X.K = e.g.K) {bl : Bn} (hl : PB e W X l bl) : PI X tg l (TIv e W fun s => (bl.d s).bind fun d s => Out.ofO s (itemsD d)) := by
  refine pi_or fun σ H Q ⟨T, θ, s, st, p⟩ => ?_
  have hd := pe_d hl
  have p : Post e W (RI e) T θ s σ H ((bl.d s).bind fun d s => Out.ofO s (itemsD d)) Q := p
  -- what is read of the value
  have use : ∀ (Q1 : VK), (∀ d s1 v θ1 H1, bl.d s = .ok d s1 → Stp e T θ s T θ1 s1 σ H H1 → Sh e.g (Own T θ1 s1.sl σ) H1 d v → Post e W (RI e) T θ1 s1 σ H1 (Out.ofO s1 (itemsD d)) Q → Q1 v H1) → TDv e W bl.d σ H Q1 := fun Q1 hq => by
    refine ⟨T, θ, s, st, ?_⟩
    revert p hq
    generalize bl.d s = r
    intro p hq
    cases r with
    | ok d s1 =>
      intro v T1 θ1 H1 st1 r1
      obtain ⟨rfl, sh⟩ := r1
      exact hq d s1 v θ1 H1 rfl st1 sh (p.shift st1)
    | exc _ _ _ => exact p
    | bad => exact p
  cases hr : bl.d s with
  | bad => rw [hr] at p; exact p.elim
  | exc k fs s1 => exact ⟨_, pi_list hd, use _ fun d s1 v θ1 H1 h2 => by rw [hr] at h2; cases h2⟩
  | ok d s1 =>
    cases d with
    | lst ds => exact ⟨_, pi_list hd, use _ fun d s2 v θ1 H1 h2 st1 sh q => by
        rw [hr] at h2; cases h2
        obtain ⟨a, vs, rfl, h1, n1, r⟩ := id sh
        exact ⟨a, rfl, ⟨vs, .of h1⟩, q _ T θ1 H1 (Stp.refl st1.st) ⟨rfl, itok_lst sh⟩⟩⟩
    | rol ds => exact ⟨_, pi_list hd, use _ fun d s2 v θ1 H1 h2 st1 sh q => by
        rw [hr] at h2; cases h2
        obtain ⟨a, vs, rfl, h1, r⟩ := id sh
        exact ⟨a, rfl, ⟨vs, hK ▸ h1.sq⟩, q _ T θ1 H1 (Stp.refl st1.st) ⟨rfl, itok_rol hK sh⟩⟩⟩
    | tup ds => exact ⟨_, pi_tup hd, use _ fun d s2 v θ1 H1 h2 st1 sh q => by
        rw [hr] at h2; cases h2
        obtain ⟨a, vs, rfl, h1, r⟩ := id sh
        exact ⟨a, rfl, ⟨vs, hK ▸ h1.sq⟩, q _ T θ1 H1 (Stp.refl st1.st) ⟨rfl, itok_tup hK sh⟩⟩⟩
    | dK ds => exact ⟨_, pi_keys (pe_lock hd), use _ fun d s2 v θ1 H1 h2 st1 sh q => by
        rw [hr] at h2; cases h2
        obtain ⟨a, vs, rfl, h1, n1, r⟩ := sh
        refine ⟨a, .dK vs, rfl, True.intro, ?_⟩
        rcases h1 with h1 | ⟨od, h1⟩
        · refine .inl ⟨h1, fun od => ⟨a, od, rfl, .inl ⟨vs, upd_same, ?_⟩⟩⟩
          obtain ⟨st2, k2⟩ := st1.st.lock h1 True.intro n1 od
          exact q _ T θ1 _ ⟨st2, fun _ _ z => z, k2, fun _ z => z, fun c z => upd_ne fun y => n1 (by rw [← y]; exact ownT z)⟩ ⟨rfl, itok_dK upd_same n1 (ShK.keep k2 _ _ r)⟩
        · exact .inr ⟨od, h1, a, od, rfl, .inl ⟨vs, h1, q _ T θ1 H1 (Stp.refl st1.st) ⟨rfl, itok_dK h1 n1 r⟩⟩⟩⟩
    | dN ds => exact ⟨_, pi_keysN (g := e.g) (pe_lock hd), use _ fun d s2 v θ1 H1 h2 st1 sh q => by
        rw [hr] at h2; cases h2
        obtain ⟨a, es, rfl, h1, n1, r⟩ := sh
        refine ⟨a, DicO e.g.P e.g.w a es, rfl, ⟨_, _, _, _, rfl⟩, ?_⟩
        rcases h1 with h1 | ⟨od, h1⟩
        · refine .inl ⟨h1, fun od => ⟨a, od, es, rfl, upd_same, ?_⟩⟩
          obtain ⟨st2, k2⟩ := st1.st.lock h1 ⟨_, _, _, _, rfl⟩ n1 od
          exact q _ T θ1 _ ⟨st2, fun _ _ z => z, k2, fun _ z => z, fun c z => upd_ne fun y => n1 (by rw [← y]; exact ownT z)⟩ ⟨rfl, itok_dN upd_same n1 (ShN.keep k2 _ _ r)⟩
        · exact .inr ⟨od, h1, a, od, es, rfl, h1, q _ T θ1 H1 (Stp.refl st1.st) ⟨rfl, itok_dN h1 n1 r⟩⟩⟩
    | _ => rw [hr] at p; exact p.elim
theorem starEach1 {env : Env} (h : notStar a = true) : starEach [a] env = [(false, eval a env)] := star_one h
theorem pi_rng1 {bl : Bn} {p2 : Pos} (hg : Gl X "range") (hm : X.mg "range" = none) (hl : PB e W X a bl) (hs : notStar a = true) : PI X tg (.Call (.Name "range" p2) [a] [] pos) (TIv e W fun s => (bl.d s).bind fun d s => match d with
    | .int n => if inRng n then .ok (rngD 0 n) s else .bad
    | _ => .bad) := by
  refine pi_imp (pi_range1 hg hm (pa_cons (pe_d hl) pa_nil (star_one hs)) (starEach1 hs)) fun σ H Q ⟨T, θ, s, st, p⟩ => ?_
  refine ⟨T, θ, s, st, Post.bindS (R1 := RD e) p RD.eq fun d s1 v θ1 H1 st1 r1 p1 => ?_⟩
  cases d with
  | int n =>
    have p1 : Post e W (RI e) T θ1 s1 σ H1 (if inRng n = true then .ok (rngD 0 n) s1 else .bad) Q := p1
    split at p1
    case isTrue hr =>
      obtain ⟨h1, h2⟩ := inRng_of hr
      exact ⟨n, by rw [show v = V.int n from r1.2], h1, h2, p1 _ T θ1 H1 (Stp.refl st1.st) ⟨rfl, itok_rng 0 n.toNat (by simp [rngD])⟩⟩
    case isFalse => exact p1.elim
  | _ => exact p1.elim
theorem pi_rng2 {ba bb : Bn} {p2 : Pos} (hg : Gl X "range") (hm : X.mg "range" = none) (ha : PB e W X a ba) (hb : PB e W X b bb) (hs : notStar a = true) (hs2 : notStar b = true) : PI X tg (.Call (.Name "range" p2) [a, b] [] pos) (TIv e W fun s => (ba.d s).bind fun d s => (bb.d s).bind fun e s => match d, e with
    | .int i, .int j => if inRng i && inRng j then .ok (rngD i j) s else .bad
    | _, _ => .bad) := by
  refine pi_imp (pi_range2 hg hm (pa_cons (pe_d ha) (pa_cons (pe_d hb) pa_nil (star_one hs2)) (star_one hs)) (by rw [star_one hs, star_one hs2]; rfl) (starEach1 hs2)) fun σ H Q ⟨T, θ, s, st, p⟩ => ?_
  refine ⟨T, θ, s, st, Post.bindS (R1 := RD e) p RD.eq fun d s1 v θ1 H1 st1 r1 p1 => ⟨T, θ1, s1, st1.st, Post.bindS (R1 := RD e) p1 RD.eq fun d2 s2 u θ2 H2 st2 r2 p2 => ?_⟩⟩
  cases d with
  | int i => cases d2 with
    | int j =>
      have p2 : Post e W (RI e) T θ2 s2 σ H2 (if (inRng i && inRng j) = true then .ok (rngD i j) s2 else .bad) Q := p2
      split at p2
      case isTrue hr =>
        rw [Bool.and_eq_true] at hr
        obtain ⟨h1, h2⟩ := inRng_of hr.1
        obtain ⟨h3, h4⟩ := inRng_of hr.2
        exact ⟨i, j, by rw [show v = V.int i from r1.2, show u = V.int j from r2.2], ⟨h1, h2, h3, h4⟩, p2 _ T θ2 H2 (Stp.refl st2.st) ⟨rfl, itok_rng i (j - i).toNat rfl⟩⟩
      case isFalse => exact p2.elim
    | _ => exact p2.elim
  | _ => exact p2.elim
theorem pi_zip' {ba bb : Bn} {p2 tpos : Pos} {elts : List Expr} {kk : Nat} (hK : X.K = e.g.K) (hg : Gl X "zip") (hm : X.mg "zip" = none) (ha : PB e W X a ba) (hb : PB e W X b bb) (hs : notStar a = true) (hs2 : notStar b = true) :
    PI X (.Tuple elts kk tpos) (.Call (.Name "zip" p2) [a, b] [] pos) (TIv e W fun s => (ba.d s).bind fun d s => (bb.d s).bind fun e s => Out.ofO s (zipDD d e)) := by
  refine pi_imp (pi_zip2 (tg := .Tuple elts kk tpos) hg hm (pa_cons (pe_d ha) (pa_cons (pe_d hb) pa_nil (star_one hs2)) (star_one hs)) (star_one hs) (by rw [star_one hs2]; rfl)) fun σ H Q ⟨T, θ, s, st, p⟩ => ?_
  refine ⟨T, θ, s, st, Post.bindS (R1 := RD e) p RD.eq fun d s1 v θ1 H1 st1 r1 p1 => ⟨T, θ1, s1, st1.st, Post.bindS (R1 := RD e) p1 RD.eq fun d2 s2 u θ2 H2 st2 r2 p2 => ?_⟩⟩
  have r1 := r1.on st2
  obtain ⟨ds, h1, p3⟩ := p2.ofO
  unfold zipDD at h1
  cases e1 : seqD d with
  | none => rw [e1] at h1; cases h1
  | some xs => cases e2 : seqD d2 with
    | none => rw [e1, e2] at h1; cases h1
    | some ys =>
      rw [e1, e2] at h1
      cases h1
      obtain ⟨b1, q1, vs, rfl, k1⟩ := sh_sq hK e1 r1.2
      obtain ⟨b2, q2, us, rfl, k2⟩ := sh_sq hK e2 r2.2
      exact ⟨b1, b2, q1, q2, vs, us, rfl, (k1 _ _ Kp.refl).1, (k2 _ _ Kp.refl).1, p3 _ T θ2 H2 (Stp.refl st2.st) ⟨rfl, itok_zip2 k1 k2⟩⟩
theorem pi_enum' {bl : Bn} {p2 tpos : Pos} {elts : List Expr} {kk : Nat} (hK : X.K = e.g.K) (hg : Gl X "enumerate") (hm : X.mg "enumerate" = none) (hl : PB e W X a bl) (hs : notStar a = true) :
    PI X (.Tuple elts kk tpos) (.Call (.Name "enumerate" p2) [a] [] pos) (TIv e W fun s => (bl.d s).bind fun d s => Out.ofO s (enumDD d)) := by
  refine pi_imp (pi_enum2 (tg := .Tuple elts kk tpos) hg hm (pa_cons (pe_d hl) pa_nil (star_one hs)) (starEach1 hs)) fun σ H Q ⟨T, θ, s, st, p⟩ => ?_
  refine ⟨T, θ, s, st, Post.bindS (R1 := RD e) p RD.eq fun d s1 v θ1 H1 st1 r1 p1 => ?_⟩
  obtain ⟨ds, h1, p3⟩ := p1.ofO
  obtain ⟨xs, e1, rfl⟩ := map_of (h1 : (seqD d).map (enumD 0) = some ds)
  obtain ⟨b1, q1, vs, rfl, k1⟩ := sh_sq hK e1 r1.2
  exact ⟨b1, q1, vs, rfl, (k1 _ _ Kp.refl).1, p3 _ T θ1 H1 (Stp.refl st1.st) ⟨rfl, itok_enum2 k1⟩⟩
end
end VM

set_option linter.all false
set_option maxRecDepth 100000
/-! VM18: targets. -/
namespace VM
open PySem PySem.Spec PyProof.Rows L2
/-- other slots are as they were -/
def Sets (is : List Nat) (σ σ' : L2.St) : Prop := σ'.length = σ.length ∧ ∀ j, j ∉ is → σ'[j]? = σ[j]?
def SetsC (is : List Nat) (s s' : S) : Prop := s'.om = s.om ∧ s'.sl.length = s.sl.length ∧ ∀ j, j ∉ is → s'.sl[j]? = s.sl[j]?
theorem Sets.refl {is : List Nat} {σ : L2.St} : Sets is σ σ := ⟨rfl, fun _ _ => rfl⟩
theorem SetsC.refl {is : List Nat} {s : S} : SetsC is s s := ⟨rfl, rfl, fun _ _ => rfl⟩
theorem Sets.trans {is js : List Nat} {a b c : L2.St} (h : Sets is a b) (h2 : Sets js b c) : Sets (is ++ js) a c := ⟨h2.1.trans h.1, fun j hj => by
  simp only [List.mem_append, not_or] at hj
  exact (h2.2 j hj.2).trans (h.2 j hj.1)⟩
theorem SetsC.trans {is js : List Nat} {a b c : S} (h : SetsC is a b) (h2 : SetsC js b c) : SetsC (is ++ js) a c := ⟨h2.1.trans h.1, h2.2.1.trans h.2.1, fun j hj => by
  simp only [List.mem_append, not_or] at hj
  exact (h2.2.2 j hj.2).trans (h.2.2 j hj.1)⟩
theorem sets_one (σ : L2.St) (i : Nat) (v : Option V) : Sets [i] σ (σ.set i v) := ⟨by simp, fun j hj => List.getElem?_set_ne (by simp at hj; exact fun z => hj z.symm)⟩
theorem setsC_one (s : S) (i : Nat) (c : C) : SetsC [i] s (s.put i c) := ⟨rfl, by simp [S.put], fun j hj => List.getElem?_set_ne (by simp at hj; exact fun z => hj z.symm)⟩
section
variable {e : Env2} {W : WX} {X : Cx} {l a b tg : Expr} {pos : Pos} {T T0 T' : AP1} {θ θ' : List Addr} {s s' : S} {σ σ' : L2.St} {H H' : Hp} {d d' : D} {v : V} {p : Addr} {g : G} {O : OP} {c : C}
/-- a store -/
theorem put_ok {i : Nat} (st : StR e T θ s σ H) (rc : RC e T0 T θ s σ H c v) (h : putC s i c = some s') : StR e T0 θ s' (σ.set i (some v)) H ∧ Kp (Own T θ s.sl σ) H (Own T0 θ s'.sl (σ.set i (some v))) H ∧ s' = s.put i c := by
  cases c with
  | sh d =>
    have h : (if i < s.sl.length then some (s.put i (.sh d)) else none) = some s' := h
    split at h
    case isTrue hi =>
      cases h
      obtain ⟨rfl, u, e1, sh⟩ := rc
      cases e1
      obtain ⟨h1, h2⟩ := st.put hi (c := .sh d) (by simp) (ov := some v) ⟨v, rfl, sh⟩
      exact ⟨h1, h2, rfl⟩
    case isFalse => cases h
  | ow d =>
    have h : (if i < s.sl.length then some (s.put i (.ow d)) else none) = some s' := h
    split at h
    case isTrue hi =>
      cases h
      obtain ⟨p, rfl, rfl, nT, rt⟩ := rc
      obtain ⟨h1, h2⟩ := st.putOw hi rt nT
      exact ⟨h1, h2, rfl⟩
    case isFalse => cases h
  | _ => cases h
def TGv (e : Env2) (g : MG) : TG := fun v σ H Q => ∃ T0 T θ s c s', StR e T θ s σ H ∧ RC e T0 T θ s σ H c v ∧ asgC g c s = some s' ∧
  ∀ σ', StR e T0 θ s' σ' H → Kp (Own T θ s.sl σ) H (Own T0 θ s'.sl σ') H → Sets (tgIx g) σ σ' → SetsC (tgIx g) s s' → Q σ' H
def TGvs (e : Env2) (gs : List MG) : TGs := fun vs σ H Q => ∃ T θ s ds s', StR e T θ s σ H ∧ Shs e.g (Own T θ s.sl σ) H ds vs ∧ asgDs gs ds s = some s' ∧
  ∀ σ', StR e T θ s' σ' H → Kp (Own T θ s.sl σ) H (Own T θ s'.sl σ') H → Sets (tgIxs gs) σ σ' → SetsC (tgIxs gs) s s' → Q σ' H
theorem pg_imp {t t' : TG} (h : PG X tg t) (i : ∀ v σ H Q, t' v σ H Q → t v σ H Q) : PG X tg t' := ⟨fun pins s σ H v u Q I r q => h.run pins s σ H v u Q I r (i v σ H Q q)⟩
theorem pgs_imp {es : List Expr} {t t' : TGs} (h : PGs X es t) (i : ∀ v σ H Q, t' v σ H Q → t v σ H Q) : PGs X es t' := ⟨fun pins s σ H v u Q I r q => h.run pins s σ H v u Q I r (i v σ H Q q)⟩
theorem pgv_name {i : Nat} {x : Str} (hN : X.N.Nodup) (hi : X.N[i]? = some x) (hx : Loc X.env.scope x) (hf : X.fn x = true ∨ X.env.scope.names.lookup x = some .local) : PG X (.Name x pos) (TGv e (.nm i)) :=
  pg_imp (pg_name hN hi hx hf) fun v σ H Q ⟨T0, T, θ, s, c, s', st, rc, h, nx⟩ => by
    obtain ⟨h1, h2, h3⟩ := put_ok st rc (h : putC s i c = some s')
    exact nx _ h1 h2 (sets_one σ i _) (by rw [h3]; exact setsC_one s i c)
theorem asg_one {env : Env} {ex : Expr} {es : List Expr} (h : notStar ex = true) : (assignEach (ex :: es) env).map (·.2) = assign ex env :: (assignEach es env).map (·.2) := by
  cases ex <;> first | rfl | cases h
theorem pgvs : ∀ {es : List Expr} {gs : List MG}, Paired (fun ex g => PG X ex (TGv e g) ∧ notStar ex = true) es gs → PGs X es (TGvs e gs)
  | _, _, .nil => pgs_imp pgs_nil fun vs σ H Q ⟨T, θ, s, ds, s', st, sh, h, nx⟩ => by
    cases ds with
    | nil => cases h; cases sh; exact ⟨rfl, nx σ st Kp.refl Sets.refl SetsC.refl⟩
    | cons d ds => exact nomatch (h : none = some s')
  | ex :: es, g :: gs, .cons h r => pgs_imp (pgs_cons h.1 (pgvs r) (asg_one h.2)) fun vs σ H Q ⟨T, θ, s, ds, s', st, sh, ha, nx⟩ => by
    cases ds with
    | nil => exact nomatch (ha : none = some s')
    | cons d ds =>
      obtain ⟨v, vr, rfl, s1, s2⟩ := sh
      obtain ⟨sm, h1, h2⟩ := opt_bind (ha : (asgC g (.sh d) s).bind (asgDs gs ds) = some s')
      exact ⟨v, vr, rfl, T, T, θ, s, .sh d, sm, st, ⟨rfl, v, rfl, s1⟩, h1, fun σ1 st1 k1 se1 sc1 => ⟨T, θ, sm, ds, s', st1, Shs.keep k1 _ _ s2, h2, fun σ' st2 k2 se2 sc2 => nx σ' st2 (k1.trans k2) (se1.trans se2) (sc1.trans sc2)⟩⟩
theorem asg_len : ∀ (es : List Expr) (env : Env), (assignEach es env).length = es.length
  | [], _ => rfl
  | ex :: es, env => by
    have h := asg_len es env
    cases ex <;> exact congrArg Nat.succ h
theorem asg_star : ∀ {es : List Expr} {gs : List MG} (env : Env), Paired (fun ex g => PG X ex (TGv e g) ∧ notStar ex = true) es gs → (assignEach es env).findIdx? (·.1) = none
  | _, _, env, .nil => rfl
  | ex :: es, g :: gs, env, .cons h r => by
    have e1 : assignEach (ex :: es) env = (false, assign ex env) :: assignEach es env := by
      have h2 := h.2
      cases ex <;> first | rfl | cases h2
    rw [e1, List.findIdx?_cons, asg_star env r]
    rfl
theorem asgDs_len : ∀ {gs : List MG} {ds : List D} {s s' : S}, asgDs gs ds s = some s' → ds.length = gs.length
  | [], [], _, _, _ => rfl
  | [], _ :: _, _, s', h => nomatch (h : none = some s')
  | _ :: _, [], _, s', h => nomatch (h : none = some s')
  | g :: gs, d :: ds, s, s', h => by
    obtain ⟨sm, _, h2⟩ := opt_bind (h : (asgC g (.sh d) s).bind (asgDs gs ds) = some s')
    simp [asgDs_len h2]
theorem paired_len {α β : Type} {R : α → β → Prop} {as : List α} {bs : List β} (h : Paired R as bs) : as.length = bs.length := Paired.length h
theorem pgv_tup (hK : X.K = e.g.K) (hc : X.calm = true) {es : List Expr} {gs : List MG} {k : Nat} (h : Paired (fun ex g => PG X ex (TGv e g) ∧ notStar ex = true) es gs) : PG X (.Tuple es k pos) (TGv e (.tp gs)) :=
  pg_imp (pg_tup hc (pgvs h) (asg_len es X.env) (asg_star X.env h)) fun v σ H Q ⟨T0, T, θ, s, c, s', st, rc, ha, nx⟩ => by
    cases c with
    | sh d => cases d with
      | tup ds =>
        obtain ⟨rfl, u, e1, a, vs, rfl, h1, r⟩ := rc
        cases e1
        have ha : asgDs gs ds s = some s' := ha
        exact ⟨a, vs, rfl, hK ▸ h1.sq, by rw [r.length, asgDs_len ha, paired_len h], T, θ, s, ds, s', st, r, ha, nx⟩
      | prs ds =>
        obtain ⟨rfl, u, e1, a, vs, rfl, h1, n1, r⟩ := rc
        cases e1
        have ha : asgDs gs ds s = some s' := ha
        exact ⟨a, vs, rfl, .of h1, by rw [r.length, asgDs_len ha, paired_len h], T, θ, s, ds, s', st, r, ha, nx⟩
      | _ => exact nomatch (ha : none = some s')
    | _ => exact nomatch (ha : none = some s')
end
end VM

set_option linter.all false
set_option maxRecDepth 100000
/-! VM19: a comprehension's block. -/
namespace VM
open PySem PySem.Spec PyProof.Rows L2
section
variable {e : Env2} {W : WX} {X : Cx} {l a b tg : Expr} {pos : Pos} {T T0 T' : AP1} {θ θ' : List Addr} {s s' : S} {σ σ' : L2.St} {H H' : Hp} {d d' : D} {v : V} {p : Addr} {g : G} {O : OP} {c : C}
/-- a slot is forgotten, or filled -/
theorem put_any (st : StR e T θ s σ H) (i : Nat) {c : C} (no : ∀ d, c ≠ .ow d) {ov : Option V} (h : SlotOk e (Own T θ s.sl σ) θ H c ov) :
    StR e T θ { s with sl := s.sl.set i c } (σ.set i ov) H ∧ Kp (Own T θ s.sl σ) H (Own T θ (s.sl.set i c) (σ.set i ov)) H := by
  by_cases hi : i < s.sl.length
  · exact st.put hi no h
  · rw [List.set_eq_of_length_le (by omega), List.set_eq_of_length_le (l := σ) (by rw [← st.len]; omega)]
    exact ⟨st, Kp.refl⟩
theorem wipe_ok (st : StR e T θ s σ H) : ∀ vs : List Nat, StR e T θ { s with sl := wipeC s.sl vs } (wipe σ vs) H ∧ Kp (Own T θ s.sl σ) H (Own T θ (wipeC s.sl vs) (wipe σ vs)) H
  | [] => ⟨st, Kp.refl⟩
  | v :: vs => by
    obtain ⟨h1, h2⟩ := wipe_ok st vs
    obtain ⟨h3, h4⟩ := put_any h1 v (c := .un) (by simp) (ov := none) True.intro
    exact ⟨h3, h2.trans h4⟩
theorem share_ok : ∀ (vs : List Nat) {s : S}, StR e T θ s σ H → StR e T θ (shareAll s vs) σ H ∧ Kp (Own T θ s.sl σ) H (Own T θ (shareAll s vs).sl σ) H
  | [], s, st => ⟨st, Kp.refl⟩
  | v :: vs, s, st => by
    unfold shareAll
    cases q : s.get v with
    | ow d =>
      obtain ⟨a, _, st2, k, _⟩ := st.freeze q
      obtain ⟨h1, h2⟩ := share_ok vs st2
      exact ⟨h1, k.trans h2⟩
    | _ => exact share_ok vs st
theorem share_len : ∀ (vs : List Nat) (s : S), (shareAll s vs).sl.length = s.sl.length
  | [], s => rfl
  | v :: vs, s => by
    unfold shareAll
    cases q : s.get v with
    | ow d => exact (share_len vs _).trans (by simp [S.put])
    | _ => exact share_len vs s
/-- no root in these slots -/
def NoOw (s : S) (vs : List Nat) : Prop := ∀ v ∈ vs, ∀ d, s.get v ≠ .ow d
theorem share_get : ∀ (vs : List Nat) (s : S) (i : Nat), (∀ d, s.get i ≠ .ow d) → ∀ d, (shareAll s vs).get i ≠ .ow d
  | [], s, i, h => h
  | v :: vs, s, i, h => by
    unfold shareAll
    cases q : s.get v with
    | ow d =>
      refine share_get vs _ i fun d' => ?_
      by_cases hi : i = v
      · subst hi
        exact absurd q (h d)
      · have : (s.put v (.sh d)).get i = s.get i := by
          unfold S.get S.put
          rw [List.getD_eq_getElem?_getD, List.getD_eq_getElem?_getD, List.getElem?_set_ne (fun z => hi z.symm)]
        rw [this]
        exact h d'
    | _ => exact share_get vs s i h
theorem share_no : ∀ (vs : List Nat) (s : S), NoOw (shareAll s vs) vs
  | [], s => fun _ h => by cases h
  | v :: vs, s => fun i hi => by
    rcases List.mem_cons.mp hi with rfl | hi
    · unfold shareAll
      cases q : s.get i with
      | ow d =>
        refine share_get vs _ i fun d' => ?_
        have hl := S.get_lt q (by simp)
        have : (s.put i (.sh d)).get i = .sh d := by
          unfold S.get S.put
          rw [List.getD_eq_getElem?_getD, List.getElem?_set_self hl]; rfl
        rw [this]
        simp
      | _ => exact share_get vs s i fun d => by rw [q]; simp
    · unfold shareAll
      cases q : s.get v with
      | ow d => exact share_no vs _ i hi
      | _ => exact share_no vs s i hi
/-- the names of the block get back what they had -/
def backS (τ σ : L2.St) : List Nat → L2.St
  | [] => τ
  | v :: vs => (backS τ σ vs).set v (σ[v]?.bind id)
theorem back_wipe (σ : L2.St) (vs : List Nat) : ∀ us : List Nat, (∀ i, i ∈ vs → i ∈ us ∨ (wipe σ vs)[i]? = σ[i]?) → True := fun _ _ => True.intro
theorem backS_len (τ σ : L2.St) : ∀ vs : List Nat, (backS τ σ vs).length = τ.length
  | [] => rfl
  | v :: vs => by unfold backS; rw [List.length_set, backS_len τ σ vs]
theorem backS_get (τ σ : L2.St) (hl : τ.length = σ.length) : ∀ (vs : List Nat) (i : Nat), (backS τ σ vs)[i]? = if i ∈ vs then σ[i]? else τ[i]?
  | [], i => by simp [backS]
  | v :: vs, i => by
    unfold backS
    by_cases h : i = v
    · subst h
      by_cases hi : i < σ.length
      · rw [List.getElem?_set_self (by rw [backS_len, hl]; exact hi), if_pos List.mem_cons_self, List.getElem?_eq_getElem hi]
        rfl
      · rw [List.getElem?_eq_none (by rw [List.length_set, backS_len]; omega), if_pos List.mem_cons_self, List.getElem?_eq_none (by omega)]
    · rw [List.getElem?_set_ne (fun z => h z.symm), backS_get τ σ hl vs i]
      simp [h]
theorem wipe_get (σ : L2.St) : ∀ (vs : List Nat) (i : Nat), i ∉ vs → (wipe σ vs)[i]? = σ[i]?
  | [], i, _ => rfl
  | v :: vs, i, h => by
    simp only [List.mem_cons, not_or] at h
    unfold wipe
    rw [List.getElem?_set_ne (fun z => h.1 z.symm), wipe_get σ vs i h.2]
theorem backS_wipe (σ : L2.St) (vs : List Nat) : backS (wipe σ vs) σ vs = σ := by
  apply List.ext_getElem?
  intro i
  rw [backS_get _ _ (wipe_length σ vs)]
  by_cases h : i ∈ vs
  · rw [if_pos h]
  · rw [if_neg h, wipe_get σ vs i h]
theorem back_ok {τ : L2.St} {old : S} {σ0 : L2.St} {θ0 : List Addr} {T0 : AP1} {H0 : Hp} (st0 : StR e T0 θ0 old σ0 H0) : ∀ (vs : List Nat), (∀ v ∈ vs, ∀ d, old.get v ≠ .ow d) → ∀ {s : S}, StR e T θ s τ H → Pfx θ0 θ → Kp (Own T0 θ0 old.sl σ0) H0 (Own T θ s.sl τ) H →
    StR e T θ { s with sl := backC s.sl old.sl vs } (backS τ σ0 vs) H ∧ Kp (Own T θ s.sl τ) H (Own T θ (backC s.sl old.sl vs) (backS τ σ0 vs)) H
  | [], _, s, st, _, _ => ⟨st, Kp.refl⟩
  | v :: vs, no, s, st, pf, k => by
    obtain ⟨h1, h2⟩ := back_ok st0 vs (fun u hu => no u (List.mem_cons_of_mem _ hu)) st pf k
    have nv : ∀ d, old.sl.getD v .un ≠ .ow d := no v List.mem_cons_self
    have ok : SlotOk e (Own T θ (backC s.sl old.sl vs) (backS τ σ0 vs)) θ H (old.sl.getD v .un) (σ0[v]?.bind id) := by
      cases q : old.sl[v]? with
      | none => rw [List.getD_eq_getElem?_getD, q]; exact True.intro
      | some c =>
        rw [List.getD_eq_getElem?_getD, q] at nv ⊢
        exact SlotOk.keep (k.trans h2) pf nv (st0.slot v c q)
    obtain ⟨h3, h4⟩ := put_any h1 v (c := old.sl.getD v .un) nv ok
    exact ⟨h3, h2.trans h4⟩
/-! ### the tests -/
theorem ptsv {ifs : List Expr} {bs : List Bn} (h : Paired (fun ex b => PB e W X ex b) ifs bs) (hl : ifs.length ≤ 1) : PTs X ifs (TTv e W (ifsOf bs)) := by
  cases h with
  | nil => exact ⟨fun pins s σ H Q I ⟨T, θ, s0, st, p⟩ => pts_nil.run pins s σ H Q I (p true T θ H (Stp.refl st) ⟨rfl, rfl⟩)⟩
  | cons h r => cases r with
    | nil => exact pts_one h.pt
    | cons _ _ => simp at hl
/-! ### a turn -/
theorem lcTurn_ok {be : Bn} {tgt : MG} {ifs : List Bn} {vs : List Nat} {acc acc2 : List D} {s2 : S} (h : lcTurn be tgt ifs vs d acc s = .ok acc2 s2) : ∃ s1 k s3, asgC tgt (.sh d) s = some s1 ∧ ifsOf ifs s1 = .ok k s3 ∧
    ((k = false ∧ acc2 = acc ∧ s2 = { s3 with sl := wipeC s3.sl vs }) ∨ (k = true ∧ ∃ dd s4, be.d s3 = .ok dd s4 ∧ pushD acc dd = some acc2 ∧ s2 = { s4 with sl := wipeC s4.sl vs })) := by
  unfold lcTurn at h
  cases h1 : asgC tgt (.sh d) s with
  | none => rw [h1] at h; cases h
  | some s1 =>
    rw [h1] at h
    cases h2 : ifsOf ifs s1 with
    | ok k s3 =>
      simp only [h2, Out.bind] at h
      cases k with
      | false => cases h; exact ⟨s1, _, s3, rfl, h2, .inl ⟨rfl, rfl, rfl⟩⟩
      | true =>
        cases h3 : be.d s3 with
        | ok dd s4 =>
          simp only [h3, Out.bind] at h
          cases h4 : pushD acc dd with
          | none => rw [h4] at h; cases h
          | some acc3 => rw [h4] at h; cases h; exact ⟨s1, _, s3, rfl, h2, .inr ⟨rfl, dd, s4, h3, h4, rfl⟩⟩
        | exc _ _ _ => simp only [h3, Out.bind] at h; cases h
        | bad => simp only [h3, Out.bind] at h; cases h
    | exc _ _ _ => simp only [h2, Out.bind] at h; cases h
    | bad => simp only [h2, Out.bind] at h; cases h
abbrev W0 : WX := fun _ _ _ _ => False
/-- how far a block has come: the list at D has grown -/
structure Grown (e : Env2) (T : AP1) (A : Addr) (θ : List Addr) (s : S) (θ2 : List Addr) (s2 : S) (σ : L2.St) (H H2 : Hp) (acc2 : List D) : Prop where
  st : StR e T θ2 s2 σ H2
  pf : Pfx θ θ2
  kp : Kp (Own T θ s.sl σ) H (Own T θ2 s2.sl σ) H2
  tk : ∀ a, T a → a ≠ A → H2 a = H a
  acc : ∃ vs, H2 A = some (.lst vs) ∧ Shs e.g (Own T θ2 s2.sl σ) H2 acc2 vs
theorem Grown.trans {A : Addr} {θ2 θ3 : List Addr} {s2 s3 : S} {H2 H3 : Hp} {acc2 acc3 : List D} (a : Grown e T A θ s θ2 s2 σ H H2 acc2) (b : Grown e T A θ2 s2 θ3 s3 σ H2 H3 acc3) : Grown e T A θ s θ3 s3 σ H H3 acc3 :=
  ⟨b.st, fun n p h => b.pf n p (a.pf n p h), a.kp.trans b.kp, fun c h n => (b.tk c h n).trans (a.tk c h n), b.acc⟩
theorem wipe_sets {is vs : List Nat} {σ σ2 : L2.St} (h : Sets is σ σ2) (hs : ∀ i ∈ is, i ∈ vs) : wipe σ2 vs = wipe σ vs := by
  have key : ∀ us : List Nat, (∀ j, j ∈ us → (wipe σ2 us)[j]? = (wipe σ us)[j]?) ∧ ∀ j, j ∉ us → (wipe σ2 us)[j]? = σ2[j]? ∧ (wipe σ us)[j]? = σ[j]? := fun us => by
    refine ⟨?_, fun j hj => ⟨wipe_get σ2 us j hj, wipe_get σ us j hj⟩⟩
    induction us with
    | nil => intro j hj; cases hj
    | cons u us ih =>
      intro j hj
      unfold wipe
      by_cases z : j = u
      · subst z
        by_cases hl : j < σ.length
        · rw [List.getElem?_set_self (by rw [wipe_length, h.1]; exact hl), List.getElem?_set_self (by rw [wipe_length]; exact hl)]
        · rw [List.getElem?_eq_none (by rw [List.length_set, wipe_length, h.1]; omega), List.getElem?_eq_none (by rw [List.length_set, wipe_length]; omega)]
      · rw [List.getElem?_set_ne (fun y => z y.symm), List.getElem?_set_ne (fun y => z y.symm)]
        rcases List.mem_cons.mp hj with y | y
        · exact absurd y z
        · exact ih j y
  apply List.ext_getElem?
  intro j
  by_cases hj : j ∈ vs
  · exact (key vs).1 j hj
  · rw [((key vs).2 j hj).1, ((key vs).2 j hj).2]
    exact h.2 j fun z => hj (hs j z)
theorem turn_ok {be : Bn} {tgt : MG} {ifs : List Bn} {vs : List Nat} {acc acc2 : List D} {s2 : S} {A : Addr} {x : V} {accv : List V} {σ0 : L2.St} {Nx : Hp → Prop} (hw : ∀ i ∈ tgIx tgt, i ∈ vs) (hσ : σ = wipe σ0 vs) (hww : wipe σ vs = σ)
    (st : StR e T θ s σ H) (hT : T A) (hA : H A = some (.lst accv)) (sh : Shs e.g (Own T θ s.sl σ) H acc accv) (hx : Sh e.g (Own T θ s.sl σ) H d x) (h : lcTurn be tgt ifs vs d acc s = .ok acc2 s2)
    (nx : ∀ θ2 H2, Grown e T A θ s θ2 s2 σ H H2 acc2 → Nx H2) :
    TGv e tgt x σ H fun σ2 H2 => wipe σ2 vs = wipe σ0 vs ∧ TTv e W0 (ifsOf ifs) σ2 H2 fun k H3 =>
      if k = true then TDv e W0 be.d σ2 H3 fun y H4 => ∃ acc, H4 A = some (.lst acc) ∧ acc.length < sizeLine ∧ Nx (upd H4 A (.lst (acc ++ [y]))) else Nx H3 := by
  obtain ⟨s1, k, s3, h1, h2, h3⟩ := lcTurn_ok h
  refine ⟨T, T, θ, s, .sh d, s1, st, ⟨rfl, x, rfl, hx⟩, h1, fun σ2 st1 k1 se sc => ?_⟩
  have ew : wipe σ2 vs = σ := (wipe_sets se hw).trans hww
  refine ⟨ew.trans hσ, T, θ, s1, st1, ?_⟩
  show Post e W0 RB T θ s1 σ2 H (ifsOf ifs s1) _
  rw [h2]
  intro kb T' θ' H' stp rb
  obtain ⟨rfl, rfl⟩ := rb
  rcases h3 with ⟨rfl, rfl, rfl⟩ | ⟨rfl, dd, s4, h4, h5, rfl⟩
  · rw [if_neg Bool.false_ne_true]
    obtain ⟨w1, w2⟩ := wipe_ok stp.st vs
    rw [ew] at w1 w2
    have kk := (k1.trans stp.kp).trans w2
    exact nx θ' H' ⟨w1, stp.pf, kk, fun a ha _ => stp.tk a ha, accv, (stp.tk A hT).trans hA, Shs.keep kk _ _ sh⟩
  · rw [if_pos rfl]
    refine ⟨T', θ', s3, stp.st, ?_⟩
    show Post e W0 (RD e) T' θ' s3 σ2 H' (be.d s3) _
    rw [h4]
    intro y T2 θ2 H2 stp2 rd
    obtain ⟨rfl, sy⟩ := rd
    have hA2 : H2 A = some (.lst accv) := (stp2.tk A hT).trans ((stp.tk A hT).trans hA)
    unfold pushD at h5
    split at h5
    case isTrue hl =>
      cases h5
      refine ⟨accv, hA2, by rw [sh.length]; exact hl, ?_⟩
      obtain ⟨m1, m2⟩ := stp2.st.mutT hT hA2 id (isRt.nc (o := .lst accv) True.intro) (.lst (accv ++ [y])) True.intro
      obtain ⟨w1, w2⟩ := wipe_ok m1 vs
      rw [ew] at w1 w2
      have k2 := m2.trans w2
      have k3 := (k1.trans stp.kp).trans stp2.kp
      refine nx θ2 _ ⟨w1, fun n p hn => stp2.pf n p (stp.pf n p hn), k3.trans k2, fun a ha ne => ?_, accv ++ [y], upd_same, (Shs.keep (k3.trans k2) _ _ sh).app (Shs.one (Sh.keep k2 _ _ sy))⟩
      rw [upd_ne ne, stp2.tk a ha, stp.tk a ha]
    case isFalse => cases h5
end
end VM

set_option linter.all false
set_option maxRecDepth 100000
/-! VM20: comprehensions. -/
namespace VM
open PySem PySem.Spec PyProof.Rows L2
section
variable {e : Env2} {W : WX} {X : Cx} {l a b tg : Expr} {pos : Pos} {T T0 T' : AP1} {θ θ' : List Addr} {s s' : S} {σ σ' : L2.St} {H H' : Hp} {d d' : D} {v : V} {p : Addr} {g : G} {O : OP} {c : C}
theorem Grown.stp {A : Addr} {θ2 θ3 : List Addr} {s2 s3 : S} {H2 H3 : Hp} {acc2 : List D} (hT : T A) (a : Grown e T A θ s θ2 s2 σ H H2 acc2) (b : Stp e T θ2 s2 T θ3 s3 σ H2 H3) : Grown e T A θ s θ3 s3 σ H H3 acc2 := by
  obtain ⟨vs, h1, h2⟩ := a.acc
  exact ⟨b.st, fun n p h => b.pf n p (a.pf n p h), a.kp.trans b.kp, fun c h n => (b.tk c h).trans (a.tk c h n), vs, (b.tk A hT).trans h1, Shs.keep b.kp _ _ h2⟩
theorem loop_cons {turn : D → List D → S → Out (List D)} {d : D} {ds acc res : List D} {s sF : S} (h : lcLoop turn (d :: ds) acc s = .ok res sF) : ∃ acc2 s2, turn d acc s = .ok acc2 s2 ∧ lcLoop turn ds acc2 s2 = .ok res sF := by
  have h : ((turn d acc s).bind fun acc s => lcLoop turn ds acc s) = .ok res sF := h
  cases h1 : turn d acc s with
  | ok acc2 s2 => rw [h1] at h; exact ⟨acc2, s2, rfl, h⟩
  | exc _ _ _ => rw [h1] at h; cases h
  | bad => rw [h1] at h; cases h
/-- a walk of turns -/
theorem walk_ok {turn : D → List D → S → Out (List D)} {J : It} {ds acc0 res : List D} {sF : S} {A : Addr} {Qd : Hp → Prop} {O0 : OP} {H0 : Hp} {accv : List V} {BODY : V → Hp → (Hp → Prop) → Prop} (it : ItOk e.g J O0 H0 ds) (st : StR e T θ s σ H) (hT : T A) (hA : H A = some (.lst accv)) (sh : Shs e.g (Own T θ s.sl σ) H acc0 accv) (k0 : Kp O0 H0 (Own T θ s.sl σ) H)
    (hl : lcLoop turn ds acc0 s = .ok res sF)
    (step : ∀ d acc s' acc2 s2 θ' H' x Nx, Grown e T A θ s θ' s' σ H H' acc → Sh e.g (Own T θ' s'.sl σ) H' d x → turn d acc s' = .ok acc2 s2 → (∀ θ2 H2, Grown e T A θ' s' θ2 s2 σ H' H2 acc2 → Nx H2) → BODY x H' Nx)
    (fin : ∀ θ' H', Grown e T A θ s θ' sF σ H H' res → Qd H') :
    ∃ Wf : Nat → Nat → Hp → Prop, (∃ m, Wf 0 m H) ∧ ∀ i m H, Wf i m H → (J.stop i H ∧ Qd H) ∨ (J.go i H ∧ ∃ Nx : Hp → Prop, (∀ H', Nx H' → ∃ m', m' < m ∧ Wf (i + 1) m' H') ∧ ∀ x H', J.yld i H x H' → BODY x H' Nx) := by
  let Pv : Nat → Hp → Prop := fun i H' => ∃ θ' s' acc, Grown e T A θ s θ' s' σ H H' acc ∧ lcLoop turn (ds.drop i) acc s' = .ok res sF
  refine ⟨fun i m H' => m = ds.length - i ∧ i ≤ ds.length ∧ Pv i H', ⟨ds.length, by simp, Nat.zero_le _, θ, s, acc0, ⟨st, fun _ _ z => z, Kp.refl, fun _ _ _ => rfl, accv, hA, sh⟩, by simpa using hl⟩, ?_⟩
  rintro i m H1 ⟨rfl, hi, θ1, s1, acc, gr, hl1⟩
  by_cases hlt : i < ds.length
  · have hd : ds[i]? = some ds[i] := List.getElem?_eq_getElem hlt
    rw [List.drop_eq_getElem_cons hlt] at hl1
    obtain ⟨acc2, s2, t1, t2⟩ := loop_cons hl1
    obtain ⟨g1, g2⟩ := it.go i _ hd _ H1 (k0.trans gr.kp) fun a ha => gr.st.own_rt ha
    refine .inr ⟨g1, Pv (i + 1), fun H' p' => ⟨ds.length - (i + 1), by omega, rfl, hlt, p'⟩, fun x H2 hy => ?_⟩
    obtain ⟨T2, stp, rc⟩ := (g2 x H2 hy).stp gr.st
    obtain ⟨rfl, u, eu, shx⟩ := rc
    cases eu
    have gr2 := gr.stp hT stp
    exact step _ acc s1 acc2 s2 θ1 H2 x _ gr2 shx t1 fun θ3 H3 gr3 => ⟨θ3, s2, acc2, gr2.trans gr3, t2⟩
  · have ei : i = ds.length := by omega
    subst ei
    rw [List.drop_length] at hl1
    cases hl1
    exact .inl ⟨it.stop _ H1 (k0.trans gr.kp), fin θ1 H1 gr⟩
theorem wipe_wipe (σ : L2.St) (vs : List Nat) : wipe (wipe σ vs) vs = wipe σ vs := wipe_sets (is := vs) ⟨wipe_length σ vs, fun j hj => wipe_get σ vs j hj⟩ fun _ h => h
theorem noX_ok {α : Type} {r : Out α} {k : α → S → Out C} {Q : VK} (p : Post e W (RC e) T θ s σ H ((noX r).bind k) Q) : ∃ a s', r = .ok a s' ∧ Post e W (RC e) T θ s σ H (k a s') Q := by
  cases r with
  | ok a s' => exact ⟨a, s', rfl, p⟩
  | exc _ _ _ => exact p.elim
  | bad => exact p.elim
/-- the start and the end of a block -/
theorem blk_ok {J : It} {ds : List D} {vs : List Nat} {r : Out (List D)} {Q : VK} {A : Addr} (st : StR e T θ s σ H) (hA : H A = none)
    (p : Post e W (RC e) T θ s σ H ((noX r).bind fun ds s' => .ok (.ow (.lst ds)) { s' with sl := backC s'.sl (shareAll s vs).sl vs }) Q) :
    ∃ res sF, r = .ok res sF ∧ StR e (And1 T A) θ { shareAll s vs with sl := wipeC (shareAll s vs).sl vs } (wipe σ vs) (upd H A (.lst [])) ∧
      Kp (Own T θ s.sl σ) H (Own (And1 T A) θ (wipeC (shareAll s vs).sl vs) (wipe σ vs)) (upd H A (.lst [])) ∧
      ∀ θ' H', Grown e (And1 T A) A θ { shareAll s vs with sl := wipeC (shareAll s vs).sl vs } θ' sF (wipe σ vs) (upd H A (.lst [])) H' res → Q (.ref A) H' := by
  obtain ⟨res, sF, hr, p⟩ := noX_ok p
  obtain ⟨s1, k1⟩ := share_ok vs st
  have nT : ¬ T A := fun z => st.trn z hA
  obtain ⟨s2, k2, _⟩ := s1.air hA (.lst [])
  obtain ⟨s3, k3⟩ := wipe_ok s2 vs
  refine ⟨res, sF, hr, s3, (k1.trans k2).trans k3, fun θ' H' gr => ?_⟩
  have kk := (k2.trans k3).trans gr.kp
  obtain ⟨b1, b2⟩ := back_ok (τ := wipe σ vs) s1 vs (share_no vs s) gr.st gr.pf kk
  rw [backS_wipe] at b1 b2
  obtain ⟨vv, h1, h2⟩ := gr.acc
  refine p (.ref A) (And1 T A) θ' H' ⟨b1, gr.pf, (k1.trans kk).trans b2, fun _ z => .inl z, fun c hc => ?_⟩ ⟨A, rfl, rfl, nT, vv, h1, Shs.keep b2 _ _ h2⟩
  have ne : c ≠ A := fun y => nT (y ▸ hc)
  rw [gr.tk c (.inl hc) ne, upd_ne ne]
theorem imp_lc {be : Bn} {tgt : MG} {fit : S → Out (List D)} {ifs : List Bn} {vs : List Nat} {Q : VK} (hw : ∀ i ∈ tgIx tgt, i ∈ vs) (h : TEv e W (fun s => lcOf be tgt fit ifs vs s) σ H Q) :
    tLc (TIv e W fit) (TGv e tgt) (TTv e W0 (ifsOf ifs)) (TDv e W0 be.d) vs σ H Q := by
  obtain ⟨T, θ, s, st, p⟩ := h
  refine ⟨T, θ, s, st, Post.bindS (R1 := RI e) p RI.eq fun ds s1 J θ1 H1 st1 r1 p1 => fun A hA => ?_⟩
  obtain ⟨res, sF, hr, s3, k3, fin⟩ := blk_ok (J := J) (ds := ds) st1.st hA p1
  refine walk_ok (acc0 := []) (turn := lcTurn be tgt ifs vs) (BODY := fun x H' Nx => TGv e tgt x (wipe σ vs) H' fun σ2 H2 => wipe σ2 vs = wipe σ vs ∧ TTv e W0 (ifsOf ifs) σ2 H2 fun b H3 =>
    if b = true then TDv e W0 be.d σ2 H3 fun y H4 => ∃ acc, H4 A = some (.lst acc) ∧ acc.length < sizeLine ∧ Nx (upd H4 A (.lst (acc ++ [y]))) else Nx H3) r1.2 s3 (.inr rfl) upd_same rfl k3 hr (fun d acc s' acc2 s2 θ' H' x Nx gr hx ht nx => ?_) fun θ' H' gr => fin θ' H' gr
  obtain ⟨vv, h1, h2⟩ := gr.acc
  exact turn_ok hw rfl (wipe_wipe σ vs) gr.st (.inr rfl) h1 h2 hx ht nx
theorem lc2Turn_ok {be : Bn} {tgt tgt1 : MG} {ifs ifs1 : List Bn} {fit1 : S → Out (List D)} {vs vs1 : List Nat} {acc acc2 : List D} {s2 : S} (h : lc2Turn be tgt ifs tgt1 fit1 ifs1 vs vs1 d acc s = .ok acc2 s2) : ∃ s1 k s3, asgC tgt (.sh d) s = some s1 ∧ ifsOf ifs s1 = .ok k s3 ∧
    ((k = false ∧ acc2 = acc ∧ s2 = { s3 with sl := wipeC s3.sl vs }) ∨ (k = true ∧ ∃ ds1 s4 s5, fit1 s3 = .ok ds1 s4 ∧ lcLoop (lcTurn be tgt1 ifs1 vs1) ds1 acc { s4 with sl := wipeC s4.sl vs1 } = .ok acc2 s5 ∧ s2 = { s5 with sl := wipeC s5.sl vs })) := by
  unfold lc2Turn at h
  cases h1 : asgC tgt (.sh d) s with
  | none => rw [h1] at h; cases h
  | some s1 =>
    rw [h1] at h
    cases h2 : ifsOf ifs s1 with
    | ok k s3 =>
      simp only [h2, Out.bind] at h
      cases k with
      | false => cases h; exact ⟨s1, _, s3, rfl, h2, .inl ⟨rfl, rfl, rfl⟩⟩
      | true =>
        cases h3 : fit1 s3 with
        | ok ds1 s4 =>
          simp only [h3, Out.bind] at h
          cases h4 : lcLoop (lcTurn be tgt1 ifs1 vs1) ds1 acc { s4 with sl := wipeC s4.sl vs1 } with
          | ok acc3 s5 => rw [h4] at h; cases h; exact ⟨s1, _, s3, rfl, h2, .inr ⟨rfl, ds1, s4, s5, h3, h4, rfl⟩⟩
          | exc _ _ _ => rw [h4] at h; cases h
          | bad => rw [h4] at h; cases h
        | exc _ _ _ => simp only [h3, Out.bind] at h; cases h
        | bad => simp only [h3, Out.bind] at h; cases h
    | exc _ _ _ => simp only [h2, Out.bind] at h; cases h
    | bad => simp only [h2, Out.bind] at h; cases h
theorem imp_lc2 {be : Bn} {tgt tgt1 : MG} {fit fit1 : S → Out (List D)} {ifs ifs1 : List Bn} {vs vs1 : List Nat} {Q : VK} (hw : ∀ i ∈ tgIx tgt, i ∈ vs) (hw1 : ∀ i ∈ tgIx tgt1, i ∈ vs1) (hv : ∀ i ∈ vs1, i ∈ vs) (h : TEv e W (fun s => lc2Of be tgt fit ifs tgt1 fit1 ifs1 vs vs1 s) σ H Q) :
    tLc2 (TIv e W fit) (TGv e tgt) (TTv e W0 (ifsOf ifs)) (TIv e W0 fit1) (TGv e tgt1) (TTv e W0 (ifsOf ifs1)) (TDv e W0 be.d) vs vs1 σ H Q := by
  obtain ⟨T, θ, s, st, p⟩ := h
  refine ⟨T, θ, s, st, Post.bindS (R1 := RI e) p RI.eq fun ds s1 J θ1 H1 st1 r1 p1 => fun A hA => ?_⟩
  obtain ⟨res, sF, hr, s3, k3, fin⟩ := blk_ok (J := J) (ds := ds) st1.st hA p1
  refine walk_ok (acc0 := []) (turn := lc2Turn be tgt ifs tgt1 fit1 ifs1 vs vs1) (BODY := fun x H' Nx => TGv e tgt x (wipe σ vs) H' fun σ2 H2 => wipe σ2 vs = wipe σ vs ∧ TTv e W0 (ifsOf ifs) σ2 H2 fun b H3 =>
    if b = true then TIv e W0 fit1 σ2 H3 fun J1 H4 => ∃ W1 : Nat → Nat → Hp → Prop, (∃ m, W1 0 m H4) ∧ ∀ j k H, W1 j k H →
      (J1.stop j H ∧ Nx H) ∨ (J1.go j H ∧ ∃ Nx1 : Hp → Prop, (∀ H', Nx1 H' → ∃ k', k' < k ∧ W1 (j + 1) k' H') ∧ ∀ x H', J1.yld j H x H' → TGv e tgt1 x (wipe σ2 vs1) H' fun σ3 H5 => wipe σ3 vs1 = wipe σ2 vs1 ∧ TTv e W0 (ifsOf ifs1) σ3 H5 fun b H6 =>
        if b = true then TDv e W0 be.d σ3 H6 fun y H7 => ∃ acc, H7 A = some (.lst acc) ∧ acc.length < sizeLine ∧ Nx1 (upd H7 A (.lst (acc ++ [y]))) else Nx1 H6)
    else Nx H3) r1.2 s3 (.inr rfl) upd_same rfl k3 hr (fun d acc s' acc2 s2 θ' H' x Nx gr hx ht nx => ?_) fun θ' H' gr => fin θ' H' gr
  obtain ⟨vv, h1, h2⟩ := gr.acc
  obtain ⟨t1, k, t3, f1, f2, f3⟩ := lc2Turn_ok ht
  refine ⟨_, _, θ', s', .sh d, t1, gr.st, ⟨rfl, x, rfl, hx⟩, f1, fun σ2 u1 ku1 se sc => ?_⟩
  have ew : wipe σ2 vs = wipe σ vs := (wipe_sets se hw).trans (wipe_wipe σ vs)
  refine ⟨ew, _, θ', t1, u1, ?_⟩
  show Post e W0 RB _ θ' t1 σ2 H' (ifsOf ifs t1) _
  rw [f2]
  intro kb T2 θ2 H2 stp rb
  obtain ⟨rfl, rfl⟩ := rb
  rcases f3 with ⟨rfl, rfl, rfl⟩ | ⟨rfl, ds1, t4, t5, f4, f5, rfl⟩
  · rw [if_neg Bool.false_ne_true]
    obtain ⟨w1, w2⟩ := wipe_ok stp.st vs
    rw [ew] at w1 w2
    have kk := (ku1.trans stp.kp).trans w2
    exact nx θ2 H2 ⟨w1, stp.pf, kk, fun a ha _ => stp.tk a ha, vv, (stp.tk A (.inr rfl)).trans h1, Shs.keep kk _ _ h2⟩
  · rw [if_pos rfl]
    refine ⟨_, θ2, t3, stp.st, ?_⟩
    show Post e W0 (RI e) _ θ2 t3 σ2 H2 (fit1 t3) _
    rw [f4]
    intro J1 T3 θ3 H3 stp3 ri
    obtain ⟨rfl, it1⟩ := ri
    obtain ⟨w1, w2⟩ := wipe_ok stp3.st vs1
    have kA : Kp (Own (And1 T A) θ' s'.sl (wipe σ vs)) H' (Own (And1 T A) θ3 (wipeC t4.sl vs1) (wipe σ2 vs1)) H3 := ((ku1.trans stp.kp).trans stp3.kp).trans w2
    have hA3 : H3 A = some (.lst vv) := (stp3.tk A (.inr rfl)).trans ((stp.tk A (.inr rfl)).trans h1)
    refine walk_ok (turn := lcTurn be tgt1 ifs1 vs1) (BODY := fun x H' Nx1 => TGv e tgt1 x (wipe σ2 vs1) H' fun σ3 H5 => wipe σ3 vs1 = wipe σ2 vs1 ∧ TTv e W0 (ifsOf ifs1) σ3 H5 fun b H6 =>
        if b = true then TDv e W0 be.d σ3 H6 fun y H7 => ∃ acc, H7 A = some (.lst acc) ∧ acc.length < sizeLine ∧ Nx1 (upd H7 A (.lst (acc ++ [y]))) else Nx1 H6) it1 w1 (.inr rfl) hA3 (Shs.keep kA _ _ h2) w2 f5 (fun d acc s' acc2 s2 θ' H' x Nx gr hx ht nx => ?_) fun θ5 H5 gr5 => ?_
    · obtain ⟨vv, h1, h2⟩ := gr.acc
      exact turn_ok hw1 rfl (wipe_wipe σ2 vs1) gr.st (.inr rfl) h1 h2 hx ht nx
    · obtain ⟨v5, h5, sh5⟩ := gr5.acc
      obtain ⟨w3, w4⟩ := wipe_ok gr5.st vs
      have ew2 : wipe (wipe σ2 vs1) vs = wipe σ vs := (wipe_sets (is := vs1) ⟨wipe_length σ2 vs1, fun j hj => wipe_get σ2 vs1 j hj⟩ hv).trans ew
      rw [ew2] at w3 w4
      exact nx θ5 H5 ⟨w3, fun n p hn => gr5.pf n p (stp3.pf n p (stp.pf n p hn)), (kA.trans gr5.kp).trans w4, fun a ha ne => (gr5.tk a ha ne).trans ((stp3.tk a ha).trans (stp.tk a ha)), v5, h5, Shs.keep w4 _ _ sh5⟩
end
end VM

set_option linter.all false
set_option maxRecDepth 100000
/-! VM21: calls of defs. -/
namespace VM
open PySem PySem.Spec PyProof.Rows L2
/-- what a call comes to -/
def ArgPost (e : Env2) (T : AP1) (θ : List Addr) (H : Hp) (om : List D) (r : Rs) (Q : VK) (E : XK) : Prop := match r with
  | .ok c om' => ∀ v T' θ' H', Stp e T θ ⟨[], om⟩ T' θ' ⟨[], om'⟩ [] H H' → RC e T T' θ' ⟨[], om'⟩ [] H' c v → Q v H'
  | .exc k fs om' => ∀ θ' H' d, Stp e T θ ⟨[], om⟩ T θ' ⟨[], om'⟩ [] H H' → XAt e (Own T θ' [] []) H' d fs → E (.ref (e.g.ca k)) (some d) H'
  | .bad => False
/-- a def keeps what the evaluator says of it -/
structure FnVM (P : Program) (w : World) (K : PySem.W.Frag) (mg : Str → Option Value) (base : Heap) (e : Env2) (gd : Bool) (k : Nat) (f : Addr) (cm : List C → List D → Rs) : Prop where
  kp : PySem.W.keepIn K (.ref f) = true
  run : ∀ (A : Around) (outer : List Env) (s : Shared) (H : Hp) (us : List Value) (vs : List V) (Q : VK) (E : XK) (T : AP1) (θ : List Addr) (cs : List C) (om : List D), Room k A → (gd = true → A.guards = some []) → Env0 P w K mg base A outer s H → Vals vs us →
    StR e T θ ⟨cs, om⟩ (vs.map some) H → (∀ c ∈ cs, ∀ d, c ≠ .ow d) → ArgPost e T θ H om (cm cs om) Q E → codeAny (model P w) A (.call (.ref f) ⟨us, []⟩) (CR (L2.CX P w) outer P w H s Q E) s
def RAs (e : Env2) : Rl (List C) (List V) := fun T T' θ' s' σ H' cs vs => T' = T ∧ go e (Own T θ' s'.sl σ) θ' H' cs vs
where go (e : Env2) (O : OP) (θ : List Addr) (H : Hp) : List C → List V → Prop
  | [], vs => vs = []
  | c :: cs, vs => ∃ v r, vs = v :: r ∧ (∀ d, c ≠ .ow d) ∧ SlotOk e O θ H c (some v) ∧ go e O θ H cs r
section
variable {e : Env2} {W : WX} {X : Cx} {l a b tg : Expr} {pos : Pos} {T T0 T' : AP1} {θ θ' : List Addr} {s s' : S} {σ σ' : L2.St} {H H' : Hp} {d d' : D} {v : V} {p : Addr} {g : G} {O O' : OP} {c : C}
theorem RAs.eq {T1 θ1 s1 H1 d v} (h : RAs e T T1 θ1 s1 σ H1 d v) : T1 = T := h.1
theorem ago_len : ∀ {cs : List C} {vs : List V}, RAs.go e O θ H cs vs → cs.length = vs.length
  | [], _, h => by cases h; rfl
  | c :: cs, _, ⟨v, r, e1, _, _, h⟩ => by subst e1; simp [ago_len h]
theorem ago_at : ∀ {cs : List C} {vs : List V}, RAs.go e O θ H cs vs → ∀ {i : Nat} {c : C}, cs[i]? = some c → (∀ d, c ≠ .ow d) ∧ ∃ v, vs[i]? = some v ∧ SlotOk e O θ H c (some v)
  | [], _, h, i, c, hc => by simp at hc
  | c0 :: cs, _, ⟨v, r, e1, no, ok, h⟩, 0, c, hc => by subst e1; simp at hc; subst hc; exact ⟨no, v, rfl, ok⟩
  | c0 :: cs, _, ⟨v, r, e1, no, ok, h⟩, i + 1, c, hc => by
    subst e1
    obtain ⟨a, u, b, z⟩ := ago_at h (i := i) (by simpa using hc)
    exact ⟨a, u, by simpa using b, z⟩
theorem ago_keep (k : Kp O H O' H') (ht : Pfx θ θ') : ∀ {cs : List C} {vs : List V}, RAs.go e O θ H cs vs → RAs.go e O' θ' H' cs vs
  | [], _, h => h
  | c :: cs, _, ⟨v, r, e1, no, ok, h⟩ => ⟨v, r, e1, no, SlotOk.keep k ht no ok, ago_keep k ht h⟩
abbrev TAs (e : Env2) (W : WX) (f : S → Out (List C)) : TA := TO e W (RAs e) f
theorem imp_an {Q : List V → Hp → Prop} (h : TAs e W (fun s => .ok [] s) σ H Q) : tNil σ H Q := by
  obtain ⟨T, θ, s, st, p⟩ := h
  exact p [] T θ H (Stp.refl st) ⟨rfl, rfl⟩
theorem imp_ac {b : Bn} {bs : List Bn} {Q : List V → Hp → Prop} (h : TAs e W (asOf (b :: bs)) σ H Q) : tCons (TEv e W b.e) (TAs e W (asOf bs)) σ H Q := by
  obtain ⟨T, θ, s, st, p⟩ := h
  have p : Post e W (RAs e) T θ s σ H ((b.e s).bind fun c s => match c with
    | .ow d => (asOf bs s).bind fun cs s => .ok (.sh d :: cs) s
    | .un => .bad
    | .ex _ => .bad
    | c => (asOf bs s).bind fun cs s => .ok (c :: cs) s) Q := p
  refine ⟨T, θ, s, st, p.bind fun c s1 v T1 θ1 H1 st1 r1 _ p1 => ?_⟩
  have fin : ∀ c', (∀ d, c' ≠ .ow d) → Stp e T θ s T θ1 s1 σ H H1 → SlotOk e (Own T θ1 s1.sl σ) θ1 H1 c' (some v) → Post e W (RAs e) T θ s σ H ((asOf bs s1).bind fun cs s => .ok (c' :: cs) s) Q → TAs e W (asOf bs) σ H1 fun vs H2 => Q (v :: vs) H2 := fun c' no st2 ok p2 => by
    refine ⟨T, θ1, s1, st2.st, (p2.shift st2).bindS RAs.eq fun cs s2 vs θ2 H2 st3 r3 p3 => ?_⟩
    exact p3 (v :: vs) T θ2 H2 (Stp.refl st3.st) ⟨rfl, v, vs, rfl, no, SlotOk.keep st3.kp st3.pf no ok, r3.2⟩
  cases c with
  | ow d =>
    obtain ⟨st2, sh⟩ := RC.share st1 r1 rfl
    exact fin (.sh d) (by simp) st2 ⟨v, rfl, sh⟩ p1
  | un => exact p1.elim
  | ex _ => exact p1.elim
  | sh d => obtain ⟨rfl, ok⟩ := r1; exact fin _ (by simp) st1 ok p1
  | hd n => obtain ⟨rfl, ok⟩ := r1; exact fin _ (by simp) st1 ok p1
  | clo _ _ => obtain ⟨rfl, ok⟩ := r1; exact fin _ (by simp) st1 ok p1
/-- an argument's expression does what the evaluator says -/
abbrev PAs (e : Env2) (W : WX) (X : Cx) : List Expr → List Bn → Prop := Paired fun ex b => PE X ex (TEv e W b.e) ∧ notStar ex = true
theorem pa_as : ∀ {es : List Expr} {bs : List Bn}, PAs e W X es bs → PA X es (TAs e W (asOf bs))
  | _, _, .nil => pa_imp pa_nil fun _ _ _ => imp_an
  | _, _, .cons h r => pa_imp (pa_cons h.1 (pa_as r) (star_one h.2)) fun _ _ _ => imp_ac
theorem plains' : ∀ {es : List Expr} {bs : List Bn}, PAs e W X es bs → ∀ pos, (backTo pos (starEach es X.env)).any (·.1) = false
  | _, _, .nil, pos => rfl
  | _, _, .cons h r, pos => by rw [star_one h.2]; exact plains' r pos
/-! ### into the call, and out of it -/
/-- what the caller owns beside its handles -/
def TSl (T : AP1) (s : S) (σ : L2.St) : AP1 := fun a => T a ∨ ∃ i, OwnAt s.sl σ i a
theorem own_nil {om : List D} : ∀ a, Own (TSl T s σ) θ [] [] a ↔ Own T θ s.sl σ a := fun a => by
  constructor
  · rintro ((z | z) | z | ⟨i, d, h, _⟩)
    · exact .inl z
    · exact .inr (.inr z)
    · exact .inr (.inl z)
    · simp at h
  · rintro (z | z | z)
    · exact .inl (.inl z)
    · exact .inr (.inl z)
    · exact .inl (.inr z)
theorem own_args {cs : List C} {τ : L2.St} (no : ∀ c ∈ cs, ∀ d, c ≠ .ow d) : ∀ a, Own T θ cs τ a ↔ Own T θ [] [] a := fun a => by
  constructor
  · rintro (z | z | ⟨i, d, h, _⟩)
    · exact .inl z
    · exact .inr (.inl z)
    · exact absurd rfl (no _ (List.mem_of_getElem? h) d)
  · rintro (z | z | ⟨i, d, h, _⟩)
    · exact .inl z
    · exact .inr (.inl z)
    · simp at h
theorem Kp.iff {O1 O2 : OP} (k : Kp O H O' H') (h1 : ∀ a, O1 a → O a) (h1' : ∀ a, O a → O1 a) (h2 : ∀ a, O2 a → O' a) (hp : Pfx O1.th O2.th := by exact Pfx.refl) : Kp O1 H O2 H' := And.intro hp fun a o e nt n => by
  obtain ⟨x, y⟩ := k.2 a o e nt fun z => n (h1' a z)
  exact ⟨fun z => x (h2 a z), y⟩
theorem callee_st (R : StR e T θ s σ H) {cs : List C} {vs : List V} (h : RAs.go e (Own T θ s.sl σ) θ H cs vs) : StR e (TSl T s σ) θ ⟨cs, s.om⟩ (vs.map some) H ∧ ∀ c ∈ cs, ∀ d, c ≠ .ow d := by
  have no : ∀ c ∈ cs, ∀ d, c ≠ .ow d := fun c hc => by
    obtain ⟨i, hi⟩ := List.mem_iff_getElem?.mp hc
    exact (ago_at h hi).1
  have eO : ∀ a, Own (TSl T s σ) θ cs (vs.map some) a ↔ Own T θ s.sl σ a := fun a => (own_args no a).trans (own_nil (om := []) a)
  have k : Kp (Own T θ s.sl σ) H (Own (TSl T s σ) θ cs (vs.map some)) H := Kp.less fun a z => (eO a).mp z
  refine ⟨⟨by simp [ago_len h], fun i c hc => ?_, R.hlen, fun n d p h1 h2 => (R.hnd n d p h1 h2).keep k rfl, R.nd, fun i a ⟨d, h1, _⟩ => absurd rfl (no _ (List.mem_of_getElem? h1) d), fun i j a ⟨d, h1, _⟩ => absurd rfl (no _ (List.mem_of_getElem? h1) d), fun a ha z => ?_, fun a z => ?_, R.tb⟩, no⟩
  · obtain ⟨n1, v, hv, ok⟩ := ago_at h hc
    have e1 : (vs.map some)[i]?.bind id = some v := by rw [List.getElem?_map, hv]; rfl
    rw [e1]
    exact SlotOk.keep k (fun _ _ z => z) n1 ok
  · rcases z with z | ⟨i, z⟩
    · exact R.hT a ha z
    · exact (R.sep i a z).2 ha
  · rcases z with z | ⟨i, z⟩
    · exact R.tr a z
    · obtain ⟨d, _, r⟩ := R.rootAt z
      exact r.rt
/-- behind a call -/
theorem after_call (R : StR e T θ s σ H) {om' : List D} {T1 T2 : AP1} {θ2 : List Addr} (F : Stp e (TSl T s σ) θ ⟨[], s.om⟩ T2 θ2 ⟨[], om'⟩ [] H H') (h1 : ∀ a, T1 a ↔ T a ∨ (T2 a ∧ ¬ TSl T s σ a)) (h3 : ∀ a, Own T1 θ2 s.sl σ a ↔ Own T2 θ2 [] [] a) :
    Stp e T θ s T1 θ2 { s with om := om' } σ H H' := by
  have k : Kp (Own T θ s.sl σ) H (Own T1 θ2 s.sl σ) H' := F.kp.iff (fun a z => (own_nil (om := []) a).mpr z) (fun a z => (own_nil (om := []) a).mp z) (fun a z => (h3 a).mp z) F.pf
  have sub : ∀ a, T1 a → T2 a := fun a z => by
    rcases (h1 a).mp z with z | z
    · exact F.tm a (.inl z)
    · exact z.1
  refine ⟨⟨R.len, fun j c hj => ?_, F.st.hlen, fun n d p q1 q2 => ?_, F.st.nd, fun j a z => ⟨fun y => ?_, fun y => F.st.hT a y (F.tm a (.inr ⟨j, z⟩))⟩, R.inj, fun a ha z => F.st.hT a ha (sub a z), fun a z => F.st.tr a (sub a z), F.st.tb⟩, F.pf, k, fun a z => (h1 a).mpr (.inl z), fun a z => F.tk a (.inl z)⟩
  · have z := R.slot j c hj
    by_cases ho : ∃ d, c = .ow d
    · obtain ⟨x, rfl⟩ := ho
      obtain ⟨pp, e1, r'⟩ := z
      exact ⟨pp, e1, r'.keep k (F.tk pp (.inr ⟨j, x, hj, slotV e1⟩))⟩
    · exact SlotOk.keep k F.pf (fun d y => ho ⟨d, y⟩) z
  · exact (F.st.hnd n d p q1 q2).keep (Kp.less fun a z => (h3 a).mp z) rfl
  · rcases (h1 a).mp y with y | y
    · exact (R.sep j a z).1 y
    · exact y.2 (.inr ⟨j, z⟩)
theorem after_same (R : StR e T θ s σ H) {om' : List D} {θ2 : List Addr} (F : Stp e (TSl T s σ) θ ⟨[], s.om⟩ (TSl T s σ) θ2 ⟨[], om'⟩ [] H H') : Stp e T θ s T θ2 { s with om := om' } σ H H' :=
  after_call R F (fun a => ⟨.inl, fun z => z.elim id fun z => absurd z.1 z.2⟩) fun a => (own_nil (om := []) a).symm
theorem after_new (R : StR e T θ s σ H) {om' : List D} {θ2 : List Addr} (F : Stp e (TSl T s σ) θ ⟨[], s.om⟩ (And1 (TSl T s σ) p) θ2 ⟨[], om'⟩ [] H H') (n : ¬ TSl T s σ p) : Stp e T θ s (And1 T p) θ2 { s with om := om' } σ H H' ∧ ∀ a, Own (And1 T p) θ2 s.sl σ a ↔ Own (And1 (TSl T s σ) p) θ2 [] [] a := by
  have h3 : ∀ a, Own (And1 T p) θ2 s.sl σ a ↔ Own (And1 (TSl T s σ) p) θ2 [] [] a := fun a => by
    constructor
    · rintro ((z | z) | z | z)
      · exact .inl (.inl (.inl z))
      · exact .inl (.inr z)
      · exact .inr (.inl z)
      · exact .inl (.inl (.inr z))
    · rintro (((z | z) | z) | z | ⟨i, d, h, _⟩)
      · exact .inl (.inl z)
      · exact .inr (.inr z)
      · exact .inl (.inr z)
      · exact .inr (.inl z)
      · simp at h
  refine ⟨after_call R F (fun a => ?_) h3, h3⟩
  constructor
  · rintro (z | z)
    · exact .inl z
    · subst z; exact .inr ⟨.inr rfl, n⟩
  · rintro (z | ⟨z | z, y⟩)
    · exact .inl z
    · exact absurd z y
    · exact .inr z
theorem imp_call {cm : List C → List D → Rs} {s1 : S} {cs : List C} {Q : VK} (st : StR e T θ s1 σ H) (p : Post e W (RC e) T θ s1 σ H (fromRs s1 (cm cs s1.om)) Q) : ArgPost e (TSl T s1 σ) θ H s1.om (cm cs s1.om) Q fun cls d H' => W cls d σ H' := by
  revert p
  generalize cm cs s1.om = r
  intro p
  cases r with
  | ok c om' =>
    cases c with
    | sh d =>
      intro v T' θ' H' F rc
      obtain ⟨rfl, u, e1, sh⟩ := rc
      cases e1
      have stp := after_same st F
      exact p v T θ' H' stp ⟨rfl, v, rfl, Sh.keep (Kp.less fun a z => (own_nil (om := []) a).mpr z) _ _ sh⟩
    | ow d =>
      intro v T' θ' H' F rc
      obtain ⟨q, rfl, rfl, n, rt⟩ := rc
      obtain ⟨stp, h3⟩ := after_new st F n
      exact p (.ref q) _ θ' H' stp ⟨q, rfl, rfl, fun z => n (.inl z), rt.keep (Kp.less fun a z => (h3 a).mp z) rfl⟩
    | _ => exact p.elim
  | exc k fs om' =>
    intro θ' H' d F x
    obtain ⟨fv, x1, x2, x3⟩ := x
    have k2 : Kp (Own (TSl T s1 σ) θ' [] []) H' (Own T θ' s1.sl σ) H' := Kp.less fun a z => (own_nil (om := []) a).mpr z
    exact p θ' H' d (after_same st F) ⟨fv, x1, (k2.xd x1 x2).2, ShF.keep k2 _ _ x3⟩
  | bad => exact p
/-- f(..) -/
theorem pe_fn {bs : List Bn} {k : Nat} {gd : Bool} {f : Addr} {x : Str} {pn : Pos} {es : List Expr} {cm : List C → List D → Rs} (F : FnVM X.prog X.w X.K X.mg X.base e gd k f cm) (hr : Room k X.A) (hgd : gd = true → X.A.guards = some []) (tk : Takes X W) (hg : Gl X x) (hm : X.mg x = some (.ref f))
    (hdb : (x == ("__debug__" : Str)) = false) (h : PAs e W X es bs) : PE X (.Call (.Name x pn) es [] pos) (TEv e W fun s => (asOf bs s).bind fun cs s => fromRs s (cm cs s.om)) := by
  have core : ∀ (pins : List (Addr × Obj)) (s : Shared) (σ : L2.St) (H : Hp) (us : List Value) (vs : List V) (Q : VK), Inv X pins σ H s → Vals vs us → (∃ T θ s1 cs, StR e T θ s1 σ H ∧ RAs.go e (Own T θ s1.sl σ) θ H cs vs ∧ Post e W (RC e) T θ s1 σ H (fromRs s1 (cm cs s1.om)) Q) →
      wpAny (model X.prog X.w) X.A (call (.ref f) us) (EP X pins σ Q) X.xe s := fun pins s σ H us vs Q I r ⟨T, θ, s1, cs, st, ra, p⟩ => by
    obtain ⟨c1, c2⟩ := callee_st st ra
    refine wpAny_call (codeAny_mono (F.run X.A X.stack s H us vs Q (fun cls d H' => W cls d σ H') _ θ cs s1.om hr hgd I.env0 r c1 c2 (imp_call st p)) fun rr s' hq => ?_)
    cases rr with
    | error er => exact tk er s' (XE.of_call I (fun cls d H' h => h) hq)
    | ok fl => cases fl with
      | ret u => exact I.after hq
      | next => exact False.elim hq
      | brk => exact False.elim hq
      | cont => exact False.elim hq
  refine ⟨fun pins s σ H Q I q => wpAny_Call_Name_kw (ld_glob I hg hm ?_ hdb)⟩
  cases h with
  | nil =>
    refine PySem.W.callWith_K0 I.kIn F.kp (core pins s σ H [] [] Q I .nil ?_)
    obtain ⟨T, θ, s1, st, p⟩ := q
    exact ⟨T, θ, s1, [], st, rfl, p⟩
  | @cons ex1 b1 es1 bs1 h1 h2 =>
    have hp : PA X (ex1 :: es1) (TAs e W (asOf (b1 :: bs1))) := pa_as (.cons h1 h2)
    have q2 : TAs e W (asOf (b1 :: bs1)) σ H fun vs H1 => ∃ T θ s1 cs, StR e T θ s1 σ H1 ∧ RAs.go e (Own T θ s1.sl σ) θ H1 cs vs ∧ Post e W (RC e) T θ s1 σ H1 (fromRs s1 (cm cs s1.om)) Q := by
      obtain ⟨T, θ, s1, st, p⟩ := q
      exact ⟨T, θ, s1, st, Post.bindS (R1 := RAs e) p RAs.eq fun cs s2 vs θ2 H2 st2 r2 p2 => ⟨T, θ2, s2, cs, st2.st, r2.2, p2⟩⟩
    exact PySem.W.callWith_K (h₀ := X.base) I.ok.mod.kin F.kp (thn (hp.run pos pins s σ H _ I q2) fun us s1 ⟨vs, H1, I1, r, q1⟩ => ⟨I1.kIn, core pins s1 σ H1 us vs Q I1 r q1⟩) (star_one h1.2) (plains' h2 pos)
theorem fn_core {cm : List C → List D → Rs} {k : Nat} {gd : Bool} {f : Addr} (F : FnVM X.prog X.w X.K X.mg X.base e gd k f cm) (hr : Room k X.A) (hgd : gd = true → X.A.guards = some []) (tk : Takes X W) {pins : List (Addr × Obj)} {s : Shared} {us : List Value} {vs : List V} {Q : VK} (I : Inv X pins σ H s) (r : Vals vs us)
    {s1 : S} {cs : List C} (st : StR e T θ s1 σ H) (ra : RAs.go e (Own T θ s1.sl σ) θ H cs vs) (p : Post e W (RC e) T θ s1 σ H (fromRs s1 (cm cs s1.om)) Q) : wpAny (model X.prog X.w) X.A (call (.ref f) us) (EP X pins σ Q) X.xe s := by
  obtain ⟨c1, c2⟩ := callee_st st ra
  refine wpAny_call (codeAny_mono (F.run X.A X.stack s H us vs Q (fun cls d H' => W cls d σ H') _ θ cs s1.om hr hgd I.env0 r c1 c2 (imp_call st p)) fun rr s' hq => ?_)
  cases rr with
  | error er => exact tk er s' (XE.of_call I (fun cls d H' h => h) hq)
  | ok fl => cases fl with
    | ret u => exact I.after hq
    | next => exact False.elim hq
    | brk => exact False.elim hq
    | cont => exact False.elim hq
theorem fnAt_of {ok : List Nat} {f : Nat} (h : fnAt ok c = some f) : c = .sh (.fn f) ∧ f ∈ ok := by
  unfold fnAt at h
  split at h
  · split at h
    · next q => cases h; exact ⟨rfl, List.contains_iff_mem.mp q⟩
    · cases h
  · cases h
/-- x(..), x a name that holds a def -/
theorem pe_fnv {bs : List Bn} {k i : Nat} {ok : List Nat} {x : Str} {pn : Pos} {es : List Expr} {cm : Cm} {gds : Nat → Bool} (F : ∀ j ∈ ok, FnVM X.prog X.w X.K X.mg X.base e (gds j) k (e.g.fa j) (cm j) ∧ (gds j = true → X.A.guards = some [])) (hr : Room k X.A) (tk : Takes X W) (hN : X.N[i]? = some x) (hv : Vis X.env.scope x)
    (hdb : (x == ("__debug__" : Str)) = false) (hcd : (x == ("__classdict__" : Str)) = false) (h : PAs e W X es bs) : PE X (.Call (.Name x pn) es [] pos) (TEv e W fun s => match fnAt ok (s.get i) with
    | some f => (asOf bs s).bind fun cs s => fromRs s (cm f cs s.om)
    | none => .bad) := by
  refine ⟨fun pins s σ H Q I q => ?_⟩
  obtain ⟨T, θ, s0, st, p⟩ := q
  cases hf : fnAt ok (s0.get i) with
  | none =>
    have p : Post e W (RC e) T θ s0 σ H (match fnAt ok (s0.get i) with
      | some f => (asOf bs s0).bind fun cs s => fromRs s (cm f cs s.om)
      | none => .bad) Q := p
    rw [hf] at p
    exact p.elim
  | some f =>
    have p : Post e W (RC e) T θ s0 σ H (match fnAt ok (s0.get i) with
      | some f => (asOf bs s0).bind fun cs s => fromRs s (cm f cs s.om)
      | none => .bad) Q := p
    rw [hf] at p
    obtain ⟨e1, hmem⟩ := fnAt_of hf
    obtain ⟨F1, G1⟩ := F f hmem
    have hs : σ[i]? = some (some (.ref (e.g.fa f))) := by
      obtain ⟨v, h1, h2⟩ := st.slot i _ (S.get_of e1 (by simp))
      have h2 : v = .ref (e.g.fa f) := h2
      subst h2
      exact slotV h1
    refine wpAny_Call_Name_kw (thn ((pe_var (pos := pn) hN hv hdb hcd).run pins s σ H (fun v H1 => v = .ref (e.g.fa f) ∧ H1 = H) I ⟨.ref (e.g.fa f), hs, rfl, rfl⟩) fun u s1 ⟨v, H1, I1, r1, q1⟩ => ?_)
    obtain ⟨rfl, rfl⟩ := q1
    cases r1
    cases h with
    | nil =>
      exact PySem.W.callWith_K0 I1.kIn F1.kp (fn_core (cs := []) F1 hr G1 tk I1 .nil st rfl p)
    | @cons ex1 b1 es1 bs1 h1 h2 =>
      have hp : PA X (ex1 :: es1) (TAs e W (asOf (b1 :: bs1))) := pa_as (.cons h1 h2)
      have q2 : TAs e W (asOf (b1 :: bs1)) σ H1 fun vs H2 => ∃ T θ s1 cs, StR e T θ s1 σ H2 ∧ RAs.go e (Own T θ s1.sl σ) θ H2 cs vs ∧ Post e W (RC e) T θ s1 σ H2 (fromRs s1 (cm f cs s1.om)) Q :=
        ⟨T, θ, s0, st, Post.bindS (R1 := RAs e) p RAs.eq fun cs s2 vs θ2 H2 st2 r2 p2 => ⟨T, θ2, s2, cs, st2.st, r2.2, p2⟩⟩
      exact PySem.W.callWith_K (h₀ := X.base) I1.ok.mod.kin F1.kp (thn (hp.run pos pins s1 σ H1 _ I1 q2) fun us s1 ⟨vs, H2, I2, r, q1⟩ => ⟨I2.kIn, by
        obtain ⟨T, θ, s3, cs, z1, z2, z3⟩ := q1
        exact fn_core F1 hr G1 tk I2 r z1 z2 z3⟩) (star_one h1.2) (plains' h2 pos)
end
end VM

set_option linter.all false
set_option maxRecDepth 100000
/-! VM22: statements. -/
namespace VM
open PySem PySem.Spec PyProof.Rows L2
structure Stq (e : Env2) (T : AP1) (θ : List Addr) (s : S) (σ : L2.St) (H : Hp) (T' : AP1) (θ' : List Addr) (s' : S) (σ' : L2.St) (H' : Hp) : Prop where
  st : StR e T' θ' s' σ' H'
  pf : Pfx θ θ'
  kp : Kp (Own T θ s.sl σ) H (Own T' θ' s'.sl σ') H'
  tm : ∀ a, T a → T' a
  tk : ∀ a, T a → H' a = H a
def PostS (e : Env2) (W : WX) (T : AP1) (θ : List Addr) (s : S) (σ : L2.St) (H : Hp) (r : SO) (D : Ends) : Prop := match r with
  | .nx s' => ∀ θ' σ' H', Stq e T θ s σ H T θ' s' σ' H' → D.nx σ' H'
  | .rt c s' => ∀ v T' θ' σ' H', Stq e T θ s σ H T' θ' s' σ' H' → RC e T T' θ' s' σ' H' c v → D.rt v H'
  | .bk s' => ∀ θ' σ' H', Stq e T θ s σ H T θ' s' σ' H' → D.bk σ' H'
  | .ct s' => ∀ θ' σ' H', Stq e T θ s σ H T θ' s' σ' H' → D.ct σ' H'
  | .exc k fs s' => ∀ θ' σ' H' d, Stq e T θ s σ H T θ' s' σ' H' → XAt e (Own T θ' s'.sl σ') H' d fs → W (.ref (e.g.ca k)) (some d) σ' H'
  | .bad => False
def TSv (e : Env2) (W : WX) (f : S → SO) : TS := fun D σ H => ∃ T θ s, StR e T θ s σ H ∧ PostS e W T θ s σ H (f s) D
section
variable {e : Env2} {W : WX} {X : Cx} {l a b tg : Expr} {sm : Stmt} {pos : Pos} {T T0 T1 T2 T' : AP1} {θ θ1 θ2 θ' : List Addr} {s s1 s2 s' : S} {σ σ1 σ2 σ' : L2.St} {H H1 H2 H' : Hp} {d d' : D} {v : V} {p : Addr} {g : G} {O O' : OP} {c : C} {α β : Type} {R : Rl α β}
theorem Stp.q (a : Stp e T θ s T' θ' s' σ H H') : Stq e T θ s σ H T' θ' s' σ H' := ⟨a.st, a.pf, a.kp, a.tm, a.tk⟩
theorem Stq.refl (st : StR e T θ s σ H) : Stq e T θ s σ H T θ s σ H := (Stp.refl st).q
theorem Stq.trans (a : Stq e T θ s σ H T1 θ1 s1 σ1 H1) (b : Stq e T1 θ1 s1 σ1 H1 T2 θ2 s2 σ2 H2) : Stq e T θ s σ H T2 θ2 s2 σ2 H2 :=
  ⟨b.st, fun n p h => b.pf n p (a.pf n p h), a.kp.trans b.kp, fun c h => b.tm c (a.tm c h), fun c h => (b.tk c (a.tm c h)).trans (a.tk c h)⟩
theorem PostS.shift {r : SO} {D : Ends} (a : Stq e T θ s σ H T θ1 s1 σ1 H1) (p : PostS e W T θ s σ H r D) : PostS e W T θ1 s1 σ1 H1 r D := by
  cases r with
  | nx s' => exact fun θ' σ' H' st => p θ' σ' H' (a.trans st)
  | rt c s' => exact fun v T' θ' σ' H' st rc => p v T' θ' σ' H' (a.trans st) rc
  | bk s' => exact fun θ' σ' H' st => p θ' σ' H' (a.trans st)
  | ct s' => exact fun θ' σ' H' st => p θ' σ' H' (a.trans st)
  | exc k fs s' => exact fun θ' σ' H' d st x => p θ' σ' H' d (a.trans st) x
  | bad => exact p
/-- an expression first -/
theorem PostS.ofOut {r : Out α} {k : α → S → SO} {D : Ends} {Q1 : β → Hp → Prop} (p : PostS e W T θ s σ H (SO.ofOut r k) D)
    (h : ∀ c s1 v T1 θ1 H1, Stp e T θ s T1 θ1 s1 σ H H1 → R T T1 θ1 s1 σ H1 c v → PostS e W T θ s σ H (k c s1) D → Q1 v H1) : Post e W R T θ s σ H r Q1 := by
  cases r with
  | ok c s1 => exact fun v T1 θ1 H1 st rc => h c s1 v T1 θ1 H1 st rc p
  | exc k fs s' => exact fun θ' H' d st x => p θ' σ H' d st.q x
  | bad => exact p
theorem PostS.ofOutS {r : Out α} {k : α → S → SO} {D : Ends} {Q1 : β → Hp → Prop} (p : PostS e W T θ s σ H (SO.ofOut r k) D) (hT : ∀ {T1 θ1 s1 H1 c v}, R T T1 θ1 s1 σ H1 c v → T1 = T)
    (h : ∀ c s1 v θ1 H1, Stp e T θ s T θ1 s1 σ H H1 → R T T θ1 s1 σ H1 c v → PostS e W T θ1 s1 σ H1 (k c s1) D → Q1 v H1) : Post e W R T θ s σ H r Q1 :=
  p.ofOut fun c s1 v T1 θ1 H1 st rc p1 => by
    obtain rfl := hT rc
    exact h c s1 v θ1 H1 st rc (p1.shift st.q)
theorem ps_imp {t t' : TS} (h : PS X sm t) (i : ∀ D σ H, t' D σ H → t D σ H) : PS X sm t' := ⟨fun pins s σ H D I q => h.run pins s σ H D I (i D σ H q)⟩
theorem pss_imp {b : List Stmt} {t t' : TS} (h : PSs X b t) (i : ∀ D σ H, t' D σ H → t D σ H) : PSs X b t' := ⟨fun pins s σ H D I q => h.run pins s σ H D I (i D σ H q)⟩
/-! ### small ones -/
theorem imp_next {f : S → SO} (hf : ∀ s, f s = .nx s) {D : Ends} (h : TSv e W f D σ H) : tNext D σ H := by
  obtain ⟨T, θ, s, st, p⟩ := h
  rw [hf] at p
  exact p θ σ H (Stq.refl st)
theorem imp_bad {f : S → SO} (hf : ∀ s, f s = .bad) {D : Ends} (h : TSv e W f D σ H) : False := by
  obtain ⟨T, θ, s, st, p⟩ := h
  rw [hf] at p
  exact p.elim
theorem imp_brk {D : Ends} (h : TSv e W SO.bk D σ H) : tBreak D σ H := by
  obtain ⟨T, θ, s, st, p⟩ := h
  exact p θ σ H (Stq.refl st)
theorem imp_cont {D : Ends} (h : TSv e W SO.ct D σ H) : tCont D σ H := by
  obtain ⟨T, θ, s, st, p⟩ := h
  exact p θ σ H (Stq.refl st)
theorem imp_retN {D : Ends} (h : TSv e W (fun s => .rt (.sh .non) s) D σ H) : tRetN D σ H := by
  obtain ⟨T, θ, s, st, p⟩ := h
  exact p .non T θ σ H (Stq.refl st) ⟨rfl, _, rfl, rfl⟩
theorem imp_ret {f : S → Out C} {D : Ends} (h : TSv e W (fun s => SO.ofOut (f s) fun c s => .rt c s) D σ H) : tRet (TEv e W f) D σ H := by
  obtain ⟨T, θ, s, st, p⟩ := h
  exact ⟨T, θ, s, st, PostS.ofOut (R := RC e) p fun c s1 v T1 θ1 H1 st1 rc p1 => p1 v T1 θ1 σ H1 st1.q rc⟩
theorem imp_drop {f : S → Out C} {D : Ends} (h : TSv e W (fun s => SO.ofOut (f s) fun _ s => .nx s) D σ H) : tDrop (TEv e W f) D σ H := by
  obtain ⟨T, θ, s, st, p⟩ := h
  refine ⟨T, θ, s, st, PostS.ofOut (R := RC e) p fun c s1 v T1 θ1 H1 st1 rc p1 => ?_⟩
  cases c with
  | ow d => exact p1 θ1 σ H1 (RC.share st1 rc rfl).1.q
  | un => exact rc.elim
  | sh d => obtain ⟨rfl, _⟩ := rc; exact p1 θ1 σ H1 st1.q
  | hd n => obtain ⟨rfl, _⟩ := rc; exact p1 θ1 σ H1 st1.q
  | clo _ _ => obtain ⟨rfl, _⟩ := rc; exact p1 θ1 σ H1 st1.q
  | ex _ => obtain ⟨rfl, _⟩ := rc; exact p1 θ1 σ H1 st1.q
theorem imp_if {ft : S → Out Bool} {fa fb : S → SO} {D : Ends} (h : TSv e W (fun s => SO.ofOut (ft s) fun c s => match c with | true => fa s | false => fb s) D σ H) : tIfS (TTv e W ft) (TSv e W fa) (TSv e W fb) D σ H := by
  obtain ⟨T, θ, s, st, p⟩ := h
  refine ⟨T, θ, s, st, PostS.ofOutS (R := RB) p RB.eq fun c s1 v θ1 H1 st1 rb p1 => ?_⟩
  have e1 : c = v := rb.2
  subst e1
  cases c with
  | true => rw [if_pos rfl]; exact ⟨T, θ1, s1, st1.st, p1⟩
  | false => rw [if_neg Bool.false_ne_true]; exact ⟨T, θ1, s1, st1.st, p1⟩
/-- one statement, then the others -/
theorem imp_seq {fa fb : S → SO} {D : Ends} (h : TSv e W (fun s => match fa s with | .nx s => fb s | r => r) D σ H) : tSeq (TSv e W fa) (TSv e W fb) D σ H := by
  obtain ⟨T, θ, s, st, p⟩ := h
  refine ⟨T, θ, s, st, ?_⟩
  have p : PostS e W T θ s σ H (match fa s with | .nx s => fb s | r => r) D := p
  revert p
  generalize fa s = r
  intro p
  cases r with
  | nx s1 => exact fun θ1 σ1 H1 st1 => ⟨T, θ1, s1, st1.st, p.shift st1⟩
  | rt c s1 => exact p
  | bk s1 => exact p
  | ct s1 => exact p
  | exc k fs s1 => exact p
  | bad => exact p
/-! ### stores -/
theorem imp_asg {f : S → Out C} {tgt : MG} {D : Ends} (h : TSv e W (fun s => SO.ofOut (f s) fun c s => SO.ofO (asgC tgt c s)) D σ H) : tAsg (TEv e W f) (TGv e tgt) D σ H := by
  obtain ⟨T, θ, s, st, p⟩ := h
  refine ⟨T, θ, s, st, PostS.ofOut (R := RC e) p fun c s1 v T1 θ1 H1 st1 rc p1 => ?_⟩
  cases ha : asgC tgt c s1 with
  | none => rw [ha] at p1; exact p1.elim
  | some s2 =>
    rw [ha] at p1
    exact ⟨T, T1, θ1, s1, c, s2, st1.st, rc, ha, fun σ' st2 k2 se sc => p1 θ1 σ' H1 ⟨st2, st1.pf, st1.kp.trans k2, fun _ z => z, st1.tk⟩⟩
theorem imp_set {fv fi : S → Out D} {fo : S → Out PV} {D : Ends} (h : TSv e W (fun s => SO.ofOut (fv s) fun v s => SO.ofOut (fo s) fun x s => SO.ofOut (fi s) fun k s =>
    match (x.de s).bind fun d => setD d k v with
    | none => .bad
    | some d => SO.ofO (x.up s d)) D σ H) : tAsg (TDv e W fv) (gSub (TPv e W fo) (TDv e W fi) (RSet e.g)) D σ H := by
  obtain ⟨T, θ, s, st, p⟩ := h
  refine ⟨T, θ, s, st, PostS.ofOutS (R := RD e) p RD.eq fun dv s1 v θ1 H1 st1 r1 p1 => ⟨T, θ1, s1, st1.st, PostS.ofOutS (R := RP e) p1 RP.eq fun x s2 o θ2 H2 st2 r2 p2 => ⟨T, θ2, s2, st2.st, PostS.ofOutS (R := RD e) p2 RD.eq fun dk s3 i θ3 H3 st3 r3 p3 => ?_⟩⟩⟩
  have p3 : PostS e W T θ3 s3 σ H3 (match (x.de s3).bind fun d => setD d dk dv with
    | none => .bad
    | some d => SO.ofO (x.up s3 d)) D := p3
  cases q : (x.de s3).bind fun d => setD d dk dv with
  | none => rw [q] at p3; exact p3.elim
  | some d' =>
    rw [q] at p3
    obtain ⟨d, hd, hm⟩ := opt_bind q
    have p3 : PostS e W T θ3 s3 σ H3 (SO.ofO (x.up s3 d')) D := p3
    cases hu : x.up s3 d' with
    | none => rw [hu] at p3; exact p3.elim
    | some s4 =>
      rw [hu] at p3
      obtain ⟨p, ho, ep, hp, cn, nx⟩ := up_root st3.st (r2.on st3) hd hu
      have r1' := (r1.on st2).on st3
      exact ⟨Own T θ3 s3.sl σ, p, ho, d, dk, dv, d', ep, hp, cn, r3.2, r1'.2, hm, fun o' hc => p3 θ3 σ _ (nx o' hc).q⟩
def RAug (op : Operator) : TIp := fun x y H Q => ∃ i j c, x = .int i ∧ y = .int j ∧ augD op (.int i) (.int j) = some c ∧ ∀ k, c = .sh (.int k) → Q (.int k) H
theorem vm_iop (op : Operator) : PIp X op (RAug op) := by
  rintro pins s σ H x y v u Q I rx ry ⟨i, j, c, rfl, rfl, ef, q⟩
  cases op with
  | Add => cases ef; exact iop_add pins s σ H _ _ v u Q I rx ry ⟨i, j, rfl, rfl, q _ rfl⟩
  | Sub => cases ef; exact iop_sub pins s σ H _ _ v u Q I rx ry ⟨i, j, rfl, rfl, q _ rfl⟩
  | Mult =>
    have ef : (if (small i || small j) = true then some (C.sh (.int (i * j))) else none) = some c := ef
    split at ef
    case isTrue hl =>
      cases ef
      refine iop_mul pins s σ H _ _ v u Q I rx ry ⟨i, j, rfl, rfl, ?_, q _ rfl⟩
      rcases Bool.or_eq_true _ _ ▸ hl with z | z
      · exact .inl (small_of z)
      · exact .inr (small_of z)
    case isFalse => cases ef
  | _ => exact nomatch (ef : none = some c)
theorem aug_int {op : Operator} {d d' : D} {c : C} (h : augD op d d' = some c) : ∃ i j k, d = .int i ∧ d' = .int j ∧ c = .sh (.int k) := by
  cases d with
  | int i => cases d' with
    | int j => cases op with
      | Add => cases h; exact ⟨i, j, _, rfl, rfl, rfl⟩
      | Sub => cases h; exact ⟨i, j, _, rfl, rfl, rfl⟩
      | Mult =>
        have h : (if (small i || small j) = true then some (C.sh (.int (i * j))) else none) = some c := h
        split at h
        · cases h; exact ⟨i, j, _, rfl, rfl, rfl⟩
        · cases h
      | _ => exact nomatch (h : none = some c)
    | _ => exact nomatch (h : none = some c)
  | _ => exact nomatch (h : none = some c)
theorem imp_aug {i : Nat} {op : Operator} {fe : S → Out D} {D : Ends} (h : TSv e W (fun s => match s.get i with
    | .sh d => SO.ofOut (fe s) fun e s => match augD op d e with
      | some c => SO.ofO (putC s i c)
      | none => .bad
    | _ => .bad) D σ H) : tAug i (TDv e W fe) (RAug op) D σ H := by
  obtain ⟨T, θ, s, st, p⟩ := h
  have p : PostS e W T θ s σ H (match s.get i with
    | .sh d => SO.ofOut (fe s) fun e s => match augD op d e with
      | some c => SO.ofO (putC s i c)
      | none => .bad
    | _ => .bad) D := p
  cases q : s.get i with
  | sh d =>
    rw [q] at p
    obtain ⟨x, e1, sh⟩ := st.slot i _ (S.get_of q (by simp))
    refine ⟨x, slotV e1, T, θ, s, st, PostS.ofOutS (R := RD e) p RD.eq fun dd s1 y θ1 H1 st1 r1 p1 => ?_⟩
    have p1 : PostS e W T θ1 s1 σ H1 (match augD op d dd with
      | some c => SO.ofO (putC s1 i c)
      | none => .bad) D := p1
    cases ha : augD op d dd with
    | none => rw [ha] at p1; exact p1.elim
    | some c =>
      rw [ha] at p1
      have p1 : PostS e W T θ1 s1 σ H1 (SO.ofO (putC s1 i c)) D := p1
      obtain ⟨ii, jj, k, rfl, rfl, rfl⟩ := aug_int ha
      obtain rfl : x = .int ii := sh
      obtain rfl : y = .int jj := r1.2
      refine ⟨ii, jj, _, rfl, rfl, ha, fun k' ek => ?_⟩
      cases ek
      cases hp : putC s1 i (.sh (.int k)) with
      | none => rw [hp] at p1; exact p1.elim
      | some s2 =>
        rw [hp] at p1
        obtain ⟨z1, z2, _⟩ := put_ok (T0 := T) (v := V.int k) (c := .sh (.int k)) st1.st ⟨rfl, _, rfl, rfl⟩ hp
        exact p1 θ1 _ H1 ⟨z1, fun _ _ z => z, z2, fun _ z => z, fun _ _ => rfl⟩
  | _ => rw [q] at p; exact p.elim
/-! ### loops -/
theorem imp_for {fit : S → Out (List D)} {tgt : MG} {fb : S → SO} {D : Ends} (h : TSv e W (fun s => SO.ofOut (fit s) fun ds s => forLoop (fun d s => asgC tgt (.sh d) s) fb ds s) D σ H) : tFor (TIv e W fit) (TGv e tgt) (TSv e W fb) D σ H := by
  obtain ⟨T, θ, s, st, p⟩ := h
  refine ⟨T, θ, s, st, PostS.ofOutS (R := RI e) p RI.eq fun ds s1 J θ1 H1 st1 r1 p1 => ?_⟩
  let Pv : Nat → L2.St → Hp → Prop := fun i σ' H' => ∃ θ' s', Stq e T θ1 s1 σ H1 T θ' s' σ' H' ∧ PostS e W T θ' s' σ' H' (forLoop (fun d s => asgC tgt (.sh d) s) fb (ds.drop i) s') D
  refine ⟨fun i m σ' H' => m = ds.length - i ∧ i ≤ ds.length ∧ Pv i σ' H', ⟨ds.length, by simp, Nat.zero_le _, θ1, s1, Stq.refl st1.st, by simpa using p1⟩, ?_⟩
  rintro i m σ2 H2 ⟨rfl, hi, θ2, s2, sq, p2⟩
  by_cases hlt : i < ds.length
  · have hd : ds[i]? = some ds[i] := List.getElem?_eq_getElem hlt
    rw [List.drop_eq_getElem_cons hlt] at p2
    obtain ⟨g1, g2⟩ := r1.2.go i _ hd _ H2 sq.kp fun a ha => sq.st.own_rt ha
    refine .inr ⟨g1, Pv (i + 1), fun σ' H' p' => ⟨ds.length - (i + 1), by omega, rfl, hlt, p'⟩, fun x H3 hy => ?_⟩
    obtain ⟨T2, stp, rc⟩ := (g2 x H3 hy).stp sq.st
    have eT : T2 = T := rc.1
    subst eT
    have p3 := p2.shift stp.q
    have p3 : PostS e W T2 θ2 s2 σ2 H3 (match asgC tgt (.sh ds[i]) s2 with
      | none => .bad
      | some s => match fb s with
        | .nx s => forLoop (fun d s => asgC tgt (.sh d) s) fb (ds.drop (i + 1)) s
        | .ct s => forLoop (fun d s => asgC tgt (.sh d) s) fb (ds.drop (i + 1)) s
        | .bk s => .nx s
        | .rt c s => .rt c s
        | .exc k fs s => .exc k fs s
        | .bad => .bad) D := p3
    cases ha : asgC tgt (.sh ds[i]) s2 with
    | none => rw [ha] at p3; exact p3.elim
    | some s3 =>
      rw [ha] at p3
      refine ⟨T2, T2, θ2, s2, .sh ds[i], s3, stp.st, rc, ha, fun σ3 st3 k3 se sc => ?_⟩
      have sq3 : Stq e T2 θ2 s2 σ2 H3 T2 θ2 s3 σ3 H3 := ⟨st3, fun _ _ z => z, k3, fun _ z => z, fun _ _ => rfl⟩
      refine ⟨T2, θ2, s3, st3, ?_⟩
      have p4 := p3.shift sq3
      revert p4
      show PostS e W T2 θ2 s3 σ3 H3 (match fb s3 with
        | .nx s => forLoop (fun d s => asgC tgt (.sh d) s) fb (ds.drop (i + 1)) s
        | .ct s => forLoop (fun d s => asgC tgt (.sh d) s) fb (ds.drop (i + 1)) s
        | .bk s => .nx s
        | .rt c s => .rt c s
        | .exc k fs s => .exc k fs s
        | .bad => .bad) D → PostS e W T2 θ2 s3 σ3 H3 (fb s3) { D with nx := Pv (i + 1), ct := Pv (i + 1), bk := D.nx }
      generalize fb s3 = r
      intro p4
      have all := (sq.trans stp.q).trans sq3
      cases r with
      | nx s4 => exact fun θ4 σ4 H4 st4 => ⟨θ4, s4, all.trans st4, p4.shift st4⟩
      | ct s4 => exact fun θ4 σ4 H4 st4 => ⟨θ4, s4, all.trans st4, p4.shift st4⟩
      | bk s4 => exact p4
      | rt c s4 => exact p4
      | exc k fs s4 => exact p4
      | bad => exact p4
  · have ei : i = ds.length := by omega
    subst ei
    rw [List.drop_length] at p2
    exact .inl ⟨r1.2.stop _ H2 sq.kp, p2 θ2 σ2 H2 (Stq.refl sq.st)⟩
theorem imp_whl {ft : S → Out Bool} {fb : S → SO} {n : Nat} {D : Ends} (h : TSv e W (fun s => whlLoop ft fb n s) D σ H) : tWhile (TTv e W ft) (TSv e W fb) D σ H := by
  obtain ⟨T, θ, s, st, p⟩ := h
  refine ⟨fun m σ' H' => ∃ θ' s', StR e T θ' s' σ' H' ∧ PostS e W T θ' s' σ' H' (whlLoop ft fb m s') D, ⟨n, θ, s, st, p⟩, ?_⟩
  rintro m σ1 H1 ⟨θ1, s1, st1, p1⟩
  cases m with
  | zero => exact p1.elim
  | succ m =>
    refine ⟨T, θ1, s1, st1, PostS.ofOutS (R := RB) p1 RB.eq fun k s2 v θ2 H2 st2 rb p2 => ?_⟩
    have e1 : k = v := rb.2
    subst e1
    cases k with
    | false => rw [if_neg Bool.false_ne_true]; exact p2 θ2 σ1 H2 (Stq.refl st2.st)
    | true =>
      rw [if_pos rfl]
      refine ⟨fun σ' H' => ∃ θ' s', StR e T θ' s' σ' H' ∧ PostS e W T θ' s' σ' H' (whlLoop ft fb m s') D, fun σ' H' z => ⟨m, Nat.lt_succ_self m, z⟩, T, θ2, s2, st2.st, ?_⟩
      revert p2
      show PostS e W T θ2 s2 σ1 H2 (match fb s2 with
        | .nx s => whlLoop ft fb m s
        | .ct s => whlLoop ft fb m s
        | .bk s => .nx s
        | .rt c s => .rt c s
        | .exc k fs s => .exc k fs s
        | .bad => .bad) D → _
      generalize fb s2 = r
      intro p4
      cases r with
      | nx s4 => exact fun θ4 σ4 H4 st4 => ⟨θ4, s4, st4.st, p4.shift st4⟩
      | ct s4 => exact fun θ4 σ4 H4 st4 => ⟨θ4, s4, st4.st, p4.shift st4⟩
      | bk s4 => exact p4
      | rt c s4 => exact p4
      | exc k fs s4 => exact p4
      | bad => exact p4
end
end VM

set_option linter.all false
set_option maxRecDepth 100000
/-! VM23: two names at once. -/
namespace VM
open PySem PySem.Spec PyProof.Rows L2
def AndS (T : AP1) (ps : List Addr) : AP1 := fun a => T a ∨ a ∈ ps
/-- values that are stored: what is new hangs in the air -/
def RCl (e : Env2) : Rl (List C) (List V) := fun T T' θ' s' σ H' cs vs => ∃ ps, T' = AndS T ps ∧ (∀ p ∈ ps, ¬ T p) ∧ ps.Nodup ∧ go e (Own T' θ' s'.sl σ) H' cs vs ps
where go (e : Env2) (O : OP) (H : Hp) : List C → List V → List Addr → Prop
  | [], vs, ps => vs = [] ∧ ps = []
  | .sh d :: cs, vs, ps => ∃ v r, vs = v :: r ∧ Sh e.g O H d v ∧ go e O H cs r ps
  | .ow d :: cs, vs, ps => ∃ p r ps', vs = .ref p :: r ∧ ps = p :: ps' ∧ Root e.g O H d p ∧ go e O H cs r ps'
  | _ :: _, _, _ => False
section
variable {e : Env2} {W : WX} {X : Cx} {l a b tg : Expr} {pos : Pos} {T T0 T1 T2 T' : AP1} {θ θ1 θ2 θ' : List Addr} {s s1 s2 s' : S} {σ σ1 σ2 σ' : L2.St} {H H1 H2 H' : Hp} {d d' : D} {v : V} {p : Addr} {g : G} {O O' : OP} {c : C}
theorem ands_nil : AndS T [] = T := by funext a; simp [AndS]
theorem ands_cons {ps : List Addr} : AndS T (p :: ps) = And1 (AndS T ps) p := by
  funext a
  simp only [AndS, And1, List.mem_cons]
  apply propext
  constructor
  · rintro (z | z | z)
    · exact .inl (.inl z)
    · exact .inr z
    · exact .inl (.inr z)
  · rintro ((z | z) | z)
    · exact .inl z
    · exact .inr (.inr z)
    · exact .inr (.inl z)
theorem ands_and {ps : List Addr} : AndS (And1 T p) ps = AndS T (p :: ps) := by
  funext a
  simp only [AndS, And1, List.mem_cons]
  apply propext
  constructor
  · rintro ((z | z) | z)
    · exact .inl z
    · exact .inr (.inl z)
    · exact .inr (.inr z)
  · rintro (z | z | z)
    · exact .inl (.inl z)
    · exact .inl (.inr z)
    · exact .inr z
theorem go_keep (k : Kp O H O' H') : ∀ {cs : List C} {vs : List V} {ps : List Addr}, (∀ p ∈ ps, H' p = H p) → RCl.go e O H cs vs ps → RCl.go e O' H' cs vs ps
  | [], _, _, _, h => h
  | .sh d :: cs, _, _, hp, ⟨v, r, e1, sh, h⟩ => ⟨v, r, e1, Sh.keep k _ _ sh, go_keep k hp h⟩
  | .ow d :: cs, _, _, hp, ⟨p, r, ps', e1, e2, rt, h⟩ => by
    subst e2
    exact ⟨p, r, ps', e1, rfl, rt.keep k (hp p List.mem_cons_self), go_keep k (fun q hq => hp q (List.mem_cons_of_mem _ hq)) h⟩
abbrev TCs (e : Env2) (W : WX) (f : S → Out (List C)) : TA := TO e W (RCl e) f
theorem imp_cn {Q : List V → Hp → Prop} (h : TCs e W (fun s => .ok [] s) σ H Q) : tNil σ H Q := by
  obtain ⟨T, θ, s, st, p⟩ := h
  exact p [] T θ H (Stp.refl st) ⟨[], ands_nil.symm, by simp, by simp, rfl, rfl⟩
theorem imp_cc {b : Bn} {bs : List Bn} {Q : List V → Hp → Prop} (h : TCs e W (csOf (b :: bs)) σ H Q) : tCons (TEv e W b.e) (TCs e W (csOf bs)) σ H Q := by
  obtain ⟨T, θ, s, st, p⟩ := h
  have p : Post e W (RCl e) T θ s σ H ((b.e s).bind fun c s => match c with
    | .ow d => (csOf bs s).bind fun cs s => .ok (.ow d :: cs) s
    | .sh d => (csOf bs s).bind fun cs s => .ok (.sh d :: cs) s
    | _ => .bad) Q := p
  refine ⟨T, θ, s, st, p.bind fun c s1 v T1 θ1 H1 st1 r1 _ p1 => ?_⟩
  cases c with
  | sh d =>
    obtain ⟨rfl, u, e1, sh⟩ := r1
    cases e1
    have p1 : Post e W (RCl e) T1 θ s σ H ((csOf bs s1).bind fun cs s => .ok (.sh d :: cs) s) Q := p1
    have p1 := p1.shift st1
    refine ⟨T1, θ1, s1, st1.st, ?_⟩
    revert p1
    generalize csOf bs s1 = r
    intro p1
    cases r with
    | ok cs s2 =>
      intro vs T2 θ2 H2 st2 ⟨ps, h1, h2, h3, h4⟩
      exact p1 (v :: vs) T2 θ2 H2 st2 ⟨ps, h1, h2, h3, v, vs, rfl, Sh.keep st2.kp _ _ sh, h4⟩
    | exc k fs s2 => exact p1
    | bad => exact p1
  | ow d =>
    obtain ⟨q, rfl, rfl, nT, rt⟩ := r1
    have p1 : Post e W (RCl e) T θ s σ H ((csOf bs s1).bind fun cs s => .ok (.ow d :: cs) s) Q := p1
    refine ⟨And1 T q, θ1, s1, st1.st, ?_⟩
    revert p1
    generalize csOf bs s1 = r
    intro p1
    cases r with
    | ok cs s2 =>
      intro vs T2 θ2 H2 st2 ⟨ps, h1, h2, h3, h4⟩
      refine p1 (.ref q :: vs) T2 θ2 H2 (st1.trans st2) ⟨q :: ps, h1.trans ands_and, fun a ha => ?_, ?_, q, vs, ps, rfl, rfl, rt.keep st2.kp (st2.tk q (.inr rfl)), h4⟩
      · rcases List.mem_cons.mp ha with rfl | ha
        · exact nT
        · exact fun z => h2 a ha (.inl z)
      · exact List.nodup_cons.mpr ⟨fun z => h2 q z (.inr rfl), h3⟩
    | exc k fs s2 =>
      intro θ2 H2 dd st2 x
      obtain ⟨R2, k2, _⟩ := st2.st.drop nT
      have tr := st1.trans st2
      obtain ⟨fv, x1, x2, x3⟩ := x
      exact p1 θ2 H2 dd ⟨R2, tr.pf, tr.kp.trans k2, fun _ z => z, tr.tk⟩ ⟨fv, x1, (k2.xd x1 x2).2, ShF.keep k2 _ _ x3⟩
    | bad => exact p1
  | _ => exact p1.elim
theorem pa_cs : ∀ {es : List Expr} {bs : List Bn}, PBs e W X es bs → PA X es (TCs e W (csOf bs))
  | _, _, .nil => pa_imp pa_nil fun _ _ _ => imp_cn
  | _, _, .cons h r => pa_imp (pa_cons h.1.pe (pa_cs r) (star_one h.2)) fun _ _ _ => imp_cc
def setAll (σ : L2.St) : List Nat → List V → L2.St
  | i :: is, v :: vs => setAll (σ.set i (some v)) is vs
  | _, _ => σ
theorem par_put : ∀ {is : List Nat} {cs : List C} {vs : List V} {ps : List Addr} {s s' : S} {σ : L2.St}, StR e (AndS T ps) θ s σ H → (∀ p ∈ ps, ¬ T p) → ps.Nodup → RCl.go e (Own (AndS T ps) θ s.sl σ) H cs vs ps → putAll s is cs = some s' →
    StR e T θ s' (setAll σ is vs) H ∧ Kp (Own (AndS T ps) θ s.sl σ) H (Own T θ s'.sl (setAll σ is vs)) H
  | [], [], vs, ps, s, s', σ, st, hp, nd, h, hs => by
    obtain ⟨rfl, rfl⟩ := h
    cases hs
    rw [ands_nil] at st ⊢
    exact ⟨st, Kp.refl⟩
  | i :: is, .sh d :: cs, _, ps, s, s', σ, st, hp, nd, ⟨v, r, e1, sh, h⟩, hs => by
    subst e1
    obtain ⟨sm, h1, h2⟩ := opt_bind (hs : (putC s i (.sh d)).bind (fun s => putAll s is cs) = some s')
    obtain ⟨z1, z2, _⟩ := put_ok (T0 := AndS T ps) (v := v) (c := .sh d) st ⟨rfl, v, rfl, sh⟩ h1
    obtain ⟨y1, y2⟩ := par_put z1 hp nd (go_keep z2 (fun _ _ => rfl) h) h2
    exact ⟨y1, z2.trans y2⟩
  | i :: is, .ow d :: cs, _, _, s, s', σ, st, hp, nd, ⟨p, r, ps', e1, e2, rt, h⟩, hs => by
    subst e1 e2
    obtain ⟨sm, h1, h2⟩ := opt_bind (hs : (putC s i (.ow d)).bind (fun s => putAll s is cs) = some s')
    obtain ⟨n1, n2⟩ := List.nodup_cons.mp nd
    rw [ands_cons] at st rt h ⊢
    have nT : ¬ AndS T ps' p := fun z => z.elim (hp p List.mem_cons_self) n1
    obtain ⟨z1, z2, _⟩ := put_ok (T0 := AndS T ps') (v := V.ref p) (c := .ow d) st ⟨p, rfl, rfl, nT, rt⟩ h1
    obtain ⟨y1, y2⟩ := par_put z1 (fun q hq => hp q (List.mem_cons_of_mem _ hq)) n2 (go_keep z2 (fun _ _ => rfl) h) h2
    exact ⟨y1, z2.trans y2⟩
  | [], _ :: _, _, _, _, s', _, _, _, _, _, hs => nomatch (hs : none = some s')
  | _ :: _, [], _, _, _, s', _, _, _, _, _, hs => nomatch (hs : none = some s')
  | i :: is, .un :: cs, _, _, _, _, _, _, _, _, h, _ => h.elim
  | i :: is, .hd _ :: cs, _, _, _, _, _, _, _, _, h, _ => h.elim
  | i :: is, .clo _ _ :: cs, _, _, _, _, _, _, _, _, h, _ => h.elim
  | i :: is, .ex _ :: cs, _, _, _, _, _, _, _, _, h, _ => h.elim
theorem putAll2 {is : List Nat} {cs : List C} {s s' : S} (h : putAll s is cs = some s') : cs.length = is.length := by
  induction is generalizing cs s with
  | nil => cases cs with
    | nil => rfl
    | cons _ _ => exact nomatch (h : none = some s')
  | cons i is ih => cases cs with
    | nil => exact nomatch (h : none = some s')
    | cons c cs =>
      obtain ⟨sm, _, h2⟩ := opt_bind (h : (putC s i c).bind (fun s => putAll s is cs) = some s')
      simp [ih h2]
theorem go_len : ∀ {cs : List C} {vs : List V} {ps : List Addr}, RCl.go e O H cs vs ps → vs.length = cs.length
  | [], _, _, h => by rw [h.1]; rfl
  | .sh d :: cs, _, _, ⟨v, r, e1, sh, h⟩ => by subst e1; simp [go_len h]
  | .ow d :: cs, _, _, ⟨p, r, ps', e1, e2, rt, h⟩ => by subst e1; simp [go_len h]
def parF (bs : List Bn) (is : List Nat) : S → SO := fun s => SO.ofOut (csOf bs s) fun cs s => SO.ofO (putAll s is cs)
/-- what is read of such a statement -/
theorem imp_par {bs : List Bn} {is : List Nat} {D : Ends} (h : TSv e W (parF bs is) D σ H) : TCs e W (csOf bs) σ H fun vs H1 => vs.length = is.length ∧ D.nx (setAll σ is vs) H1 ∧ ∀ q, H1 q = none → D.nx (setAll σ is vs) (upd H1 q (.tup vs)) := by
  obtain ⟨T, θ, s, st, p⟩ := h
  refine ⟨T, θ, s, st, PostS.ofOut (R := RCl e) p fun cs s1 vs T1 θ1 H1 st1 ⟨ps, h1, h2, h3, h4⟩ p1 => ?_⟩
  subst h1
  have p1 : PostS e W T θ s σ H (SO.ofO (putAll s1 is cs)) D := p1
  cases hp : putAll s1 is cs with
  | none => rw [hp] at p1; exact p1.elim
  | some s2 =>
    rw [hp] at p1
    refine ⟨(go_len h4).trans (putAll2 hp), ?_, fun q hq => ?_⟩
    · obtain ⟨z1, z2⟩ := par_put st1.st h2 h3 h4 hp
      exact p1 θ1 _ H1 ⟨z1, st1.pf, st1.kp.trans z2, fun _ z => z, st1.tk⟩
    · obtain ⟨n1, n2, n3⟩ := st1.st.newSh hq (.tup vs)
      have rq : ∀ p ∈ ps, upd H1 q (.tup vs) p = H1 p := fun p hp => upd_ne fun z => st1.st.trn (.inr hp) (z ▸ hq)
      obtain ⟨z1, z2⟩ := par_put n1 h2 h3 (go_keep n2 rq h4) hp
      exact p1 θ1 _ _ ⟨z1, st1.pf, (st1.kp.trans n2).trans z2, fun _ z => z, fun a ha => by
        have ne : a ≠ q := fun z => st1.st.trn (.inl ha) (by rw [z]; exact hq)
        rw [upd_ne ne]; exact st1.tk a ha⟩
/-- a, b = x, y -/
theorem ps_par2 {bs : List Bn} {i j : Nat} {x y : Str} {px py pt : Pos} {kt k2 pt2} (hc : X.calm = true) (hN : X.N.Nodup) (hi : X.N[i]? = some x) (hj : X.N[j]? = some y) (hij : i ≠ j) (hx : Loc X.env.scope x) (hy : Loc X.env.scope y)
    (fx : X.fn x = true ∨ X.env.scope.names.lookup x = some .local) (fy : X.fn y = true ∨ X.env.scope.names.lookup y = some .local) (h : PBs e W X [a, b] bs)
    (hw : (X.env.scope.names.lookup x = some .local ∧ X.env.scope.names.lookup y = some .local ∧ swappedStores [.Tuple [.Name x px, .Name y py] kt pt] (.Tuple [a, b] k2 pt2) X.env = pure (some [x, y])) ∨ swappedStores [.Tuple [.Name x px, .Name y py] kt pt] (.Tuple [a, b] k2 pt2) X.env = pure none) :
    PS X (.Assign [.Tuple [.Name x px, .Name y py] kt pt] (.Tuple [a, b] k2 pt2) pos) (TSv e W (parF bs [i, j])) := by
  have ha := pa_cs h
  rcases hw with ⟨lx, ly, hw⟩ | hw
  · refine ps_imp (ps_par hc hN hi hj hij lx ly ha hw) fun D σ H q => ?_
    obtain ⟨T, θ, s, st, p⟩ := imp_par q
    refine ⟨T, θ, s, st, p.mono fun vs H1 ⟨hl, q, _⟩ => ?_⟩
    match vs, hl, q with
    | [v, w], _, q => exact ⟨v, w, rfl, q⟩
  · have hg : PG X (.Tuple [.Name x px, .Name y py] kt pt) (gTup X.K 2 (gCons (gName i) (gCons (gName j) gNil))) := pg_tup hc (pgs_cons (pg_name hN hi hx fx) (pgs_cons (pg_name hN hj hy fy) pgs_nil)) rfl rfl
    refine ps_imp (ps_asg (pe_tup ha) hg rfl hw rfl) fun D σ H q => ?_
    obtain ⟨T, θ, s, st, p⟩ := imp_par q
    refine ⟨T, θ, s, st, p.mono fun vs H1 ⟨hl, _, q⟩ => ?_⟩
    match vs, hl, q with
    | [v, w], _, q => exact ⟨by show 2 ≤ sizeLine; decide, fun p hp => ⟨p, [v, w], rfl, .of upd_same, rfl, v, [w], rfl, w, [], rfl, rfl, q p hp⟩⟩
end
end VM

set_option linter.all false
set_option maxRecDepth 100000
/-! VM24: exceptions are raised. -/
namespace VM
open PySem PySem.Spec PyProof.Rows L2 PySem.OEX
/-- what a class's own __init__ does: the values stand under the names -/
def spIni (C : Addr) (fs : List Str) : Sp := fun vs H Q E => ∃ a ws, vs = .ref a :: ws ∧ ws.length = fs.length ∧ H a = some (exo a C none) ∧
  ∀ d fv, H d = none → d ≠ a → (∀ f, fv.lookup f = (fs.zip ws).lookup f) → Q .non (upd (upd H d (exd d fv)) a (exo a C (some d)))
/-- a class whose exceptions bear the fields fs -/
structure ClsE (P : Program) (w : World) (K : PySem.W.Frag) (mg : Str → Option Value) (base : Heap) (k : Nat) (C : Addr) (fs : List Str) : Prop where
  ox : OexC K C
  few : fs.length ≤ 100
  ini : ∃ fI fd ps, PySem.W.findIn K (.ref C) "__init__" = some (some (.ref fI)) ∧ PySem.W.typeIn K (.ref fI) = some (.type "function") ∧ FnOk P w K mg base L2.CX0 k fI fd ps (spIni C fs) ∧ L2.Binds K fd ps []
section
variable {e : Env2} {W : WX} {X : Cx} {l a b tg : Expr} {pos : Pos} {T T0 T1 T2 T' : AP1} {θ θ1 θ2 θ' : List Addr} {s s1 s2 s' : S} {σ σ1 σ2 σ' : L2.St} {H H1 H2 H' : Hp} {d d' : D} {v : V} {p : Addr} {g : G} {O O' : OP} {c : C}
theorem zip_look {fs : List Str} : ∀ {ds : List D} {vs : List V}, Shs g O H ds vs → ∀ f d, (fs.zip ds).lookup f = some d → ∃ v, (fs.zip vs).lookup f = some v ∧ Sh g O H d v := by
  induction fs with
  | nil => intro ds vs h f d hd; simp at hd
  | cons x fs ih =>
    intro ds vs h f d hd
    cases ds with
    | nil => simp at hd
    | cons d0 ds =>
      obtain ⟨v, r, rfl, h1, h2⟩ := h
      rw [List.zip_cons_cons] at hd ⊢
      rw [List.lookup_cons] at hd ⊢
      by_cases z : f == x
      · rw [z] at hd ⊢
        cases hd
        exact ⟨v, rfl, h1⟩
      · rw [Bool.not_eq_true] at z
        rw [z] at hd ⊢
        exact ih h2 f d hd
theorem imp_raise {bs : List Bn} {cl : Nat} {fs : List Str} {D : Ends} (hl : fs.length ≤ 100) (h : TSv e W (fun s => SO.ofOut (dsOf bs s) fun ds s => if fs.length = ds.length then .exc cl (fs.zip ds) s else .bad) D σ H) :
    tMkO (e.g.ca cl) (spIni (e.g.ca cl) fs) [] (TDs e W (dsOf bs)) σ H fun cls d H' => W cls d σ H' := by
  obtain ⟨T, θ, s, st, p⟩ := h
  refine ⟨T, θ, s, st, PostS.ofOutS (R := RDs e) p RDs.eq fun ds s1 vs θ1 H1 st1 r1 p1 => ?_⟩
  have p1 : PostS e W T θ1 s1 σ H1 (if fs.length = ds.length then .exc cl (fs.zip ds) s1 else .bad) D := p1
  split at p1
  case isTrue hf =>
    have hv : vs.length = fs.length := by rw [r1.2.length, hf]
    refine ⟨by omega, fun a ha => ⟨a, vs, by simp, hv, upd_same, fun d fv hd hda hfv => ⟨rfl, d, fv, upd_same, ?_, ?_, ?_⟩⟩⟩
    · rw [upd_ne hda, upd_same]
    · rw [upd_ne hda] at hd; exact hd
    · have hd1 : H1 d = none := by rw [upd_ne hda] at hd; exact hd
      have eH : upd (L2.del (upd (upd (upd H1 a (exo a (e.g.ca cl) none)) d (exd d fv)) a (exo a (e.g.ca cl) (some d))) a) d (.xd fv) = upd H1 d (.xd fv) := by
        funext b
        by_cases h1 : b = d
        · subst h1; rw [upd_same, upd_same]
        · rw [upd_ne h1, upd_ne h1]
          by_cases h2 : b = a
          · subst h2; rw [del_same, ha]
          · rw [del_ne h2, upd_ne h2, upd_ne h1, upd_ne h2]
      obtain ⟨n1, n2, n3⟩ := st1.st.newSh hd1 (.xd fv)
      show W _ _ σ _
      rw [eH]
      refine p1 θ1 σ _ d ⟨n1, fun _ _ z => z, n2, fun _ z => z, fun x hx => upd_ne fun z => st1.st.trn hx (z ▸ hd1)⟩ ⟨fv, upd_same, n3, fun f d' hfd => ?_⟩
      obtain ⟨v, hv1, hv2⟩ := zip_look r1.2 f d' hfd
      exact ⟨v, (hfv f).trans hv1, Sh.keep n2 _ _ hv2⟩
  case isFalse => exact p1.elim
theorem ps_raise' {bs : List Bn} {cl k : Nat} {fs : List Str} {x : Str} {pn : Pos} {ex : Expr} {es : List Expr} {pos2 : Pos} (hc : X.calm = true) (tk : Takes X W) (ce : ClsE X.prog X.w X.K X.mg X.base k (e.g.ca cl) fs) (hr : Room (k + 1) X.A) (hg : Gl X x) (hm : X.mg x = some (.ref (e.g.ca cl))) (hdb : (x == ("__debug__" : Str)) = false) (h : PBs e W X (ex :: es) bs) :
    PS X (.Raise (some (.Call (.Name x pn) (ex :: es) [] pos2)) none pos) (TSv e W fun s => SO.ofOut (dsOf bs s) fun ds s => if fs.length = ds.length then .exc cl (fs.zip ds) s else .bad) := by
  obtain ⟨fI, fd, ps, h1, h2, h3, h4⟩ := ce.ini
  have hd := pa_ds h
  have hp := plains h pos2
  cases h with
  | cons k1 k2 =>
    exact ps_imp (ps_raise hc tk (pmk_oex ce.ox h1 h2 h3 hr h4 .nil (fun _ _ _ _ _ _ _ z => z.elim) hg hm hd hdb (star_one k1.2) (plains k2 pos2))) fun D σ H q => imp_raise ce.few q
end
end VM

set_option linter.all false
set_option maxRecDepth 100000
/-! VM25: exceptions' own __init__. -/
namespace VM
open PySem PySem.Spec PyProof.Rows L2
/-- self.g = y -/
def ini1 : Stmt → Option (Str × Str × Str)
  | .Assign [.Attribute (.Name x _) g _] (.Name y _) _ => some (x, g, y)
  | _ => none
theorem ini1_of {st : Stmt} {x g y : Str} (h : ini1 st = some (x, g, y)) : ∃ px pg py pos, st = .Assign [.Attribute (.Name x px) g pg] (.Name y py) pos := by
  unfold ini1 at h
  split at h
  · cases h; exact ⟨_, _, _, _, rfl⟩
  · cases h
/-- the body self.f = f, .. -/
def cIniB : List Str → List Stmt → Bool
  | [], [] => true
  | f :: fs, st :: r => decide (ini1 st = some (("self" : Str), f, f)) && cIniB fs r
  | _, _ => false
/-- what is wanted of the __init__'s text -/
def cIni (fs : List Str) (sc : Scope) (body : List Stmt) : Bool := cIniB fs body && decide (fs.length ≤ 100) && (match fs with | [] => false | _ => true) && decide (((("self" : Str) :: fs).Nodup)) && ((("self" : Str) :: fs).all fun f => okName f && decide (sc.names.lookup f = some .local)) &&
  (match sc.kind with | .function => true | _ => false) && !sc.isCoroutine && !sc.isGenerator && sc.names.all fun y => (match y.2 with | .free => false | _ => true)
section
variable {X : Cx} {C : Addr}
/-- the ground of a field's store -/
structure IniX (X : Cx) (f : Str) (i : Nat) : Prop where
  hN : X.N[i]? = some f
  hv : Vis X.env.scope f
  d1 : (f == ("__debug__" : Str)) = false
  d2 : (f == ("__classdict__" : Str)) = false
theorem ini_rest (ix : Str → Nat) (h0 : IniX X "self" (ix "self")) : ∀ (fs : List Str) (body : List Stmt), cIniB fs body = true → (∀ f ∈ fs, IniX X f (ix f)) →
    ∃ t, PSs X body t ∧ ∀ (D : Ends) (σ : L2.St) (H : Hp) (a dx : Addr) (fv : List (Str × V)) (val : Str → V), OexC X.K C → (∀ f ∈ fs, PySem.W.findIn X.K (.ref C) f = some none) → σ[ix "self"]? = some (some (.ref a)) → (∀ f ∈ fs, σ[ix f]? = some (some (val f))) →
      dx ≠ a → H a = some (exo a C (some dx)) → H dx = some (exd dx fv) → fv.length + fs.length ≤ 900 → D.nx σ (upd H dx (exd dx ((fs.map fun f => (f, val f)).reverse ++ fv))) → t D σ H
  | [], [], _, _ => ⟨_, pss_nil, fun D σ H a dx fv val ox hno hs hv ne h1 h2 hl q => by
      have e : upd H dx (exd dx (([] : List (Str × V)).reverse ++ fv)) = H := by
        funext b
        by_cases z : b = dx
        · subst z; rw [upd_same, h2]; rfl
        · exact upd_ne z
      rw [show (([] : List Str).map fun f => (f, val f)) = [] from rfl, e] at q
      exact q⟩
  | y :: fs, stm :: r, h, hx => by
    have h : (decide (ini1 stm = some (("self" : Str), y, y)) && cIniB fs r) = true := h
    simp only [Bool.and_eq_true, decide_eq_true_eq] at h
    obtain ⟨h1, hr⟩ := h
    obtain ⟨px, pg, py, pos, rfl⟩ := ini1_of h1
    obtain ⟨t, ht, hq⟩ := ini_rest ix h0 fs r hr fun f hf => hx f (List.mem_cons_of_mem _ hf)
    have i1 := hx y List.mem_cons_self
    have st : PS X (.Assign [.Attribute (.Name "self" px) y pg] (.Name y py) pos) (tOst X.K y (tVar (ix "self")) (tVar (ix y))) := ps_ost (pe_var h0.hN h0.hv h0.d1 h0.d2) (pe_var i1.hN i1.hv i1.d1 i1.d2)
    refine ⟨_, pss_cons st ht, fun D σ H a dx fv val ox hno hs hv ne h1 h2 hl q => ?_⟩
    refine ⟨val y, hv y List.mem_cons_self, .ref a, hs, a, C, rfl, ox, hno y List.mem_cons_self, .inr ⟨dx, fv, h1, h2, by simp at hl; omega, ?_⟩⟩
    refine hq D σ _ a dx ((y, val y) :: fv) val ox (fun f hf => hno f (List.mem_cons_of_mem _ hf)) hs (fun f hf => hv f (List.mem_cons_of_mem _ hf)) ne (by rw [upd_ne (Ne.symm ne)]; exact h1) upd_same (by simp at hl ⊢; omega) ?_
    rw [upd_upd]
    have e : ((y :: fs).map fun f => (f, val f)).reverse ++ fv = (fs.map fun f => (f, val f)).reverse ++ (y, val y) :: fv := by simp
    rw [e] at q
    exact q
  | [], _ :: _, h, _ => by cases h
  | _ :: _, [], h, _ => by cases h
theorem ini_first (ix : Str → Nat) (h0 : IniX X "self" (ix "self")) (fs : List Str) (body : List Stmt) (h : cIniB fs body = true) (hx : ∀ f ∈ fs, IniX X f (ix f)) (hne : fs ≠ []) (hl : fs.length ≤ 100) :
    ∃ t, PSs X body t ∧ ∀ (D : Ends) (σ : L2.St) (H : Hp) (a : Addr) (val : Str → V), OexC X.K C → (∀ f ∈ fs, PySem.W.findIn X.K (.ref C) f = some none) → σ[ix "self"]? = some (some (.ref a)) → (∀ f ∈ fs, σ[ix f]? = some (some (val f))) →
      H a = some (exo a C none) → (∀ dx, H dx = none → dx ≠ a → D.nx σ (upd (upd H dx (exd dx ((fs.map fun f => (f, val f)).reverse))) a (exo a C (some dx)))) → t D σ H := by
  match fs, body, h with
  | [], _, _ => exact absurd rfl hne
  | y :: fs, [], h => cases h
  | y :: fs, stm :: r, h =>
    have h : (decide (ini1 stm = some (("self" : Str), y, y)) && cIniB fs r) = true := h
    simp only [Bool.and_eq_true, decide_eq_true_eq] at h
    obtain ⟨h1, hr⟩ := h
    obtain ⟨px, pg, py, pos, rfl⟩ := ini1_of h1
    obtain ⟨t, ht, hq⟩ := ini_rest (C := C) ix h0 fs r hr fun f hf => hx f (List.mem_cons_of_mem _ hf)
    have i1 := hx y List.mem_cons_self
    have st : PS X (.Assign [.Attribute (.Name "self" px) y pg] (.Name y py) pos) (tOst X.K y (tVar (ix "self")) (tVar (ix y))) := ps_ost (pe_var h0.hN h0.hv h0.d1 h0.d2) (pe_var i1.hN i1.hv i1.d1 i1.d2)
    refine ⟨_, pss_cons st ht, fun D σ H a val ox hno hs hv h1 q => ?_⟩
    refine ⟨val y, hv y List.mem_cons_self, .ref a, hs, a, C, rfl, ox, hno y List.mem_cons_self, .inl ⟨h1, fun dx hd hda => ?_⟩⟩
    refine hq D σ _ a dx [(y, val y)] val ox (fun f hf => hno f (List.mem_cons_of_mem _ hf)) hs (fun f hf => hv f (List.mem_cons_of_mem _ hf)) hda upd_same (by rw [upd_ne hda, upd_same]) (by simp at hl ⊢; omega) ?_
    have e : upd (upd (upd H dx (exd dx [(y, val y)])) a (exo a C (some dx))) dx (exd dx ((fs.map fun f => (f, val f)).reverse ++ [(y, val y)])) = upd (upd H dx (exd dx (((y :: fs).map fun f => (f, val f)).reverse))) a (exo a C (some dx)) := by
      funext b
      by_cases z : b = dx
      · subst z; rw [upd_same, upd_ne hda, upd_same]; simp
      · rw [upd_ne z]
        by_cases z2 : b = a
        · subst z2; rw [upd_same, upd_same]
        · rw [upd_ne z2, upd_ne z2, upd_ne z, upd_ne z]
    show D.nx σ _
    rw [e]
    exact q dx hd hda
end
theorem ix_zip : ∀ {fs : List Str} {ws : List V} {i : Nat} {f : Str}, fs.Nodup → fs[i]? = some f → ws.length = fs.length → (fs.zip ws).lookup f = ws[i]?
  | [], _, _, _, _, h, _ => by simp at h
  | x :: fs, [], _, _, _, _, hl => by simp at hl
  | x :: fs, w :: ws, 0, f, nd, h, hl => by simp at h; subst h; simp
  | x :: fs, w :: ws, i + 1, f, nd, h, hl => by
    obtain ⟨n1, n2⟩ := List.nodup_cons.mp nd
    have h : fs[i]? = some f := by simpa using h
    have ne : (f == x) = false := by
      rw [beq_eq_false_iff_ne]
      intro z
      exact n1 (z ▸ List.mem_of_getElem? h)
    rw [List.zip_cons_cons, List.lookup_cons, ne]
    simpa using ix_zip n2 h (by simpa using hl)
theorem look_rev {fs : List Str} : ∀ (ps : List (Str × V)), (ps.map (·.1)).Nodup → ∀ f, ps.reverse.lookup f = ps.lookup f
  | [], _, f => rfl
  | p :: ps, nd, f => by
    obtain ⟨n1, n2⟩ := List.nodup_cons.mp (show (p.1 :: ps.map (·.1)).Nodup from nd)
    rw [List.reverse_cons, List.lookup_append, look_rev (fs := fs) ps n2 f, show (p :: ps).lookup f = (match f == p.1 with | true => some p.2 | false => ps.lookup f) from rfl]
    by_cases z : f == p.1
    · have z' := beq_iff_eq.mp z
      have hn : ps.lookup f = none := by
        rw [List.lookup_eq_none_iff]
        intro q hq
        rw [z']
        simp only [bne_iff_ne, ne_eq, beq_eq_false_iff_ne]
        exact fun w => n1 (by rw [w]; exact List.mem_map.mpr ⟨q, hq, rfl⟩)
      rw [hn, z]
      show Option.or none (match f == p.1 with | true => some p.2 | false => none) = some p.2
      rw [z]; rfl
    · rw [Bool.not_eq_true] at z
      rw [z]
      show Option.or (ps.lookup f) (match f == p.1 with | true => some p.2 | false => none) = ps.lookup f
      rw [z]; cases ps.lookup f <;> rfl
/-- the promise of an __init__ -/
theorem ini_ok {P : Program} {w : World} {K : PySem.W.Frag} {mg : Str → Option Value} {base : Heap} {C fI : Addr} {qual : Str} {params : Arguments} {body : List Stmt} {scope : Scope} {fd : FuncData} {fs : List Str} {k : Nat} (ox : OexC K C) (hno : ∀ f ∈ fs, PySem.W.findIn K (.ref C) f = some none)
    (F : FunD K "__init__" qual params body scope [] [] fI fd) (hc : cIni fs scope body = true) : FnOk P w K mg base L2.CX0 (k + 1) fI fd (("self" : Str) :: fs) (spIni C fs) := by
  unfold cIni at hc
  simp only [Bool.and_eq_true, decide_eq_true_eq, List.all_eq_true, Bool.not_eq_true', beq_iff_eq] at hc
  obtain ⟨⟨⟨⟨⟨⟨⟨⟨hb, hl⟩, hne⟩, nd⟩, hok⟩, hk⟩, hco⟩, hge⟩, hfr⟩ := hc
  have hkind : scope.kind = .function := by split at hk <;> first | assumption | cases hk
  have S : FnScope (("self" : Str) :: fs) (("self" : Str) :: fs) scope := ⟨hkind, hco, hge, nd, List.take_length, fun x hx => .inl (hok x hx).2, fun y hy z => by
    have q := hfr y hy
    rw [z] at q
    cases q⟩
  have hne' : fs ≠ [] := fun z => by subst z; cases hne
  refine F.ok S (fun vs H Q E ⟨a, ws, e1, e2, _⟩ => by subst e1; simp [e2]) fun cdv A outer s H vs Q E hr ⟨a, ws, e1, e2, ha, q⟩ => ?_
  subst e1
  let ix : Str → Nat := fun f => (("self" : Str) :: fs).idxOf f
  have hix : ∀ f ∈ (("self" : Str) :: fs), (("self" : Str) :: fs)[ix f]? = some f := fun f hf => by
    have h1 : (("self" : Str) :: fs).idxOf f < (("self" : Str) :: fs).length := List.idxOf_lt_length_iff.mpr hf
    rw [List.getElem?_eq_getElem h1, List.getElem_idxOf h1]
  have mk : ∀ f ∈ (("self" : Str) :: fs), IniX (cxOf L2.CX0 P w K mg base (("self" : Str) :: fs) qual scope fI cdv A outer s H E) f (ix f) := fun f hf => by
    obtain ⟨h1, h2⟩ := hok f hf
    unfold okName at h1
    simp only [Bool.and_eq_true, Bool.not_eq_true'] at h1
    exact ⟨hix f hf, .inl h2, h1.1, h1.2⟩
  obtain ⟨t, ht, hq⟩ := ini_first (C := C) ix (mk _ List.mem_cons_self) fs body hb (fun f hf => mk f (List.mem_cons_of_mem _ hf)) hne' hl
  let val : Str → V := fun f => ((fs.zip ws).lookup f).getD .non
  have e0 : ix "self" = 0 := by simp [ix]
  have est : L2.start (("self" : Str) :: fs) (V.ref a :: ws) = (V.ref a :: ws).map some := by
    unfold L2.start
    simp [e2]
  refine ⟨t, ht, hq _ _ H a val ox hno (by rw [e0, est]; rfl) (fun f hf => ?_) ha fun dx hd hda => ?_⟩
  · have hm := hix f (List.mem_cons_of_mem _ hf)
    have n0 : ix f ≠ 0 := fun z => by
      rw [z] at hm
      simp at hm
      exact (List.nodup_cons.mp nd).1 (hm ▸ hf)
    obtain ⟨j, hj⟩ := Nat.exists_eq_succ_of_ne_zero n0
    rw [hj] at hm ⊢
    have hm : fs[j]? = some f := by simpa using hm
    rw [est]
    have hz := ix_zip (List.nodup_cons.mp nd).2 hm e2
    have hjl : j < ws.length := by rw [e2]; exact (List.getElem?_eq_some_iff.mp hm).1
    rw [List.getElem?_map]
    show Option.map some (ws[j]?) = _
    rw [List.getElem?_eq_getElem hjl] at hz ⊢
    show some (some ws[j]) = some (some (((fs.zip ws).lookup f).getD .non))
    rw [hz]
    rfl
  · refine q dx _ hd hda fun f => ?_
    have nd2 := (List.nodup_cons.mp nd).2
    rw [look_rev (fs := fs) _ (by rw [List.map_map]; simpa [Function.comp_def] using nd2) f]
    by_cases hf : f ∈ fs
    · obtain ⟨j, hj⟩ := List.mem_iff_getElem?.mp hf
      have h1 := ix_zip (ws := fs.map val) nd2 hj (by simp)
      have h2 := ix_zip nd2 hj e2
      have e3 : fs.zip (fs.map val) = fs.map fun f => (f, val f) := by
        rw [List.zip_map_right]
        induction fs with
        | nil => rfl
        | cons _ _ _ => simp [List.zip, List.zipWith_self]
      rw [e3] at h1
      rw [h1, h2, List.getElem?_map, hj]
      show some (((fs.zip ws).lookup f).getD .non) = ws[j]?
      have hjl : j < ws.length := by rw [e2]; exact (List.getElem?_eq_some_iff.mp hj).1
      rw [h2, List.getElem?_eq_getElem hjl]
      rfl
    · have n1 : (fs.map fun f => (f, val f)).lookup f = none := by
        rw [List.lookup_eq_none_iff]
        intro p hp
        obtain ⟨g, hg, rfl⟩ := List.mem_map.mp hp
        simp only [bne_iff_ne, ne_eq, beq_eq_false_iff_ne]
        exact fun z => hf (z ▸ hg)
      have n2 : (fs.zip ws).lookup f = none := by
        rw [List.lookup_eq_none_iff]
        intro p hp
        simp only [bne_iff_ne, ne_eq, beq_eq_false_iff_ne]
        exact fun z => hf (z ▸ (List.of_mem_zip hp).1)
      rw [n1, n2]
end VM

set_option linter.all false
set_option maxRecDepth 100000
/-! VM26: several clauses "except C as n". -/
namespace VM
open PySem PySem.Spec PyProof.Rows L2
abbrev ASuite := Addr → Value → Option Addr → TS
/-- behind a suite its name is gone -/
def endAs (i : Nat) (D : Ends) : Ends := { nx := fun τ G => D.nx (τ.set i none) G, rt := D.rt, bk := fun τ G => D.bk (τ.set i none) G, ct := fun τ G => D.ct (τ.set i none) G }
/-- what such clauses wish of an exception, one after the other -/
def wAsMany (K : PySem.W.Frag) (Wout : WX) (D : Ends) : List (Value × Nat × ASuite) → WX
  | [] => Wout
  | q :: r => fun cls d τ G => ∃ yes, PySem.W.exmOne K cls q.1 = some yes ∧ (yes = true → ∀ a, G a = none → q.2.2 a cls d (endAs q.2.1 D) (τ.set q.2.1 (some (.ref a))) G) ∧ (yes = false → wAsMany K Wout D r cls d τ G)
inductive ClsOk (X : Cx) : List ExceptHandler → List (Value × Nat × ASuite) → Prop
  | nil : ClsOk X [] []
  | cons {x n : Str} {c : Value} {i : Nat} {ts : ASuite} {st : Stmt} {sts : List Stmt} {xp hp : Pos} {hds : List ExceptHandler} {l : List (Value × Nat × ASuite)} (hc : Names X x c) (hi : X.N[i]? = some n) (hl : X.env.kindOf n = some .local)
      (hsu : ∀ (a : Addr) (oe : Obj) (cls : Value) (d : Option Addr) (pn : List (Addr × Obj)), Zc cls d oe → (∃ vs, oe.data = .fields vs) → PSs (X.suite a ((a, oe) :: pn)) (st :: sts) (ts a cls d)) (r : ClsOk X hds l) :
      ClsOk X (.ExceptHandler (some (.Name x xp)) (some n) (st :: sts) hp :: hds) ((c, i, ts) :: l)
section
variable {X : Cx} {body : List Stmt} {h₀ : ExceptHandler} {hds : List ExceptHandler} {l : List (Value × Nat × ASuite)} {pos : Pos} {tb : WX → TS} {Wout : WX}
theorem ps_try_asMany (hs : X.stack = X.env :: X.outer) (hf : X.env.frame = some X.env.locals) (hN : X.N.Nodup) (tk : Takes X Wout)
    (hb : ∀ (V : WX) (pn : List (Addr × Obj)) (xe : Value → Shared → Prop), Takes (X.tr pn xe) V → PassesOwn (model X.prog X.w) X.A X.env xe → PSs (X.tr pn xe) body (tb V))
    (hh : ClsOk X (h₀ :: hds) l) : PS X (.Try body (h₀ :: hds) [] [] pos) (fun D σ H => tb (wAsMany X.K Wout D l) D σ H) := by
  refine ⟨fun pins s σ H D I h => ?_⟩
  have okX := I.ok
  have frX : X.A.frames = some (X.env :: X.outer) := by rw [okX.frames, hs]
  refine wpAny_Try_except (wpAny_mono ((hb (wAsMany X.K Wout D l) (X.pn ++ pins) (fun ex t1 => wpAny (model X.prog X.w) X.A (noteFrame ex X.env) (fun _ t2 => wpAny (model X.prog X.w) X.A (setFlight ex none) (fun _ t3 =>
    wpAny (model X.prog X.w) X.A (handleBy ex X.env (h₀ :: hds)) (SP X pins D) X.xe t3) X.xe t2) X.xe t1) (fun u s' xx => ?_) PassesOwn.looking).run [] s σ H D (I.toTry _) h) (fun f s1 hsp => ?_) (fun _ _ z => z))
  · obtain ⟨a, B, t0, pinsT, τ, G, cls, d, rfl, JT, nb, up, sky, na, os, ag, w⟩ := xx
    have J : Inv X pins τ G t0 := JT.ofTry okX
    have skyX : Sky B (X.env :: X.outer) a (Zc cls d) X.env.locals s'.heap := by rw [← hs]; exact sky
    show wpAny (model X.prog X.w) X.A (noteFrame (.ref a) X.env) _ _ _
    refine Sky.land Zc.steady frX hf skyX fun g3 fly3 to3 => ?_
    have J3 : Inv X pins τ G { s' with heap := g3 } := J.landed nb fly3.1 (up.trans to3) os ag
    obtain ⟨o3, v3, at3, zc3, dt3⟩ := fly3.there
    have nfr : a ∉ frs (X.env :: X.outer) := fun hm => by
      obtain ⟨_, o', e', hnf⟩ := fly3.2.2.1.mem hm
      rw [at3] at e'
      cases e'
      exact hnf _ dt3
    have nL : a ≠ X.env.locals := fun z => nfr (List.mem_filterMap.mpr ⟨X.env, List.mem_cons_self, by rw [hf, z]⟩)
    have nF : a ∉ X.fs := fun hm => by
      obtain ⟨en, hen, q⟩ := List.mem_filterMap.mp hm
      exact nfr (List.mem_filterMap.mpr ⟨en, List.mem_cons_of_mem _ hen, q⟩)
    have S3 := J3.suite at3 dt3 na nL nF
    have go : ∀ {hs' : List ExceptHandler} {l' : List (Value × Nat × ASuite)}, ClsOk X hs' l' → wAsMany X.K Wout D l' cls d τ G → wpAny (model X.prog X.w) X.A (handleBy (.ref a) X.env hs') (SP X pins D) X.xe { s' with heap := g3 } := by
      intro hs' l' hk
      induction hk with
      | nil =>
        intro w
        refine wpAny_handleBy_nil ?_
        obtain ⟨_, _, _, oe, vs, T, oT, tT, he, hz, hd, h1, hr⟩ := id fly3
        unfold PySem.passOn
        refine wpAny_bind (wpAny_field he hd h1 ?_)
        rw [if_neg (show ¬ ((Value.ref T == Value.none) = true) from by simp)]
        have out : wpAny (model X.prog X.w) X.A (setFlight (.ref a) X.env.frame) (fun _ t4 => wpAny (model X.prog X.w) X.A (throw (.ref a) : Sem Flow) (SP X pins D) X.xe t4) X.xe { s' with heap := g3 } := by
          rw [hf]
          exact HandSPX.setFlight_upZ fly3 fun g4 held4 to4 => wpAny_throw (tk _ _ ⟨a, B, t0, pins, τ, G, cls, d, rfl, J, nb, (up.trans to3).trans to4, .inr (.inr (by rw [hs]; exact held4)), na, os, ag, w⟩)
        first
          | exact wpAny_bind (wpAny_pure (wpAny_bind out))
          | exact wpAny_bind out
      | @cons x n c i ts st sts xp hp hds2 l2 hc hi hl hsu r ih =>
        intro w
        obtain ⟨yes, y1, y2, y3⟩ := w
        refine wpAny_handleBy_cons (codeAny_handlers_test ?_) (by intro q; cases q)
        have ty : PySem.W.Looks (model X.prog X.w) g3 (typeOf (.ref a)) cls := fun A Q E s k q => wpAny_typeOf_ref (k _ _ at3) (by rw [zc3.1]; exact q)
        have mt := PySem.W.exm_one (M := model X.prog X.w) (J3.kIn) ty y1
        have ask : ∀ {Q : Value → Shared → Prop} {E : Value → Shared → Prop}, Q c { s' with heap := g3 } → wpAny (model X.prog X.w) (X.A.mark (some (.ref a))) (eval (.Name x xp) X.env) Q E { s' with heap := g3 } := fun {Q E} q => by
          obtain ⟨hg, hdb, hm | ⟨hm, hv, hnn⟩⟩ := hc
          · exact ld_glob (X := X.suite a ((a, o3) :: (X.pn ++ pins))) S3 hg hm q hdb
          · exact ld_blt (X := X.suite a ((a, o3) :: (X.pn ++ pins))) S3 hg hm hv q hnn hdb
        refine ask (mt.here ?_)
        cases yes with
        | true =>
          refine codeAny_handlers_suite_as (HandSPX.lands_againZ fly3 fun g4 fly4 to4 => ?_)
          have J4 : Inv X pins τ G { s' with heap := g4 } := J.landed nb fly4.1 ((up.trans to3).trans to4) os ag
          obtain ⟨o4, v4, at4, zc4, dt4⟩ := fly4.there
          have S4 := J4.suite at4 dt4 na nL nF
          refine store_ok (X := X.suite a ((a, o4) :: (X.pn ++ pins))) (v := .ref a) S4 hN hi (.inl hl) rfl (fun t5 S5 => ?_) (.inr hl)
          refine wpAny_mono ((hsu a o4 cls d (X.pn ++ pins) zc4 ⟨_, dt4⟩).run [] t5 _ G _ S5 (y2 rfl a na)) (fun f t6 hsp => ?_) (fun _ _ z => False.elim z)
          have gone : ∀ {τ6 : L2.St} {G6 : Hp} {Q : Shared → Prop}, Inv (X.suite a ((a, o4) :: (X.pn ++ pins))) [] τ6 G6 t6 → (∀ t7, Inv X pins (τ6.set i none) G6 t7 → Q t7) →
              wpAny (model X.prog X.w) X.A (do bindName X.env n .none; unbindBehindTheSuite X.env n hp) (fun _ t7 => Q t7) X.xe t6 := fun {τ6 G6 Q} S6 hq => gone_ok (S6.unsuite okX) hN hi hl hq
          cases f with
          | next => obtain ⟨_, _, S6, q6⟩ := hsp; exact gone S6 fun t7 J7 => ⟨_, _, J7, q6⟩
          | brk => obtain ⟨_, _, S6, q6⟩ := hsp; exact gone S6 fun t7 J7 => ⟨_, _, J7, q6⟩
          | cont => obtain ⟨_, _, S6, q6⟩ := hsp; exact gone S6 fun t7 J7 => ⟨_, _, J7, q6⟩
          | ret u => obtain ⟨_, _, _, S6, r6, q6⟩ := hsp; exact gone S6 fun t7 J7 => ⟨_, _, _, J7, r6, q6⟩
        | false => exact ih (y3 rfl)
    exact go hh w
  · cases f with
    | next => obtain ⟨_, _, JT, q⟩ := hsp; exact wpAny_execs_nil ⟨_, _, JT.ofTry okX, q⟩
    | brk => obtain ⟨_, _, JT, q⟩ := hsp; exact ⟨_, _, JT.ofTry okX, q⟩
    | cont => obtain ⟨_, _, JT, q⟩ := hsp; exact ⟨_, _, JT.ofTry okX, q⟩
    | ret u => obtain ⟨_, _, _, JT, r, q⟩ := hsp; exact ⟨_, _, _, JT.ofTry okX, r, q⟩
end
end VM

set_option linter.all false
set_option maxRecDepth 100000
/-! VM27: a def that tries what it gets. -/
namespace VM
open PySem PySem.Spec PyProof.Rows L2
/-- e.f, .. -/
def cAtts (n : Str) : List Expr → Option (List Str)
  | [] => some []
  | ex :: es => match ex with
    | .Attribute (.Name y _) f _ => if y == n then (cAtts n es).map (f :: ·) else none
    | _ => none
/-- return (text, e.f, ..) -/
def cHd : ExceptHandler → Option (Str × Str × Str × List Str)
  | .ExceptHandler (some (.Name x _)) (some n) [.Return (some (.Tuple (.Constant (.str t) _ _ :: es) _ _)) _] _ => (cAtts n es).map fun fs => (x, n, t, fs)
  | _ => none
theorem cHd_of {h : ExceptHandler} {x n t : Str} {fs : List Str} (e : cHd h = some (x, n, t, fs)) : ∃ xp j tp es k p rp hp, h = .ExceptHandler (some (.Name x xp)) (some n) [.Return (some (.Tuple (.Constant (.str t) j tp :: es) k p)) rp] hp ∧ cAtts n es = some fs := by
  unfold cHd at e
  split at e
  · obtain ⟨g, h1, h2⟩ := map_of e
    cases h2
    exact ⟨_, _, _, _, _, _, _, _, rfl, h1⟩
  · cases e
theorem cAtts_of {n : Str} : ∀ {es : List Expr} {fs : List Str}, cAtts n es = some fs → Paired (fun ex f => ∃ p q, ex = .Attribute (.Name n p) f q) es fs
  | [], _, h => by cases h; exact .nil
  | ex :: es, fs, h => by
    unfold cAtts at h
    split at h
    case h_1 y p f q =>
      split at h
      case isTrue hy =>
        obtain ⟨g, h1, rfl⟩ := map_of h
        have hy : y = n := beq_iff_eq.mp hy
        subst hy
        exact .cons ⟨p, q, rfl⟩ (cAtts_of h1)
      case isFalse => cases h
    case h_2 => cases h
abbrev MH := List Nat × Str × List Str
/-- what is known of a clause -/
structure HdOk (K : PySem.W.Frag) (mg : Str → Option Value) (g : G) (N : List Str) (sc : Scope) (nc : Nat) (h : ExceptHandler) (m : MH) : Prop where
  ex : ∃ (x n : Str) (cE i : Nat), cHd h = some (x, n, m.2.1, m.2.2) ∧ sc.names.lookup x = some .globalImplicit ∧ okName x = true ∧ mg x = some (.ref (g.ca cE)) ∧ N[i]? = some n ∧ sc.names.lookup n = some .local ∧ okName n = true ∧
    ∀ k, k < nc → PySem.W.exmOne K (.ref (g.ca k)) (.ref (g.ca cE)) = some (m.1.contains k)
  rng : ∀ k ∈ m.1, k < nc
  xf : ∀ k ∈ m.1, XfC K (g.ca k) ∧ ∀ f ∈ m.2.2, PySem.W.findIn K (.ref (g.ca k)) f = some none
  few : m.2.2.length ≤ 100
/-- a clause's suite -/
def tMh (g : G) (i : Nat) (m : MH) : ASuite := fun a cls d D σ H => ∃ k dd fv ws, k ∈ m.1 ∧ cls = .ref (g.ca k) ∧ d = some dd ∧ H dd = some (.xd fv) ∧ Paired (fun f w => fv.lookup f = some w) m.2.2 ws ∧ σ[i]? = some (some (V.ref a)) ∧ NewT H (.str m.2.1 :: ws) D.rt
section
variable {X : Cx} {e : Env2} {g : G}
theorem pa_xf {a C : Addr} {oe : Obj} {cls : Value} {d : Option Addr} {pn : List (Addr × Obj)} {n : Str} {i : Nat} (T : XfC X.K C) (hz : Zc cls d oe) (hf : ∃ vs, oe.data = .fields vs) (hN : X.N[i]? = some n) (hv : Vis X.env.scope n) (d1 : (n == ("__debug__" : Str)) = false) (d2 : (n == ("__classdict__" : Str)) = false) :
    ∀ {es : List Expr} {fs : List Str}, Paired (fun ex f => ∃ p q, ex = .Attribute (.Name n p) f q) es fs → (∀ f ∈ fs, PySem.W.findIn X.K (.ref C) f = some none) → ∃ t, PA (X.suite a ((a, oe) :: pn)) es t ∧
      ∀ (σ : L2.St) (H : Hp) (ws : List V) (dd : Addr) (fv : List (Str × V)) (Q : List V → Hp → Prop), σ[i]? = some (some (V.ref a)) → cls = .ref C → d = some dd → H dd = some (.xd fv) → Paired (fun f w => fv.lookup f = some w) fs ws → Q ws H → t σ H Q
  | _, _, .nil, _ => ⟨_, pa_nil, fun σ H ws dd fv Q _ _ _ _ hp q => by cases hp; exact q⟩
  | _, _, .cons (a := ex) (b := f) ⟨p, q, e1⟩ r, hno => by
    subst e1
    obtain ⟨t, ht, hq⟩ := pa_xf T hz hf hN hv d1 d2 r fun f hf => hno f (List.mem_cons_of_mem _ hf)
    have he : PE (X.suite a ((a, oe) :: pn)) (.Attribute (.Name n p) f q) (tXf a cls d C f (tVar i)) := pe_xf T (hno f List.mem_cons_self) hz hf (pe_var hN hv d1 d2)
    refine ⟨_, pa_cons he ht, fun σ H ws dd fv Q hs hc hd hx hp q => ?_⟩
    cases hp with
    | @cons _ w _ ws h1 h2 => exact ⟨.ref a, hs, rfl, hc, dd, fv, w, hd, hx, h1, hq σ H ws dd fv _ hs hc hd hx h2 q⟩
theorem okN {x : Str} (h : okName x = true) : (x == ("__debug__" : Str)) = false ∧ (x == ("__classdict__" : Str)) = false := by
  unfold okName at h
  simpa [Bool.and_eq_true, Bool.not_eq_true'] using h
/-- the clauses, and what they wish -/
theorem hds_ok {N : List Str} {sc : Scope} {nc : Nat} (hN : X.N = N) (hsc : X.env.scope = sc) : ∀ {hds : List ExceptHandler} {ms : List MH}, Paired (HdOk X.K X.mg g N sc nc) hds ms → ∃ l, ClsOk X hds l ∧
    ∀ (D : Ends) (k : Nat) (m : MH) (dd : Addr) (fv : List (Str × V)) (ws : List V) (H : Hp), k < nc → ms.find? (fun m => m.1.contains k) = some m → H dd = some (.xd fv) → Paired (fun f w => fv.lookup f = some w) m.2.2 ws → NewT H (.str m.2.1 :: ws) D.rt →
      ∀ σ : L2.St, σ.length = N.length → wAsMany X.K (fun _ _ _ _ => False) D l (.ref (g.ca k)) (some dd) σ H
  | _, _, .nil => ⟨[], .nil, fun D k m dd fv ws H _ hf => by cases hf⟩
  | hd :: hds, m :: ms, .cons h r => by
    obtain ⟨l, hl, hq⟩ := hds_ok hN hsc r
    obtain ⟨x, n, cE, i, h1, h2, h3, h4, h5, h6, h7, h8⟩ := h.ex
    obtain ⟨xp, j, tp, es, kk, p, rp, hp, rfl, ha⟩ := cHd_of h1
    obtain ⟨n1, n2⟩ := okN h7
    have hi : X.N[i]? = some n := by rw [hN]; exact h5
    have hln : X.env.kindOf n = some .local := by show X.env.scope.names.lookup n = _; rw [hsc]; exact h6
    refine ⟨(.ref (g.ca cE), i, tMh g i m) :: l, .cons ⟨by show X.env.scope.names.lookup x = _; rw [hsc]; exact h2, (okN h3).1, .inl h4⟩ hi hln (fun a oe cls d pn hz hf => ?_) hl, fun D k m' dd fv ws H hk hfd hx hp q σ hsl => ?_⟩
    · refine ⟨fun pins s σ H D I ⟨k, dd, fv, ws, hk, ec, ed, hx, hp, hs, q⟩ => ?_⟩
      obtain ⟨T, hno⟩ := h.xf k hk
      obtain ⟨t, ht, hq2⟩ := pa_xf (C := g.ca k) T hz hf hi (.inl hln) n1 n2 (cAtts_of ha) hno
      have hb : PSs (X.suite a ((a, oe) :: pn)) [.Return (some (.Tuple (.Constant (.str m.2.1) j tp :: es) kk p)) rp] _ := pss_one (ps_ret (pe_tupF (pa_cons pe_str ht)))
      refine hb.run pins s σ H D I (hq2 σ H ws dd fv _ hs ec ed hx hp ⟨?_, q⟩)
      have := h.few
      have hl2 : m.2.2.length = ws.length := Paired.length hp
      rw [sizeLine_eq, List.length_cons]
      omega
    · refine ⟨_, h8 k hk, fun hy a na => ?_, fun hn => ?_⟩
      · have e1 : m' = m := by
          rw [List.find?_cons, hy] at hfd
          exact (Option.some.inj hfd).symm
        subst e1
        have hil : i < σ.length := by rw [hsl]; exact (List.getElem?_eq_some_iff.mp h5).1
        exact ⟨k, dd, fv, ws, List.contains_iff_mem.mp hy, rfl, rfl, hx, hp, List.getElem?_set_self hil, q⟩
      · rw [List.find?_cons, hn] at hfd
        exact hq D k m' dd fv ws H hk hfd hx hp q σ hsl
/-- what such a def makes of what it calls -/
def TTmet (g : G) (nc : Nat) (ms : List MH) : (XK → Hp → VK → Prop) → Hp → VK → Prop := fun tl H Q => tl (fun cls d G => ∃ k m dd fv ws, k < nc ∧ cls = .ref (g.ca k) ∧ d = some dd ∧ ms.find? (fun m => m.1.contains k) = some m ∧ G dd = some (.xd fv) ∧ Paired (fun f w => fv.lookup f = some w) m.2.2 ws ∧
  NewT G (.str m.2.1 :: ws) Q) H Q
/-- a def that tries what it gets -/
structure MetOk (P : Program) (w : World) (K : PySem.W.Frag) (mg : Str → Option Value) (g : G) (nc : Nat) (f : Addr) (x : Str) (ms : List MH) : Prop where
  kp : PySem.W.keepIn K (.ref f) = true
  ex : ∃ (oc : Value) (od : Option Addr) (pg : Arguments) (bg : List Stmt) (sg : Scope) (dV kV doc pm : Value) (an : Option Addr) (cdv ct : Value) (osl : Array (Option Value)) (Ng : List Str) (a : Str) (hds : List ExceptHandler) (h₀ : ExceptHandler) (p1 p2 p3 p4 : Pos),
    K.lookup f = some ⟨oc, od, .func (PySem.W.fnOf x x pg bg sg dV kV doc pm an cdv ct), osl⟩ ∧ PySem.W.codeIn K cdv x = true ∧ L2.Binds K (PySem.W.fnOf x x pg bg sg dV kV doc pm an cdv ct) [a] [] ∧ FnScope Ng [a] sg ∧ Ng[0]? = some a ∧ Vis sg a ∧ okName a = true ∧
      bg = [.Try [.Return (some (.Call (.Name a p1) [] [] p2)) p3] (h₀ :: hds) [] [] p4] ∧ Paired (HdOk K mg g Ng sg nc) (h₀ :: hds) ms
theorem met_gives {x a q : Str} {Ng : List Str} {sg : Scope} {gA : Addr} {cdg : Value} {nc : Nat} {ms : List MH} {hds : List ExceptHandler} {h₀ : ExceptHandler} {p1 p2 p3 p4 : Pos} (S : FnScope Ng [a] sg) (hNg : Ng[0]? = some a) (hh : Paired (HdOk X.K X.mg g Ng sg nc) (h₀ :: hds) ms) :
    LamX.GivesTo X Ng x sg gA cdg [.Try [.Return (some (.Call (.Name a p1) [] [] p2)) p3] (h₀ :: hds) [] [] p4] a q (TTmet g nc ms) := by
  intro f c' s H Q tl act hc h
  obtain ⟨l, hl, hq⟩ := hds_ok (X := (cxOf C8.CX0 X.prog X.w X.K X.mg X.base Ng x sg gA cdg X.A X.stack s H C8.E0).nox) (g := g) (nc := nc) rfl rfl hh
  have h0 : (L2.start Ng [V.ref f])[0]? = some (some (V.ref f)) := rfl
  refine ⟨_, pss_one (ps_try_asMany (X := (cxOf C8.CX0 X.prog X.w X.K X.mg X.base Ng x sg gA cdg X.A X.stack s H C8.E0).nox)
    (tb := fun U D σ H => ∃ Ech : XK, (∀ cls d σ' H', σ'.length = Ng.length → Ech cls d H' → U cls d σ' H') ∧ σ[0]? = some (some (.ref f)) ∧ H c' = some (LamX.CodeO c' q) ∧ tl Ech H D.rt) rfl rfl S.nd LamX.takes0 (fun U pn xe tk _ => ?_) hl), ?_⟩
  · refine ⟨fun pins s' σ H' D I ⟨Ech, hW, h1, h2, h3⟩ => ?_⟩
    have tk2 : Takes ((cxOf C8.CX0 X.prog X.w X.K X.mg X.base Ng x sg gA cdg X.A X.stack s H C8.E0).tr pn xe) (fun cls d σ' H' => σ'.length = Ng.length → U cls d σ' H') := fun u s'' xx => by
      obtain ⟨a1, B, sI, pins2, σ2, H2, cls, d, e1, I2, nb, up, sky, na, os, ag, w⟩ := xx
      exact tk u s'' ⟨a1, B, sI, pins2, σ2, H2, cls, d, e1, I2, nb, up, sky, na, os, ag, w I2.len⟩
    have hp := act (fun cls d σ' H' => σ'.length = Ng.length → U cls d σ' H') pn xe Ech p1 p2 tk2 fun cls d σ' H' hE hl => hW cls d σ' H' hl hE
    exact (pss_one (ps_ret (pos := p3) hp)).run pins s' σ H' D I ⟨h1, h2, h3⟩
  · refine ⟨_, fun cls d σ' H' hsl hE => ?_, h0, hc, h⟩
    obtain ⟨k, m, dd, fv, ws, hk, rfl, rfl, hf, hx, hp, hQ⟩ := hE
    exact hq _ k m dd fv ws H' hk hf hx hp hQ σ' hsl
end
end VM

set_option linter.all false
set_option maxRecDepth 100000
/-! VM28: a lambda that is tried; what is known of a context. -/
namespace VM
open PySem PySem.Spec PyProof.Rows L2
section
variable {e : Env2} {W : WX} {X : Cx} {l a b tg : Expr} {pos : Pos} {T T0 T1 T2 T' : AP1} {θ θ1 θ2 θ' : List Addr} {s s1 s2 s' : S} {σ σ1 σ2 σ' : L2.St} {H H1 H2 H' : Hp} {d d' : D} {v : V} {p : Addr} {g : G} {O O' : OP} {c : C}
/-- code tables have grown, new things are known -/
theorem StR.extN (R : StR e T θ s σ H) (x : LamX.ExtN H H1) (t : LamX.Tabs e.tb H1) : Stp e T θ s T θ s σ H H1 := by
  have k1 : ∀ a o, H a = some o → ¬ isTbl o → H1 a = some o := fun a o h n => x a o h fun ps z => n (by rw [z]; exact True.intro)
  have k : Kp (Own T θ s.sl σ) H (Own T θ s.sl σ) H1 := And.intro Pfx.refl fun a o h nt n => ⟨n, .inl (k1 a o h nt)⟩
  have nt : ∀ o, isRt o → ¬ isTbl o := fun o h z => by cases o <;> first | exact h.elim | exact z.elim
  have rt : ∀ {d p}, Root e.g (Own T θ s.sl σ) H d p → H1 p = H p := fun {d p} r => by
    obtain ⟨o, ho, hr⟩ := r.rt
    rw [ho]
    exact k1 p o ho (nt o hr)
  refine ⟨⟨R.len, fun i c h => ?_, R.hlen, fun n d p h1 h2 => (R.hnd n d p h1 h2).keep k (rt (R.hnd n d p h1 h2)), R.nd, R.sep, R.inj, R.hT, fun a h => ?_, t⟩, fun _ _ z => z, k, fun _ z => z, fun a h => ?_⟩
  · have q := R.slot i c h
    by_cases ho : ∃ d, c = .ow d
    · obtain ⟨d, rfl⟩ := ho
      obtain ⟨p, e1, r⟩ := q
      exact ⟨p, e1, r.keep k (rt r)⟩
    · exact SlotOk.keep k (fun _ _ z => z) (fun d y => ho ⟨d, y⟩) q
  · obtain ⟨o, h1, h2⟩ := R.tr a h
    exact ⟨o, k1 a o h1 (nt o h2), h2⟩
  · obtain ⟨o, h1, h2⟩ := R.tr a h
    rw [h1]
    exact k1 a o h1 (nt o h2)
theorem flds_ok {fs : List (Str × D)} {fv : List (Str × V)} (h : ShF g O H fs fv) : ∀ {ns : List Str} {ds : List D}, fldsOf fs ns = some ds → ∃ ws, Paired (fun f w => fv.lookup f = some w) ns ws ∧ Shs g O H ds ws
  | [], _, e1 => by cases e1; exact ⟨[], .nil, rfl⟩
  | f :: r, ds, e1 => by
    have e1 : (match fs.lookup f with | none => none | some d => (fldsOf fs r).map (d :: ·)) = some ds := e1
    cases q : fs.lookup f with
    | none => rw [q] at e1; cases e1
    | some d =>
      rw [q] at e1
      obtain ⟨ds', h1, rfl⟩ := map_of e1
      obtain ⟨ws, h2, h3⟩ := flds_ok h h1
      obtain ⟨w, h4, h5⟩ := h f d q
      exact ⟨w :: ws, .cons h4 h2, _, _, rfl, h5, h3⟩
theorem find_rng {N : List Str} {sc : Scope} {nc k : Nat} {mg : Str → Option Value} {K : PySem.W.Frag} : ∀ {hds : List ExceptHandler} {ms : List MH} {m : MH}, Paired (HdOk K mg g N sc nc) hds ms → ms.find? (fun m => m.1.contains k) = some m → k < nc
  | _, _, m, .nil, h => by cases h
  | _, _, m, .cons (b := m0) h r, hf => by
    rw [List.find?_cons] at hf
    cases q : m0.1.contains k with
    | true => exact h.rng k (List.contains_iff_mem.mp q)
    | false => rw [q] at hf; exact find_rng r hf
theorem imp_met {nc : Nat} {ms : List MH} {fa : S → Out C} {Q : VK} (hr : ∀ k m, ms.find? (fun m => m.1.contains k) = some m → k < nc) (h : TEv e W (fun s => metOf ms (fa s)) σ H Q) :
    LamX.tLam e.tb (TTmet e.g nc ms) (fun E => TEv e (fun cls d _ G => E cls d G) fa) σ H Q := by
  obtain ⟨T, θ, s, st, p⟩ := h
  refine ⟨st.tb, fun H1 x t => ?_⟩
  have stp := st.extN x t
  refine ⟨T, θ, s, stp.st, ?_⟩
  have p : Post e W (RC e) T θ s σ H1 (metOf ms (fa s)) Q := Post.shift stp p
  show Post e _ (RC e) T θ s σ H1 (fa s) Q
  revert p
  generalize fa s = r
  intro p
  cases r with
  | ok c s1 => exact p
  | bad => exact p
  | exc k fs s1 =>
    intro θ2 H2 dd st2 ⟨fv, h1, h2, h3⟩
    have p : Post e W (RC e) T θ s σ H1 (match ms.find? fun h => h.1.contains k with
      | none => .bad
      | some h => match fldsOf fs h.2.2 with
        | none => .bad
        | some ds => .ok (.sh (.tup (.str h.2.1 :: ds))) s1) Q := p
    cases hf : ms.find? (fun h => h.1.contains k) with
    | none => rw [hf] at p; exact p.elim
    | some m =>
      rw [hf] at p
      have p : Post e W (RC e) T θ s σ H1 (match fldsOf fs m.2.2 with
        | none => .bad
        | some ds => .ok (.sh (.tup (.str m.2.1 :: ds))) s1) Q := p
      cases hd : fldsOf fs m.2.2 with
      | none => rw [hd] at p; exact p.elim
      | some ds =>
        rw [hd] at p
        obtain ⟨ws, q1, q2⟩ := flds_ok h3 hd
        refine ⟨k, m, dd, fv, ws, hr k m hf, rfl, rfl, hf, h1, q1, fun q o hq ho => ?_⟩
        have p2 : Post e W (RC e) T θ2 s1 σ H2 (.ok (.sh (.tup (.str m.2.1 :: ds))) s1) Q := Post.shift st2 p
        exact p2.nv st2.st (.tup hq ho ⟨_, _, rfl, rfl, q2⟩)
end
/-- a name of the module -/
def GOk (g : G) (x : Str) : GR → Prop
  | .fn i => g.mg x = some (.ref (g.fa i))
  | .cls i => g.mg x = some (.ref (g.ca i))
  | .con d => ∃ v u, g.mg x = some u ∧ RelV v u ∧ ∀ O H, Sh g O H d v
  | .free => g.mg x = none
/-- what is known of a context -/
structure OkX (e : Env2) (cm : Cm) (flds : Nat → List Str) (W : WX) (d : Nat) (c : SC) (X : Cx) : Prop where
  N : X.N = c.N
  nd : c.N.Nodup
  sc : X.env.scope = c.sc
  K : X.K = e.g.K
  gx : GX X e.g
  mg : X.mg = e.g.mg
  calm : X.calm = true
  rm : Room (3 * d + 6) X.A
  gd : c.gd = true → X.A.guards = some []
  tk : Takes X W
  fn : ∀ x, (match c.ib with | none => true | some l => l.contains x) = true → c.sc.names.lookup x = some .cell → X.fn x = true
  gl : ∀ x r, c.gl.lookup x = some r → GOk e.g x r
  fns : ∀ x i, c.gl.lookup x = some (.fn i) → c.mt.lookup i = none → (c.gd || c.ng.contains i) = true → FnVM X.prog X.w X.K X.mg X.base e (!c.ng.contains i) (3 * d + 6) (e.g.fa i) (cm i)
  mts : ∀ x i hs, c.gl.lookup x = some (.fn i) → c.mt.lookup i = some hs → ∃ nc, MetOk X.prog X.w X.K X.mg e.g nc (e.g.fa i) x hs
  cls : ∀ x i, c.gl.lookup x = some (.cls i) → ClsE X.prog X.w X.K X.mg X.base 1 (e.g.ca i) (flds i)
  lam : c.lm = true → Room (3 * d + 8) X.A ∧ ∃ cA PA, LamX.TabB X.base X.mg cA PA ∧ X.env.code = .ref cA ∧ (PA, X.env.qual ++ "<lambda>") ∈ e.tb ∧ ∀ p ∈ e.tb, p.1 = PA → p.2 = X.env.qual ++ "<lambda>"
section
variable {e : Env2} {cm : Cm} {flds : Nat → List Str} {W : WX} {d : Nat} {c : SC} {X : Cx}
theorem OkX.un (o : OkX e cm flds W d c X) : X.A.units + 100 < cLine := by
  have := o.rm.un
  omega
/-- the context of a comprehension's block -/
theorem OkX.blk (o : OkX e cm flds W d c X) (s : Shared) (H : Hp) (scope : Scope) (cl : List (Str × Addr)) (C : Addr) (fp : List Addr) : OkX e cm flds W0 d (c.blk scope) (X.blk s H scope (compEnvC scope cl C X.env) fp) where
  N := o.N
  nd := o.nd
  sc := by
    show relS scope X.env.scope = relS scope c.sc
    rw [o.sc]
  K := o.K
  gx := ⟨o.gx.K, o.gx.P, o.gx.w⟩
  mg := o.mg
  calm := o.calm
  rm := o.rm
  gd := o.gd
  tk := LamX.takes0
  fn := fun x hx _ => by
    have hx : (cellsOf scope).contains x = true := hx
    have hx := List.contains_iff_mem.mp hx
    obtain ⟨y, h1, h2⟩ := List.mem_map.mp hx
    have h3 := (List.mem_filter.mp h1).2
    subst h2
    show (scope.names.lookup y.1 == some .cell) = true
    rw [of_decide_eq_true h3]; rfl
  gl := o.gl
  fns := o.fns
  mts := o.mts
  cls := o.cls
  lam := fun h => by cases h
/-- the context of a lambda's body -/
theorem OkX.lamC (o : OkX e cm flds W d c X) {A : Around} {outer : List Env} {s : Shared} {H : Hp} {E : XK} {scope : Scope} {f c' : Addr} (hr : Room (3 * d + 6) (A.deeper (LamX.lamEnv X scope s.heap.objs.size f c'))) :
    OkX e cm flds (fun cls d _ G => E cls d G) d (c.lam scope) (LamX.lamCx X A outer s H E scope f c') where
  N := o.N
  nd := o.nd
  sc := rfl
  K := o.K
  gx := ⟨o.gx.K, o.gx.P, o.gx.w⟩
  mg := o.mg
  calm := rfl
  rm := hr
  gd := fun h => by cases h
  tk := takes_of rfl rfl rfl rfl
  fn := fun x hx _ => by
    have hx : ([] : List Str).contains x = true := hx
    simp at hx
  gl := o.gl
  fns := fun x i h0 h1 h2 => o.fns x i h0 h1 (by
    have h2 : (false || c.ng.contains i) = true := h2
    rw [Bool.false_or] at h2
    rw [h2, Bool.or_true])
  mts := o.mts
  cls := o.cls
  lam := fun h => by cases h
end
end VM

set_option linter.all false
set_option maxRecDepth 100000
/-! VM29: the compiler of expressions is right. -/
namespace VM
open PySem PySem.Spec PyProof.Rows L2
theorem ixOf_at {x : Str} : ∀ {l : List Str} {i : Nat}, ixOf x l = some i → l[i]? = some x
  | [], _, h => by cases h
  | y :: ys, i, h => by
    unfold ixOf at h
    split at h
    case isTrue hy => cases h; rw [beq_iff_eq.mp hy]; rfl
    case isFalse =>
      obtain ⟨j, h1, rfl⟩ := map_of h
      simpa using ixOf_at h1
theorem if_some {α : Type} {b : Bool} {o : Option α} {a : α} (h : (if b = true then o else none) = some a) : b = true ∧ o = some a := by
  split at h
  case isTrue hb => exact ⟨hb, h⟩
  case isFalse => cases h
theorem ife_some {α : Type} {b : Bool} {o o' : Option α} {a : α} (h : (if b = true then o else o') = some a) : (b = true ∧ o = some a) ∨ (b = false ∧ o' = some a) := by
  split at h
  case isTrue hb => exact .inl ⟨hb, h⟩
  case isFalse hb => exact .inr ⟨Bool.not_eq_true _ ▸ hb, h⟩
theorem mapO_pair {α β : Type} {f : α → Option β} : ∀ {as : List α} {bs : List β}, mapO f as = some bs → Paired (fun a b => f a = some b) as bs
  | [], _, h => by cases h; exact .nil
  | a :: as, bs, h => by
    have h : (match f a with | none => none | some b => (mapO f as).map (b :: ·)) = some bs := h
    cases q : f a with
    | none => rw [q] at h; cases h
    | some b =>
      rw [q] at h
      obtain ⟨bs', h1, rfl⟩ := map_of h
      exact .cons q (mapO_pair h1)
section
variable {e : Env2} {cm : Cm} {flds : Nat → List Str} {W : WX} {d : Nat} {c : SC} {X : Cx} {ex a b l : Expr} {x : Str} {i : Nat} {m : ME} {pos : Pos}
theorem vis_ok (o : OkX e cm flds W d c X) (h : slotOf c x = some i) : X.N[i]? = some x ∧ Vis X.env.scope x ∧ (x == ("__debug__" : Str)) = false ∧ (x == ("__classdict__" : Str)) = false := by
  obtain ⟨h1, h2⟩ := if_some (h : (if (visB c x && okName x) = true then ixOf x c.N else none) = some i)
  rw [Bool.and_eq_true] at h1
  obtain ⟨h3, h4⟩ := okN h1.2
  refine ⟨by rw [o.N]; exact ixOf_at h2, ?_, h3, h4⟩
  have h5 := h1.1
  unfold visB at h5
  unfold Vis
  rw [o.sc]
  split at h5
  · next q => exact .inl q
  · next q => exact .inr (.inl q)
  · next q => exact .inr (.inr q)
  · cases h5
theorem sto_ok (o : OkX e cm flds W d c X) (h : stoOf c x = some i) : X.N[i]? = some x ∧ L2.Loc X.env.scope x ∧ (X.fn x = true ∨ X.env.scope.names.lookup x = some .local) := by
  obtain ⟨h1, h2⟩ := if_some (h : (if locB c x = true then ixOf x c.N else none) = some i)
  unfold locB at h1
  unfold L2.Loc
  rw [o.sc]
  refine ⟨by rw [o.N]; exact ixOf_at h2, ?_⟩
  split at h1
  · next q => exact ⟨.inl q, .inr q⟩
  · next q => exact ⟨.inr q, .inl (o.fn x h1 q)⟩
  · cases h1
theorem g_ok {r : GR} (o : OkX e cm flds W d c X) (h : gOf c x = some r) : Gl X x ∧ (x == ("__debug__" : Str)) = false ∧ c.gl.lookup x = some r ∧ GOk e.g x r := by
  unfold gOf at h
  split at h
  · next q =>
    obtain ⟨h1, h2⟩ := if_some h
    exact ⟨by show X.env.scope.names.lookup x = _; rw [o.sc]; exact q, (okN h1).1, h2, o.gl x r h2⟩
  · cases h
theorem free_ok (o : OkX e cm flds W d c X) (h : isFree c x = true) : Gl X x ∧ X.mg x = none := by
  unfold isFree at h
  split at h
  · next q =>
    obtain ⟨h1, _, _, h2⟩ := g_ok o q
    exact ⟨h1, by rw [o.mg]; exact h2⟩
  · cases h
/-- what is asked of the smaller ones -/
abbrev RecOk (e : Env2) (cm : Cm) (flds : Nat → List Str) (d : Nat) (rec : SC → Expr → Option ME) : Prop := ∀ (W : WX) (c : SC) (X : Cx) (ex : Expr) (m : ME), OkX e cm flds W d c X → rec c ex = some m → PB e W X ex (ev cm m)
variable {rec : SC → Expr → Option ME}
theorem args_ok (ih : RecOk e cm flds d rec) (o : OkX e cm flds W d c X) : ∀ {es : List Expr} {ms : List ME}, cArgs rec c es = some ms → PBs e W X es (evs cm ms) := by
  intro es ms h
  replace h := mapO_pair h
  induction h with
  | nil => exact .nil
  | cons q _ ih2 =>
    obtain ⟨q1, q2⟩ := if_some q
    exact .cons ⟨ih W c X _ _ o q2, q1⟩ ih2
theorem argsB_ok (ih : RecOk e cm flds d rec) (o : OkX e cm flds W d c X) : ∀ {es : List Expr} {ms : List ME}, cArgsB rec c es = some ms → PAs e W X es (evs cm ms) := by
  intro es ms h
  replace h := mapO_pair h
  induction h with
  | nil => exact .nil
  | @cons ex m es ms q _ ih2 =>
    refine .cons ?_ ih2
    unfold cArgB at q
    split at q
    · rcases ife_some q with ⟨_, q⟩ | ⟨_, q⟩
      · obtain ⟨i, q1, rfl⟩ := map_of q
        obtain ⟨h1, h2, h3, h4⟩ := vis_ok o q1
        exact ⟨pe_brw h1 h2 h3 h4, rfl⟩
      · exact ⟨(ih W c X _ _ o q).pe, rfl⟩
    · obtain ⟨q1, q2⟩ := if_some q
      exact ⟨(ih W c X _ _ o q2).pe, q1⟩
theorem cTgs_pair {f : Expr → Option MG} : ∀ {es : List Expr} {gs : List MG}, cTgs f es = some gs → Paired (fun a b => f a = some b) es gs
  | [], _, h => by cases h; exact .nil
  | a :: as, gs, h => by
    have h : (match f a with | none => none | some g => (cTgs f as).map (g :: ·)) = some gs := h
    cases q : f a with
    | none => rw [q] at h; cases h
    | some b =>
      rw [q] at h
      obtain ⟨bs', h1, rfl⟩ := map_of h
      exact .cons q (cTgs_pair h1)
theorem tg_ok (o : OkX e cm flds W d c X) : ∀ (n : Nat) {ex : Expr} {g : MG}, cTg c n ex = some g → PG X ex (TGv e g) ∧ notStar ex = true
  | 0, _, _, h => by cases h
  | n + 1, ex, g, h => by
    unfold cTg at h
    split at h
    · obtain ⟨i, h1, rfl⟩ := map_of h
      obtain ⟨q1, q2, q3⟩ := sto_ok o h1
      exact ⟨pgv_name (by rw [o.N]; exact o.nd) q1 q2 q3, rfl⟩
    · next es _ _ =>
      obtain ⟨gs, h1, rfl⟩ := map_of h
      have h2 := cTgs_pair h1
      have h3 : Paired (fun ex g => PG X ex (TGv e g) ∧ notStar ex = true) es gs := by
        clear h1 h
        induction h2 with
        | nil => exact .nil
        | cons q _ ih2 => exact .cons (tg_ok o n q) ih2
      exact ⟨pgv_tup o.K o.calm h3, rfl⟩
    · cases h
/-! ### walks -/
theorem notSet_fold {ex : Expr} (h : notSet ex = true) (env : Env) (v : Value) : foldedSetIterable ex env v = pure v := by
  unfold foldedSetIterable
  cases ex <;> first | rfl | cases h
theorem seq_ok (ih : RecOk e cm flds d rec) (o : OkX e cm flds W d c X) {t ex : Expr} {mi : MI} (h : cSeq rec c ex = some mi) : PI X t ex (TIv e W (evIt cm mi)) ∧ ∀ env v, foldedSetIterable ex env v = pure v := by
  obtain ⟨h1, h2⟩ := if_some h
  obtain ⟨m, h3, rfl⟩ := map_of h2
  exact ⟨pi_seq o.K (ih W c X _ _ o h3), notSet_fold h1⟩
theorem call1_of {ex a : Expr} {x : Str} (h : call1 ex = some (x, a)) : ∃ p pos, ex = .Call (.Name x p) [a] [] pos := by
  unfold call1 at h
  split at h
  · cases h; exact ⟨_, _, rfl⟩
  · cases h
theorem call2_of {ex a b : Expr} {x : Str} (h : call2 ex = some (x, a, b)) : ∃ p pos, ex = .Call (.Name x p) [a, b] [] pos := by
  unfold call2 at h
  split at h
  · cases h; exact ⟨_, _, rfl⟩
  · cases h
theorem isTupE_of {t : Expr} (h : isTupE t = true) : ∃ es k p, t = .Tuple es k p := by
  cases t <;> first | exact ⟨_, _, _, rfl⟩ | cases h
theorem it1_ok (ih : RecOk e cm flds d rec) (o : OkX e cm flds W d c X) {t a : Expr} {x : Str} {mi : MI} {p pos : Pos} (h : cIt1 rec c t x a (.Call (.Name x p) [a] [] pos) = some mi) : PI X t (.Call (.Name x p) [a] [] pos) (TIv e W (evIt cm mi)) ∧ ∀ env v, foldedSetIterable (.Call (.Name x p) [a] [] pos) env v = pure v := by
  rcases ife_some h with ⟨hb, h2⟩ | ⟨_, h2⟩
  · simp only [Bool.and_eq_true, beq_iff_eq] at hb
    obtain ⟨⟨ex, hf⟩, hs⟩ := hb
    obtain ⟨m, h3, e3⟩ := map_of h2
    subst ex e3
    obtain ⟨hg, hm⟩ := free_ok o hf
    exact ⟨pi_rng1 hg hm (ih W c X _ _ o h3) hs, notSet_fold rfl⟩
  · rcases ife_some h2 with ⟨hb, h2⟩ | ⟨_, h2⟩
    · simp only [Bool.and_eq_true, beq_iff_eq] at hb
      obtain ⟨⟨⟨ex, hf⟩, hs⟩, ht⟩ := hb
      obtain ⟨m, h3, e3⟩ := map_of h2
      obtain ⟨es, k, p, et⟩ := isTupE_of ht
      subst ex e3 et
      obtain ⟨hg, hm⟩ := free_ok o hf
      exact ⟨pi_enum' o.K hg hm (ih W c X _ _ o h3) hs, notSet_fold rfl⟩
    · exact seq_ok ih o h2
theorem it2_ok (ih : RecOk e cm flds d rec) (o : OkX e cm flds W d c X) {t a b : Expr} {x : Str} {mi : MI} {p pos : Pos} (h : cIt2 rec c t x a b (.Call (.Name x p) [a, b] [] pos) = some mi) : PI X t (.Call (.Name x p) [a, b] [] pos) (TIv e W (evIt cm mi)) ∧ ∀ env v, foldedSetIterable (.Call (.Name x p) [a, b] [] pos) env v = pure v := by
  rcases ife_some h with ⟨hb, h2⟩ | ⟨_, h2⟩
  · simp only [Bool.and_eq_true, beq_iff_eq] at hb
    obtain ⟨⟨⟨ex, hf⟩, hs⟩, hs2⟩ := hb
    obtain ⟨m, h3, h2⟩ := opt_bind h2
    obtain ⟨m2, h4, e4⟩ := map_of h2
    subst ex e4
    obtain ⟨hg, hm⟩ := free_ok o hf
    exact ⟨pi_rng2 hg hm (ih W c X _ _ o h3) (ih W c X _ _ o h4) hs hs2, notSet_fold rfl⟩
  · rcases ife_some h2 with ⟨hb, h2⟩ | ⟨_, h2⟩
    · simp only [Bool.and_eq_true, beq_iff_eq] at hb
      obtain ⟨⟨⟨⟨ex, hf⟩, hs⟩, hs2⟩, ht⟩ := hb
      obtain ⟨m, h3, h2⟩ := opt_bind h2
      obtain ⟨m2, h4, e4⟩ := map_of h2
      obtain ⟨es, k, p, et⟩ := isTupE_of ht
      subst ex e4 et
      obtain ⟨hg, hm⟩ := free_ok o hf
      exact ⟨pi_zip' o.K hg hm (ih W c X _ _ o h3) (ih W c X _ _ o h4) hs hs2, notSet_fold rfl⟩
    · exact seq_ok ih o h2
theorem it_ok (ih : RecOk e cm flds d rec) (o : OkX e cm flds W d c X) {t ex : Expr} {mi : MI} (h : cIt rec c t ex = some mi) : PI X t ex (TIv e W (evIt cm mi)) ∧ ∀ env v, foldedSetIterable ex env v = pure v := by
  unfold cIt at h
  split at h
  · next x a q =>
    obtain ⟨p, pos, er⟩ := call1_of q
    subst er
    exact it1_ok ih o h
  · split at h
    · next x a b q =>
      obtain ⟨p, pos, er⟩ := call2_of q
      subst er
      exact it2_ok ih o h
    · exact seq_ok ih o h
theorem ifs_ok (ih : RecOk e cm flds d rec) (o : OkX e cm flds W d c X) {es : List Expr} {ms : List ME} (h : cIfs rec c es = some ms) : PTs X es (TTv e W (ifsOf (evs cm ms))) := by
  unfold cIfs at h
  split at h
  · cases h; exact ptsv .nil (by simp)
  · obtain ⟨m, h1, rfl⟩ := map_of h
    exact ptsv (.cons (ih W c X _ _ o h1) .nil) (by simp)
  · cases h
theorem all_mem {l vs : List Nat} (h : l.all vs.contains = true) : ∀ i ∈ l, i ∈ vs := fun i hi => List.contains_iff_mem.mp (List.all_eq_true.mp h i hi)
end
end VM

set_option linter.all false
set_option maxRecDepth 100000
/-! VM30: the compiler of expressions is right, further. -/
namespace VM
open PySem PySem.Spec PyProof.Rows L2
section
variable {e : Env2} {cm : Cm} {flds : Nat → List Str} {W : WX} {d : Nat} {c : SC} {X : Cx} {ex a b l : Expr} {x : Str} {i : Nat} {m : ME} {pos : Pos} {rec : SC → Expr → Option ME}
/-- what a comprehension is -/
inductive CompOk (X : Cx) (e : Env2) (W : WX) (elt : Expr) (scope : Scope) (f : S → Out C) : List Comprehension → Prop
  | one {tg it : Expr} {ifs : List Expr} {own : List (Str × Nat)} {wi : TI} {g : TG} {tt : TT} {te : TE} (hi : PI X tg it wi) (ok : BlkOk X.N X.env.scope scope own)
      (hg : ∀ (s : Shared) (H : Hp) (C : Addr) (cl : List (Str × Addr)) (fp : List Addr), PG (X.blk s H scope (compEnvC scope cl C X.env) fp) tg g) (ht : ∀ (s : Shared) (H : Hp) (C : Addr) (cl : List (Str × Addr)) (fp : List Addr), PTs (X.blk s H scope (compEnvC scope cl C X.env) fp) ifs tt)
      (he : ∀ (s : Shared) (H : Hp) (C : Addr) (cl : List (Str × Addr)) (fp : List Addr), PE (X.blk s H scope (compEnvC scope cl C X.env) fp) elt te) (hs : ∀ x, foldedSetIterable it X.env x = pure x)
      (im : ∀ σ H Q, TEv e W f σ H Q → tLc wi g tt te (own.map (·.2)) σ H Q) : CompOk X e W elt scope f [⟨tg, it, ifs, 0⟩]
  | two {tg it tg1 it1 : Expr} {ifs ifs1 : List Expr} {own : List (Str × Nat)} {vs1 : List Nat} {wi wi1 : TI} {g g1 : TG} {tt tt1 : TT} {te : TE} (hi : PI X tg it wi) (ok : BlkOk X.N X.env.scope scope own) (hv : ∀ i ∈ vs1, i ∈ own.map (·.2))
      (hg : ∀ (s : Shared) (H : Hp) (C : Addr) (cl : List (Str × Addr)) (fp : List Addr), PG (X.blk s H scope (compEnvC scope cl C X.env) fp) tg g) (ht : ∀ (s : Shared) (H : Hp) (C : Addr) (cl : List (Str × Addr)) (fp : List Addr), PTs (X.blk s H scope (compEnvC scope cl C X.env) fp) ifs tt)
      (hi1 : ∀ (s : Shared) (H : Hp) (C : Addr) (cl : List (Str × Addr)) (fp : List Addr), PI (X.blk s H scope (compEnvC scope cl C X.env) fp) tg1 it1 wi1)
      (hg1 : ∀ (s : Shared) (H : Hp) (C : Addr) (cl : List (Str × Addr)) (fp : List Addr), PG (X.blk s H scope (compEnvC scope cl C X.env) fp) tg1 g1) (ht1 : ∀ (s : Shared) (H : Hp) (C : Addr) (cl : List (Str × Addr)) (fp : List Addr), PTs (X.blk s H scope (compEnvC scope cl C X.env) fp) ifs1 tt1)
      (he : ∀ (s : Shared) (H : Hp) (C : Addr) (cl : List (Str × Addr)) (fp : List Addr), PE (X.blk s H scope (compEnvC scope cl C X.env) fp) elt te) (hs : ∀ x, foldedSetIterable it X.env x = pure x) (hs1 : ∀ env x, foldedSetIterable it1 env x = pure x)
      (im : ∀ σ H Q, TEv e W f σ H Q → tLc2 wi g tt wi1 g1 tt1 te (own.map (·.2)) vs1 σ H Q) : CompOk X e W elt scope f [⟨tg, it, ifs, 0⟩, ⟨tg1, it1, ifs1, 0⟩]
theorem CompOk.pe {elt : Expr} {gs : List Comprehension} {scope : Scope} {f : S → Out C} (hc : X.calm = true) (hN : X.N.Nodup) (k : CompOk X e W elt scope f gs) : PE X (.ListComp elt gs scope pos) (TEv e W f) := by
  cases k with
  | one hi ok hg ht he hs im => exact pe_imp (pe_lc hc hN hi ok hg ht he hs) im
  | two hi ok hv hg ht hi1 hg1 ht1 he hs hs1 im => exact pe_imp (pe_lc2 hc hN hi ok hv hg ht hi1 hg1 ht1 he hs hs1) im
/-- y = [..], stored while the block's things go -/
theorem CompOk.set {elt : Expr} {gs : List Comprehension} {scope : Scope} {f : S → Out C} {y : Str} {py spos : Pos} (hc : X.calm = true) (hN : X.N.Nodup) (hy : X.N[i]? = some y) (hl : X.env.scope.names.lookup y = some .local) (k : CompOk X e W elt scope f gs)
    (hsw : swapsWith (.ListComp elt gs scope pos) (some (.Name y py)) spos.line X.env = pure true) : PS X (.Assign [.Name y py] (.ListComp elt gs scope pos) spos) (tAsg (TEv e W f) (gName i)) := by
  cases k with
  | one hi ok hg ht he hs im => exact ps_imp (ps_setLc hc hN hy hl hsw hi ok hg ht he hs) fun D σ H q => im σ H _ q
  | two hi ok hv hg ht hi1 hg1 ht1 he hs hs1 im => exact ps_imp (ps_setLc2 hc hN hy hl hsw hi ok hv hg ht hi1 hg1 ht1 he hs hs1) fun D σ H q => im σ H _ q
theorem it_fold {t ex : Expr} {mi : MI} (h : cIt rec c t ex = some mi) : ∀ env v, foldedSetIterable ex env v = pure v := by
  refine notSet_fold ?_
  unfold cIt at h
  split at h
  · next x a q =>
    obtain ⟨p, pos, er⟩ := call1_of q
    subst er
    rfl
  · split at h
    · next x a b q =>
      obtain ⟨p, pos, er⟩ := call2_of q
      subst er
      rfl
    · exact (if_some h).1
theorem elt_ok (ih : RecOk e cm flds d rec) (o : OkX e cm flds W d c X) {elt : Expr} {m : ME} (h : cElt rec c elt = some m) : PE X elt (TDv e W (ev cm m).d) := by
  unfold cElt at h
  split at h
  · next p =>
    obtain ⟨me, h5, em⟩ := map_of h
    subst em
    have b := ih W c X _ _ o h5
    have b2 : PE X (.List [] p) (TEv e W (ev cm (.alc me)).e) := pe_imp b.pe fun _ _ _ => imp_alc
    exact pe_imp b2 fun _ _ _ => imp_d
  · exact pe_d (ih W c X _ _ o h)
theorem comp_ok (ih : RecOk e cm flds d rec) (o : OkX e cm flds W d c X) {elt : Expr} {gs : List Comprehension} {scope : Scope} (h : cComp rec c elt gs scope = some m) : ∃ f, ev cm m = .of f ∧ CompOk X e W elt scope f gs := by
  obtain ⟨hb, h⟩ := if_some h
  rw [Bool.and_eq_true] at hb
  have ok : BlkOk X.N X.env.scope scope (ownOf c.N scope) := by rw [o.N, o.sc]; exact blkOk_by hb.1
  have ob : ∀ (s : Shared) (H : Hp) (C : Addr) (cl : List (Str × Addr)) (fp : List Addr), OkX e cm flds W0 d (c.blk scope) (X.blk s H scope (compEnvC scope cl C X.env) fp) := fun s H C cl fp => o.blk s H scope cl C fp
  split at h
  · next tg it ifs =>
    obtain ⟨mi, h1, h⟩ := opt_bind h
    obtain ⟨g, h2, h⟩ := opt_bind h
    obtain ⟨fs, h3, h⟩ := opt_bind h
    obtain ⟨h4, h⟩ := if_some h
    obtain ⟨me, h5, em⟩ := map_of h
    subst em
    obtain ⟨i1, i2⟩ := it_ok ih o h1
    exact ⟨_, rfl, .one i1 ok (fun s H C cl fp => (tg_ok (ob s H C cl fp) 9 h2).1) (fun s H C cl fp => ifs_ok ih (ob s H C cl fp) h3) (fun s H C cl fp => elt_ok ih (ob s H C cl fp) h5) (i2 X.env) fun σ H Q => imp_lc (all_mem h4)⟩
  · next tg it ifs tg1 it1 ifs1 =>
    obtain ⟨mi, h1, h⟩ := opt_bind h
    obtain ⟨g, h2, h⟩ := opt_bind h
    obtain ⟨fs, h3, h⟩ := opt_bind h
    obtain ⟨mi1, k1, h⟩ := opt_bind h
    obtain ⟨g1, k2, h⟩ := opt_bind h
    obtain ⟨fs1, k3, h⟩ := opt_bind h
    obtain ⟨h4, h⟩ := if_some h
    obtain ⟨me, h5, em⟩ := map_of h
    subst em
    rw [Bool.and_eq_true] at h4
    obtain ⟨i1, i2⟩ := it_ok ih o h1
    refine ⟨_, rfl, .two i1 ok (all_mem h4.2) (fun s H C cl fp => (tg_ok (ob s H C cl fp) 9 h2).1) (fun s H C cl fp => ifs_ok ih (ob s H C cl fp) h3) (fun s H C cl fp => (it_ok ih (ob s H C cl fp) k1).1) (fun s H C cl fp => (tg_ok (ob s H C cl fp) 9 k2).1)
      (fun s H C cl fp => ifs_ok ih (ob s H C cl fp) k3) (fun s H C cl fp => elt_ok ih (ob s H C cl fp) h5) (i2 X.env) (it_fold k1) fun σ H Q => imp_lc2 (all_mem h4.1) (fun i hi => hi) (all_mem h4.2)⟩
  · cases h
end
end VM

set_option linter.all false
set_option maxRecDepth 100000
/-! VM31: the compiler of expressions is right: calls, the whole. -/
namespace VM
open PySem PySem.Spec PyProof.Rows L2
section
variable {e : Env2} {cm : Cm} {flds : Nat → List Str} {W : WX} {d : Nat} {c : SC} {X : Cx} {ex a b l : Expr} {x : Str} {i : Nat} {m : ME} {pos : Pos} {rec : SC → Expr → Option ME}
theorem noArgs_of {p : Arguments} (h : noArgs p = true) : p = { posonlyargs := [], args := [], vararg := none, kwonlyargs := [], kw_defaults := [], kwarg := none, defaults := [] } := by
  obtain ⟨a1, a2, a3, a4, a5, a6, a7⟩ := p
  unfold noArgs at h
  simp only [Bool.and_eq_true, List.isEmpty_iff, Option.isNone_iff_eq_none] at h
  obtain ⟨⟨⟨⟨⟨⟨h1, h2⟩, h3⟩, h4⟩, h5⟩, h6⟩, h7⟩ := h
  subst h1 h2 h3 h4 h5 h6 h7
  rfl
theorem met_ok (ih : RecOk e cm flds d rec) (o : OkX e cm flds W d c X) {hs : List MH} {as : List Expr} {pn : Pos} (hg : Gl X x) (hdb : (x == ("__debug__" : Str)) = false) (hgl : c.gl.lookup x = some (.fn i)) (hm : e.g.mg x = some (.ref (e.g.fa i))) (hmt : c.mt.lookup i = some hs) (h : cMet rec c hs as = some m) :
    PB e W X (.Call (.Name x pn) as [] pos) (ev cm m) := by
  unfold cMet at h
  split at h
  · next params body scope lpos =>
    obtain ⟨hb, hz⟩ := if_some h
    replace h := hz
    obtain ⟨mb, h1, em⟩ := map_of h
    subst em
    simp only [Bool.and_eq_true] at hb
    obtain ⟨⟨hl, hn⟩, hL⟩ := hb
    have hp := noArgs_of hn
    subst hp
    obtain ⟨nc, M⟩ := o.mts x i hs hgl hmt
    obtain ⟨oc, od, pg, bg, sg, dV, kV, doc, pm, an, cdv, ct, osl, Ng, pa, hds, h₀, p1, p2, p3, p4, lk, hcg, hbd, Sg, hNg, hva, hok, hbg, hh⟩ := M.ex
    subst hbg
    obtain ⟨hr, cA, PA, TB, hcode, hmT, hu⟩ := o.lam hl
    obtain ⟨n1, n2⟩ := okN hok
    have hL2 : LamX.LamS X.env.scope scope := by rw [o.sc]; exact LamX.lamS_by hL
    refine pb_of o.K (pe_imp (LamX.pe_lamcall (T := e.tb) (TT := TTmet e.g nc hs) (t := fun E => TEv e (fun cls d _ G => E cls d G) (ev cm mb).e) hg (by rw [o.mg]; exact hm) M.kp lk hcg hbd Sg hNg hva (met_gives Sg hNg (by rw [o.mg] at *; exact hh)) TB hcode hmT hu (k := 3 * d + 6) hr hL2 rfl (fun _ _ _ _ _ => rfl)
      (fun A outer s H E f c' hr2 => (ih _ _ _ _ _ (o.lamC hr2) h1).pe) hdb n1 n2) fun σ H Q => imp_met fun k mm hf => find_rng hh hf) fun _ => rfl
  · cases h
theorem fn_ok (ih : RecOk e cm flds d rec) (o : OkX e cm flds W d c X) {as : List Expr} {pn : Pos} (hg : Gl X x) (hdb : (x == ("__debug__" : Str)) = false) (hgl : c.gl.lookup x = some (.fn i)) (hm : e.g.mg x = some (.ref (e.g.fa i))) (h : cFn rec c i as = some m) :
    PB e W X (.Call (.Name x pn) as [] pos) (ev cm m) := by
  unfold cFn at h
  split at h
  · next hs q => exact met_ok ih o hg hdb hgl hm q h
  · next q =>
    obtain ⟨hb, hz⟩ := if_some h
    replace h := hz
    obtain ⟨ms, h1, em⟩ := map_of h
    subst em
    have hgd : (!c.ng.contains i) = true → X.A.guards = some [] := fun z => o.gd (by
      rw [Bool.not_eq_true'] at z
      rw [z, Bool.or_false] at hb
      exact hb)
    exact pb_of o.K (pe_fn (o.fns x i hgl q hb) o.rm hgd o.tk hg (by rw [o.mg]; exact hm) hdb (argsB_ok ih o h1)) fun _ => rfl
/-! ### built-ins -/
theorem isRange_of {a b : Expr} (h : isRange c a = some b) : ∃ r p pos, a = .Call (.Name r p) [b] [] pos ∧ r = ("range" : Str) ∧ isFree c r = true ∧ notStar b = true := by
  unfold isRange at h
  split at h
  · obtain ⟨hb, hz⟩ := if_some h
    replace h := hz
    cases h
    simp only [Bool.and_eq_true, beq_iff_eq] at hb
    exact ⟨_, _, _, rfl, hb.1.1, hb.1.2, hb.2⟩
  · cases h
theorem bi1 {bi : Bi} {id : String} {pn : Pos} (ih : RecOk e cm flds d rec) (o : OkX e cm flds W d c X) (hg : Gl X x) (hm : X.mg x = none) (hdb : (x == ("__debug__" : Str)) = false) (hv : bootBuiltins x = some (.builtin id)) (hn : x ≠ "__name__") (hc : CallR X (.builtin id) (RLv e.g (biD bi)))
    {ex : Expr} {es : List Expr} (h : (cArgs rec c (ex :: es)).map (.bi bi) = some m) : PB e W X (.Call (.Name x pn) (ex :: es) [] pos) (ev cm m) := by
  obtain ⟨ms, h1, em⟩ := map_of h
  subst em
  exact pb_bi o.K hc hg hm hv (args_ok ih o h1) hn hdb
theorem ty1 {bi : Bi} {id : String} {pn : Pos} (ih : RecOk e cm flds d rec) (o : OkX e cm flds W d c X) (hg : Gl X x) (hm : X.mg x = none) (hdb : (x == ("__debug__" : Str)) = false) (hv : bootBuiltins x = some (.type id)) (hn : x ≠ "__name__") (hc : CallR X (.type id) (RLv e.g (biD bi)))
    {ex : Expr} {es : List Expr} (h : (cArgs rec c (ex :: es)).map (.bi bi) = some m) : PB e W X (.Call (.Name x pn) (ex :: es) [] pos) (ev cm m) := by
  obtain ⟨ms, h1, em⟩ := map_of h
  subst em
  exact pb_ty o.K hc hg hm hv (args_ok ih o h1) hn hdb
theorem bi1_ok (ih : RecOk e cm flds d rec) (o : OkX e cm flds W d c X) {pn : Pos} (hg : Gl X x) (hm : X.mg x = none) (hdb : (x == ("__debug__" : Str)) = false) (h : cBi1 rec c x a = some m) : PB e W X (.Call (.Name x pn) [a] [] pos) (ev cm m) := by
  have hu := o.un
  rcases ife_some h with ⟨hb, h2⟩ | ⟨_, h2⟩ <;> replace h := h2
  · have hx := beq_iff_eq.mp hb
    subst hx
    split at h
    · next q =>
      obtain ⟨r, p, pos2, ea, er, hf, hs⟩ := isRange_of q
      subst ea er
      obtain ⟨hg2, hm2⟩ := free_ok o hf
      obtain ⟨mm, h1, em⟩ := map_of h
      subst em
      exact pb_listR o.K o.calm hg hm hg2 hm2 (ih W c X _ _ o h1) hs
    · exact ty1 ih o hg hm hdb (by rfl) (by decide) (vm_list o.K) h
  rcases ife_some h with ⟨hb, h2⟩ | ⟨_, h2⟩ <;> replace h := h2
  · have hx := beq_iff_eq.mp hb
    subst hx
    split at h
    · next q =>
      obtain ⟨r, p, pos2, ea, er, hf, hs⟩ := isRange_of q
      subst ea er
      obtain ⟨hg2, hm2⟩ := free_ok o hf
      obtain ⟨mm, h1, em⟩ := map_of h
      subst em
      exact pb_tupR o.K o.calm hg hm hg2 hm2 (ih W c X _ _ o h1) hs
    · exact ty1 ih o hg hm hdb (by rfl) (by decide) (vm_tuple o.K) h
  rcases ife_some h with ⟨hb, h2⟩ | ⟨_, h2⟩ <;> replace h := h2
  · have hx := beq_iff_eq.mp hb
    subst hx
    exact bi1 ih o hg hm hdb (by rfl) (by decide) (vm_len o.gx) h
  rcases ife_some h with ⟨hb, h2⟩ | ⟨_, h2⟩ <;> replace h := h2
  · have hx := beq_iff_eq.mp hb
    subst hx
    exact ty1 ih o hg hm hdb (by rfl) (by decide) vm_int h
  rcases ife_some h with ⟨hb, h2⟩ | ⟨_, h2⟩ <;> replace h := h2
  · have hx := beq_iff_eq.mp hb
    subst hx
    exact bi1 ih o hg hm hdb (by rfl) (by decide) (vm_sorted o.K o.un) h
  rcases ife_some h with ⟨hb, h2⟩ | ⟨_, h2⟩ <;> replace h := h2
  · have hx := beq_iff_eq.mp hb
    subst hx
    exact bi1 ih o hg hm hdb (by rfl) (by decide) (vm_sum o.calm) h
  rcases ife_some h with ⟨hb, h2⟩ | ⟨_, h2⟩ <;> replace h := h2
  · have hx := beq_iff_eq.mp hb
    subst hx
    exact bi1 ih o hg hm hdb (by rfl) (by decide) (vm_all o.calm) h
  rcases ife_some h with ⟨hb, h2⟩ | ⟨_, h2⟩ <;> replace h := h2
  · have hx := beq_iff_eq.mp hb
    subst hx
    exact ty1 ih o hg hm hdb (by rfl) (by decide) (vm_dict o.gx o.calm o.un) h
  rcases ife_some h with ⟨hb, h2⟩ | ⟨_, h2⟩ <;> replace h := h2
  · have hx := beq_iff_eq.mp hb
    subst hx
    exact bi1 ih o hg hm hdb (by rfl) (by decide) (vm_any o.calm) h
  obtain ⟨hb, hz⟩ := if_some h
  replace h := hz
  rw [Bool.and_eq_true] at hb
  have hx := beq_iff_eq.mp hb.1
  subst hx
  exact bi1 ih o hg hm hdb (by rfl) (by decide) (vm_repr o.K hu (o.gd hb.2)) h
theorem tyOf_of {t : Str} {ty : Ty} (h : tyOf t = some ty) : bootBuiltins t = some (.type ty.nm) ∧ t ≠ "__name__" ∧ (t == ("__debug__" : Str)) = false := by
  unfold tyOf at h
  rcases ife_some h with ⟨hb, h2⟩ | ⟨_, h2⟩ <;> replace h := h2
  · rw [beq_iff_eq.mp hb]; cases h; exact ⟨by rfl, by decide, by decide⟩
  rcases ife_some h with ⟨hb, h2⟩ | ⟨_, h2⟩ <;> replace h := h2
  · rw [beq_iff_eq.mp hb]; cases h; exact ⟨by rfl, by decide, by decide⟩
  rcases ife_some h with ⟨hb, h2⟩ | ⟨_, h2⟩ <;> replace h := h2
  · rw [beq_iff_eq.mp hb]; cases h; exact ⟨by rfl, by decide, by decide⟩
  rcases ife_some h with ⟨hb, h2⟩ | ⟨_, h2⟩ <;> replace h := h2
  · rw [beq_iff_eq.mp hb]; cases h; exact ⟨by rfl, by decide, by decide⟩
  obtain ⟨hb, hz⟩ := if_some h
  replace h := hz
  rw [beq_iff_eq.mp hb]; cases h; exact ⟨by rfl, by decide, by decide⟩
theorem nameOf_of {ex : Expr} (h : nameOf ex = some x) : ∃ p, ex = .Name x p := by
  cases ex <;> first | (cases h; exact ⟨_, rfl⟩) | cases h
theorem bi2_ok (ih : RecOk e cm flds d rec) (o : OkX e cm flds W d c X) {pn : Pos} (hg : Gl X x) (hm : X.mg x = none) (hdb : (x == ("__debug__" : Str)) = false) (h : cBi2 rec c x a b = some m) : PB e W X (.Call (.Name x pn) [a, b] [] pos) (ev cm m) := by
  rcases ife_some h with ⟨hb, h2⟩ | ⟨_, h2⟩ <;> replace h := h2
  · have hx := beq_iff_eq.mp hb
    subst hx
    split at h
    · next t q =>
      obtain ⟨p2, eb⟩ := nameOf_of q
      subst eb
      obtain ⟨hb2, h⟩ := if_some h
      rw [Bool.and_eq_true] at hb2
      obtain ⟨hg2, hm2⟩ := free_ok o hb2.2
      obtain ⟨ma, h1, h⟩ := opt_bind h
      obtain ⟨ty, w2, em⟩ := map_of h
      subst em
      obtain ⟨k1, k2, k3⟩ := tyOf_of w2
      exact pb_isi o.K hg hm hg2 hm2 k1 k2 k3 (ih W c X _ _ o h1) hb2.1
    · cases h
  rcases ife_some h with ⟨hb, h2⟩ | ⟨_, h2⟩ <;> replace h := h2
  · have hx := beq_iff_eq.mp hb
    subst hx
    exact bi1 ih o hg hm hdb (by rfl) (by decide) (vm_min o.calm) h
  obtain ⟨hb, hz⟩ := if_some h
  replace h := hz
  have hx := beq_iff_eq.mp hb
  subst hx
  exact bi1 ih o hg hm hdb (by rfl) (by decide) (vm_max o.calm) h
/-! ### methods -/
theorem type_pop : typeOf (.builtin "list.pop") = pure (.type "method_descriptor") := by rfl
theorem type_extend : typeOf (.builtin "list.extend") = pure (.type "method_descriptor") := by rfl
theorem lmOf_nm {m : Str} {n : Nat} {l : Lm} (h : lmOf m n = some l) : m = l.nm ∧ 0 < n ∧ n < 10 := by
  unfold lmOf at h
  rcases ife_some h with ⟨hb, h2⟩ | ⟨_, h2⟩
  · cases h2
    simp only [Bool.and_eq_true, beq_iff_eq] at hb
    exact ⟨hb.1, by omega, by omega⟩
  · obtain ⟨hb, h3⟩ := if_some h2
    cases h3
    simp only [Bool.and_eq_true, Bool.or_eq_true, beq_iff_eq] at hb
    exact ⟨hb.1, by omega, by omega⟩
theorem lm_ok (ih : RecOk e cm flds d rec) (o : OkX e cm flds W d c X) {ob : Expr} {mn : Str} {as : List Expr} {apos : Pos} (hline : (apos.endLine == pos.line) = true) (hc : notCall ob = true) (h0 : as ≠ []) (h : cLm rec c ob mn as = some m) : PB e W X (.Call (.Attribute ob mn apos) as [] pos) (ev cm m) := by
  unfold cLm at h
  cases hl : lmOf mn as.length with
  | none => rw [hl] at h; cases h
  | some l =>
    rw [hl] at h
    obtain ⟨mo, h1, h⟩ := opt_bind h
    obtain ⟨ms, w2, em⟩ := map_of h
    subst em
    obtain ⟨n1, n2, n3⟩ := lmOf_nm hl
    cases as with
    | nil => exact absurd rfl h0
    | cons a0 as =>
      simp only [List.length_cons] at n3
      rw [ev]
      exact pb_lm o.gx o.un n1 (ih W c X _ _ o h1) hc (args_ok ih o w2) (by omega) hline
theorem me_ok (ih : RecOk e cm flds d rec) (o : OkX e cm flds W d c X) {ob : Expr} {mn : Str} {as : List Expr} {apos : Pos} (hline : (apos.endLine == pos.line) = true) (hc : notCall ob = true) (h : cMe rec c ob mn as = some m) : PB e W X (.Call (.Attribute ob mn apos) as [] pos) (ev cm m) := by
  unfold cMe at h
  split at h
  · obtain ⟨hb, hz⟩ := if_some h
    replace h := hz
    have hx := beq_iff_eq.mp hb
    subst hx
    obtain ⟨mo, h1, em⟩ := map_of h
    subst em
    exact pb_meth0 o.K PySem.F.slot_list_pop type_pop vm_pop0 (ih W c X _ _ o h1) hc hline
  · rcases ife_some h with ⟨hb, h2⟩ | ⟨_, h2⟩ <;> replace h := h2
    · have hx := beq_iff_eq.mp hb
      subst hx
      obtain ⟨mo, h1, h⟩ := opt_bind h
      obtain ⟨ms, w2, em⟩ := map_of h
      subst em
      exact pb_meth o.K PySem.F.slot_list_append PySem.F.type_list_append vm_append (ih W c X _ _ o h1) hc (args_ok ih o w2) (by simp) hline
    rcases ife_some h with ⟨hb, h2⟩ | ⟨_, h2⟩ <;> replace h := h2
    · have hx := beq_iff_eq.mp hb
      subst hx
      obtain ⟨mo, h1, h⟩ := opt_bind h
      obtain ⟨ms, w2, em⟩ := map_of h
      subst em
      exact pb_meth o.K PySem.F.slot_list_extend type_extend vm_extend (ih W c X _ _ o h1) hc (args_ok ih o w2) (by simp) hline
    rcases ife_some h with ⟨hb, h2⟩ | ⟨_, h2⟩ <;> replace h := h2
    · have hx := beq_iff_eq.mp hb
      subst hx
      obtain ⟨mo, h1, h⟩ := opt_bind h
      obtain ⟨ms, w2, em⟩ := map_of h
      subst em
      exact pb_meth o.K PySem.F.slot_list_pop type_pop vm_pop1 (ih W c X _ _ o h1) hc (args_ok ih o w2) (by simp) hline
    exact lm_ok ih o hline hc (by simp) h
  · rename_i n1 n2
    exact lm_ok ih o hline hc (fun z => n1 z) h
theorem isFn_of {r : Option GR} {i : Nat} (h : GR.isFn r i = true) : r = some (.fn i) := by
  unfold GR.isFn at h
  split at h
  · rw [eq_of_beq h]
  · cases h
theorem callv_ok (ih : RecOk e cm flds d rec) (o : OkX e cm flds W d c X) {as : List Expr} {pn : Pos} (h : ((slotOf c x).bind fun i => (cArgsB rec c as).map (.callv i (c.gl.filterMap (okFn c)))) = some m) : PB e W X (.Call (.Name x pn) as [] pos) (ev cm m) := by
  obtain ⟨i, h1, h⟩ := opt_bind h
  obtain ⟨ms, h2, em⟩ := map_of h
  subst em
  obtain ⟨k1, k2, k3, k4⟩ := vis_ok o h1
  rw [ev]
  refine pb_of o.K (pe_fnv (gds := fun j => !c.ng.contains j) (fun j hj => ?_) o.rm o.tk k1 k2 k3 k4 (argsB_ok ih o h2)) fun _ => rfl
  obtain ⟨⟨y, r⟩, hp, hq⟩ := List.mem_filterMap.mp hj
  unfold okFn at hq
  cases r with
  | fn n =>
    have hq : (if ((c.mt.lookup n).isNone && (c.gd || c.ng.contains n) && GR.isFn (c.gl.lookup y) n) = true then some n else none) = some j := hq
    split at hq
    case isTrue hb =>
      cases hq
      simp only [Bool.and_eq_true] at hb
      have g1 := isFn_of hb.2
      have g2 : c.mt.lookup j = none := by
        have := hb.1.1
        cases q : c.mt.lookup j with
        | none => rfl
        | some _ => rw [q] at this; cases this
      refine ⟨o.fns y j g1 g2 hb.1.2, fun z => o.gd ?_⟩
      have z : (!c.ng.contains j) = true := z
      have hb2 := hb.1.2
      rw [Bool.not_eq_true'] at z
      rw [z, Bool.or_false] at hb2
      exact hb2
    case isFalse => cases hq
  | _ => cases hq
theorem call_ok (ih : RecOk e cm flds d rec) (o : OkX e cm flds W d c X) {f : Expr} {as : List Expr} (h : cCall rec c f as pos = some m) : PB e W X (.Call f as [] pos) (ev cm m) := by
  unfold cCall at h
  split at h
  · next x pn =>
    split at h
    · next j q =>
      obtain ⟨k1, k2, k3, k4⟩ := g_ok o q
      exact fn_ok ih o k1 k2 k3 k4 h
    · next q =>
      obtain ⟨k1, k2, k3, k4⟩ := g_ok o q
      have k5 : X.mg x = none := by rw [o.mg]; exact k4
      unfold cBi at h
      split at h
      · exact bi1_ok ih o k1 k5 k2 h
      · exact bi2_ok ih o k1 k5 k2 h
      · cases h
    · cases h
    · exact callv_ok ih o h
  · obtain ⟨hb, hz⟩ := if_some h
    replace h := hz
    simp only [Bool.and_eq_true] at hb
    exact me_ok ih o hb.1.1 hb.2 h
  · cases h
end
end VM

set_option linter.all false
set_option maxRecDepth 100000
/-! VM32: the compiler of expressions is right: the whole. -/
namespace VM
open PySem PySem.Spec PyProof.Rows L2
section
variable {e : Env2} {cm : Cm} {flds : Nat → List Str} {W : WX} {d : Nat} {c : SC} {X : Cx} {ex a b l : Expr} {x : Str} {i : Nat} {m : ME} {pos : Pos} {rec : SC → Expr → Option ME}
theorem const_ok (o : OkX e cm flds W d c X) {k : Const} {j : Nat} (h : cConst k = some m) : PB e W X (.Constant k j pos) (ev cm m) := by
  unfold cConst at h
  split at h
  · cases h; exact pb_c o.K pe_int (fun _ _ => rfl) fun _ => rfl
  · cases h; exact pb_c o.K pe_bl (fun _ _ => rfl) fun _ => rfl
  · cases h; exact pb_c o.K pe_non (fun _ _ => rfl) fun _ => rfl
  · cases h; exact pb_c o.K pe_str (fun _ _ => rfl) fun _ => rfl
  · cases h
theorem name_ok (o : OkX e cm flds W d c X) (h : cName c x = some m) : PB e W X (.Name x pos) (ev cm m) := by
  unfold cName at h
  split at h
  · next j q =>
    cases h
    obtain ⟨h1, h2, h3, h4⟩ := vis_ok o q
    exact pb_slot o.K h1 h2 h3 h4
  · split at h
    · next j q =>
      cases h
      obtain ⟨h1, h2, _, h3⟩ := g_ok o q
      have h3 : e.g.mg x = some (.ref (e.g.fa j)) := h3
      exact pb_c (v := .ref (e.g.fa j)) o.K (pe_glob (v := .ref (e.g.fa j)) (u := .ref (e.g.fa j)) h1 (by rw [o.mg]; exact h3) rfl h2) (fun _ _ => rfl) fun _ => rfl
    · next dd q =>
      cases h
      obtain ⟨h1, h2, _, v, u, h3, h4, h5⟩ := g_ok o q
      exact pb_c o.K (pe_glob h1 (by rw [o.mg]; exact h3) h4 h2) h5 fun _ => rfl
    · cases h
theorem bool_ok (ih : RecOk e cm flds d rec) (o : OkX e cm flds W d c X) (op : BoolOp) : ∀ {es : List Expr} {m : ME}, cBool rec c op es = some m → PBw e W X (.BoolOp op es pos) (ev cm m)
  | [], m, h => by cases h
  | [a], m, h => by
    have h1 := ih W c X _ _ o (h : rec c a = some m)
    cases op with
    | And => exact pbw_and1 h1
    | Or => exact pbw_or1 h1
  | a :: b :: r, m, h => by
    obtain ⟨ma, h1, h2⟩ := opt_bind (h : ((rec c a).bind fun a => (cBool rec c op (b :: r)).map (mkBool op a)) = some m)
    obtain ⟨mb, h3, em⟩ := map_of h2
    have k1 := ih W c X _ _ o h1
    have k2 := bool_ok ih o op (es := b :: r) h3
    subst em
    cases op with
    | And => exact pbw_and o.K k1 k2 rfl
    | Or => exact pbw_or o.K k1 k2 rfl
theorem boolP_ok (ih : RecOk e cm flds d rec) (o : OkX e cm flds W d c X) (op : BoolOp) {es : List Expr} (h : cBool rec c op es = some m) : PB e W X (.BoolOp op es pos) (ev cm m) := by
  have k := bool_ok (pos := pos) ih o op h
  match es, h with
  | [a], h =>
    have h1 := ih W c X _ _ o (h : rec c a = some m)
    exact ⟨k.pe, k.pw.pt, pe_one h1.pp⟩
  | a :: b :: r, h =>
    obtain ⟨ma, h1, h2⟩ := opt_bind (h : ((rec c a).bind fun a => (cBool rec c op (b :: r)).map (mkBool op a)) = some m)
    obtain ⟨mb, h3, em⟩ := map_of h2
    subst em
    cases op with
    | And => exact PBw.pb (bb := ev cm ma) k
    | Or => exact PBw.pb (bb := ev cm ma) k
theorem notSet_mark {op : CmpOp} (h : notSet b = true) : behindInMarks op b = false := by
  unfold behindInMarks
  cases b <;> first | rfl | cases h
theorem boolC_mark {op : CmpOp} (h : isBoolC b = true) : behindInMarks op b = false := notSet_mark (by
  unfold isBoolC at h
  split at h
  · rfl
  · cases h)
theorem isNone_of (h : isNone b = true) : ∃ j p, b = .Constant .none j p := by
  unfold isNone at h
  split at h
  · exact ⟨_, _, rfl⟩
  · cases h
theorem cmp_ok (ih : RecOk e cm flds d rec) (o : OkX e cm flds W d c X) {ops : List CmpOp} {bs : List Expr} (h : cCmp rec c a ops bs = some m) : PB e W X (.Compare a ops bs pos) (ev cm m) := by
  unfold cCmp at h
  split at h
  · next op b =>
    split at h
    · next q =>
      rcases ife_some h with ⟨hb, h2⟩ | ⟨_, h2⟩ <;> replace h := h2
      · obtain ⟨ma, h1, em⟩ := map_of h
        obtain ⟨j, p, eb⟩ := isNone_of hb
        subst em eb
        have eop : op = .Is := by cases op <;> first | rfl | cases q
        subst eop
        exact pb_isN (ih W c X _ _ o h1)
      · obtain ⟨hb, h⟩ := if_some h
        obtain ⟨ma, h1, h⟩ := opt_bind h
        obtain ⟨mb, h3, em⟩ := map_of h
        subst em
        exact pb_cmp o.gx o.un (ih W c X _ _ o h1) (ih W c X _ _ o h3) (boolC_mark hb)
    · next q =>
      rcases ife_some h with ⟨hb, h2⟩ | ⟨_, h2⟩ <;> replace h := h2
      · obtain ⟨ma, h1, em⟩ := map_of h
        obtain ⟨j, p, eb⟩ := isNone_of hb
        subst em eb
        have eop : op = .IsNot := by cases op <;> first | rfl | cases q
        subst eop
        exact pb_notN (ih W c X _ _ o h1)
      · obtain ⟨hb, h⟩ := if_some h
        obtain ⟨ma, h1, h⟩ := opt_bind h
        obtain ⟨mb, h3, em⟩ := map_of h
        subst em
        exact pb_cmp o.gx o.un (ih W c X _ _ o h1) (ih W c X _ _ o h3) (boolC_mark hb)
    · obtain ⟨hb, h⟩ := if_some h
      obtain ⟨ma, h1, h⟩ := opt_bind h
      obtain ⟨mb, h2, em⟩ := map_of h
      subst em
      exact pb_cmp o.gx o.un (ih W c X _ _ o h1) (ih W c X _ _ o h2) (notSet_mark hb)
  · cases h
theorem isBack_of (h : isBack b = true) : ∃ k p1 p2 p3, b = .Slice none none (some (.UnaryOp .USub (.Constant (.int 1) k p1) p2)) p3 := by
  unfold isBack at h
  split at h
  · exact ⟨_, _, _, _, rfl⟩
  · cases h
theorem isSl_of {lo hi : Option Expr} (h : isSl b = some (lo, hi)) : ∃ p, b = .Slice lo hi none p := by
  unfold isSl at h
  split at h
  · cases h; exact ⟨_, rfl⟩
  · cases h
theorem part_ok (ih : RecOk e cm flds d rec) (o : OkX e cm flds W d c X) {p : Option Expr} {mp : Option ME} (h : cPart rec c p = some mp) : POv e W X p (evO cm mp) := by
  unfold cPart at h
  split at h
  · cases h; exact pov_none
  · obtain ⟨mm, h1, em⟩ := map_of h
    subst em
    exact pov_some (ih W c X _ _ o h1)
theorem sub_ok (ih : RecOk e cm flds d rec) (o : OkX e cm flds W d c X) (h : cSub rec c a b = some m) : PB e W X (.Subscript a b pos) (ev cm m) := by
  rcases ife_some h with ⟨hb, h2⟩ | ⟨_, h2⟩
  · obtain ⟨ma, h1, em⟩ := map_of h2
    obtain ⟨k, p1, p2, p3, eb⟩ := isBack_of hb
    subst em eb
    exact pb_rev o.K (ih W c X _ _ o h1)
  · split at h2
    · next lo hi q =>
      obtain ⟨ma, h1, h3⟩ := opt_bind h2
      obtain ⟨ml, k1, h4⟩ := opt_bind h3
      obtain ⟨mh, k2, em⟩ := map_of h4
      obtain ⟨p, eb⟩ := isSl_of q
      subst em eb
      exact pb_slc o.K (ih W c X _ _ o h1) (part_ok ih o k1) (part_ok ih o k2)
    · obtain ⟨hs, h3⟩ := if_some h2
      obtain ⟨ma, h1, h4⟩ := opt_bind h3
      obtain ⟨mi, k1, em⟩ := map_of h4
      subst em
      exact pb_idx o.gx o.un (ih W c X _ _ o h1) (ih W c X _ _ o k1) hs
theorem dict_ok (ih : RecOk e cm flds d rec) (o : OkX e cm flds W d c X) {ks : List (Option Expr)} {es : List Expr} (h : cDict rec c ks es pos = some m) : PB e W X (.Dict ks es pos) (ev cm m) := by
  unfold cDict at h
  split at h
  · cases h; exact pb_dnew o.gx _
  · next k ks es =>
    obtain ⟨hb, h⟩ := if_some h
    simp only [Bool.and_eq_true, decide_eq_true_eq] at hb
    obtain ⟨kk, h1, h⟩ := opt_bind h
    obtain ⟨ms, h2, em⟩ := map_of h
    subst em
    exact pb_disp o.K h1 (args_ok ih o h2) hb.1 hb.2 (by simp)
  · cases h
theorem e1_ok (ih : RecOk e cm flds d rec) (o : OkX e cm flds W d c X) (h : cE1 rec c ex = some m) : PB e W X ex (ev cm m) := by
  cases ex with
  | Constant k j p => exact const_ok o h
  | Name x p => exact name_ok o h
  | BinOp a op b p =>
    obtain ⟨ma, h1, h2⟩ := opt_bind (h : ((rec c a).bind fun a => (rec c b).map (.bin op a)) = some m)
    obtain ⟨mb, h3, em⟩ := map_of h2
    subst em
    exact pb_bin o.K (ih W c X _ _ o h1) (ih W c X _ _ o h3)
  | UnaryOp op a p =>
    cases op with
    | USub =>
      obtain ⟨ma, h1, em⟩ := map_of (h : (rec c a).map .neg = some m)
      subst em
      exact pb_neg o.K (ih W c X _ _ o h1)
    | Not =>
      obtain ⟨ma, h1, em⟩ := map_of (h : (rec c a).map .not = some m)
      subst em
      exact pb_not o.K (ih W c X _ _ o h1) rfl
    | _ => exact nomatch (h : none = some m)
  | BoolOp op es p => exact boolP_ok ih o op h
  | Compare a ops bs p => exact cmp_ok ih o h
  | IfExp t a b p =>
    obtain ⟨mt, h1, h2⟩ := opt_bind (h : ((rec c t).bind fun t => (rec c a).bind fun a => (rec c b).map (.ife t a)) = some m)
    obtain ⟨ma, h3, h4⟩ := opt_bind h2
    obtain ⟨mb, h5, em⟩ := map_of h4
    subst em
    exact pb_ife (ih W c X _ _ o h1) (ih W c X _ _ o h3) (ih W c X _ _ o h5) rfl
  | Subscript a b p => exact sub_ok ih o h
  | List es p =>
    obtain ⟨ms, h1, em⟩ := map_of (h : (cArgs rec c es).map .lst = some m)
    subst em
    exact pb_lst o.K (args_ok ih o h1)
  | Tuple es k p =>
    obtain ⟨ms, h1, em⟩ := map_of (h : (cArgs rec c es).map .tup = some m)
    subst em
    exact pb_tup o.K (args_ok ih o h1)
  | Dict ks es p => exact dict_ok ih o h
  | Call f as kws p =>
    obtain ⟨hk, h1⟩ := if_some (h : (if kws.isEmpty = true then cCall rec c f as p else none) = some m)
    have ek := List.isEmpty_iff.mp hk
    subst ek
    exact call_ok ih o h1
  | ListComp elt gs scope p =>
    obtain ⟨f, h1, h2⟩ := comp_ok ih o (h : cComp rec c elt gs scope = some m)
    rw [h1]
    exact pb_of o.K (h2.pe o.calm (by rw [o.N]; exact o.nd)) fun _ => rfl
  | _ => exact nomatch (h : none = some m)
theorem cE_ok (n : Nat) : RecOk e cm flds d (cE n) := by
  induction n with
  | zero => intro W c X ex m o h; cases h
  | succ n ih => intro W c X ex m o h; exact e1_ok ih o h
end
end VM

set_option linter.all false
set_option maxRecDepth 100000
/-! VM33: the compiler of statements is right. -/
namespace VM
open PySem PySem.Spec PyProof.Rows L2
section
variable {e : Env2} {cm : Cm} {flds : Nat → List Str} {exm : Nat → Nat → Bool} {W : WX} {d : Nat} {c : SC} {X : Cx} {ex a b l : Expr} {x y : Str} {i j : Nat} {pos : Pos} {E : SC → Expr → Option ME} {rec : SC → Stmt → Option MS}
/-- what is asked of the smaller ones -/
abbrev RecS (e : Env2) (cm : Cm) (flds : Nat → List Str) (exm : Nat → Nat → Bool) (W : WX) (c : SC) (X : Cx) (rec : SC → Stmt → Option MS) : Prop := ∀ (st : Stmt) (m : MS), rec c st = some m → PS X st (TSv e W (exS cm flds exm m))
theorem stmts_ok (ih : RecS e cm flds exm W c X rec) : ∀ {sts : List Stmt} {ms : List MS}, mapO (rec c) sts = some ms → PSs X sts (TSv e W (exSs cm flds exm ms)) := by
  intro sts ms h
  replace h := mapO_pair h
  induction h with
  | nil => exact pss_imp pss_nil fun D σ H => imp_next fun s => rfl
  | cons q _ ih2 => exact pss_imp (pss_cons (ih _ _ q) ih2) fun D σ H => imp_seq
theorem swaps_no {v t : Expr} {ln : Nat} {env : Env} (h : notComp v = true) : swapsWith v (some t) ln env = pure false := by
  unfold swapsWith
  cases v <;> first | rfl | cases h
theorem swaps_none {v : Expr} {ln : Nat} {env : Env} (h : notComp v = true) : swapsWith v none ln env = pure false := by
  unfold swapsWith
  cases v <;> first | rfl | cases h
theorem stores_no {t v : Expr} {env : Env} (h : isTupE v = false) : swappedStores [t] v env = pure none := by
  unfold swappedStores
  cases v <;> first | (cases t <;> rfl) | (exact absurd h (by decide)) | cases h
theorem asg_each (t : Expr) (env : Env) (h : notStar t = true) : (assignEach [t] env).map (·.2) = [assign t env] := by
  cases t <;> first | rfl | cases h
/-- what is not stored while a block's things go -/
theorem sole_no {t v : Expr} {ln : Nat} {env : Env} (h : notComp v = true) : swapsWithSole [t] v ln env = pure false := swaps_no h
theorem swaps_comp {elt : Expr} {gs : List Comprehension} {scope : Scope} {p py : Pos} {ln : Nat} {env : Env} : ∃ k, swapsWith (.ListComp elt gs scope p) (some (.Name y py)) ln env = pure k ∧ (k = true → env.scope.names.lookup y = some .local) := by
  refine ⟨_, rfl, fun h => ?_⟩
  simp only [Bool.and_eq_true] at h
  exact eq_of_beq h.1.1.2
theorem isSubE_of {o i t : Expr} (h : isSubE t = some (o, i)) : ∃ p, t = .Subscript o i p := by
  cases t <;> first | (cases h; exact ⟨_, rfl⟩) | cases h
theorem isTup2_of {t a b : Expr} (h : isTup2 t = some (a, b)) : ∃ k p, t = .Tuple [a, b] k p := by
  unfold isTup2 at h
  split at h
  · cases h; exact ⟨_, _, rfl⟩
  · cases h
theorem setI_ok (ihE : RecOk e cm flds d E) (o : OkX e cm flds W d c X) {ob v : Expr} {m : MS} {p : Pos} {i : Expr} (h : (if (notSlice i && notComp v) = true then (E c ob).bind fun o => (E c i).bind fun i => (E c v).map (.setI o i) else none) = some m) :
    PS X (.Assign [.Subscript ob i p] v pos) (TSv e W (exS cm flds exm m)) := by
  obtain ⟨hb, h⟩ := if_some h
  rw [Bool.and_eq_true] at hb
  obtain ⟨mo, h1, h⟩ := opt_bind h
  obtain ⟨mi, h2, h⟩ := opt_bind h
  obtain ⟨mv, h3, em⟩ := map_of h
  subst em
  have hg : PG X (.Subscript ob i p) (gSub (TPv e W (ev cm mo).p) (TDv e W (ev cm mi).d) (RSet e.g)) := pg_sub (ihE W c X _ _ o h1).pp (pe_d (ihE W c X _ _ o h2)) (vm_set o.gx o.un) (by
    intro v
    have := hb.1
    cases i <;> first | rfl | cases this)
  exact ps_imp (ps_asg (pe_d (ihE W c X _ _ o h3)) hg (sole_no hb.2) rfl rfl) fun D σ H => imp_set
/-- t = v -/
theorem stores_nm {x : Str} {p : Pos} {v : Expr} {env : Env} : swappedStores [.Name x p] v env = pure none := by
  unfold swappedStores
  cases v <;> rfl
theorem asgG_ok (ihE : RecOk e cm flds d (cE 60)) (o : OkX e cm flds W d c X) {t v : Expr} {m : MS} (hv : (isTupE v && isTupE t) = false) (h : ((cTg c 9 t).bind fun g => (cE 60 c v).map (.asg g)) = some m) : PS X (.Assign [t] v pos) (TSv e W (exS cm flds exm m)) := by
  obtain ⟨g, h1, h⟩ := opt_bind h
  obtain ⟨mv, h2, em⟩ := map_of h
  subst em
  obtain ⟨hg, hst⟩ := tg_ok o 9 h1
  have he := ihE W c X _ _ o h2
  have hsn : swappedStores [t] v X.env = pure none := by
    cases t with
    | Name x p => exact stores_nm
    | Tuple a b p =>
      have : isTupE v = false := by
        have hv : (isTupE v && true) = false := hv
        rwa [Bool.and_true] at hv
      exact stores_no this
    | _ => exact nomatch (h1 : none = some g)
  have plain : swapsWith v (some t) pos.line X.env = pure false → PS X (.Assign [t] v pos) (TSv e W (exS cm flds exm (.asg g mv))) := fun hs => ps_imp (ps_asg he.pe hg hs hsn (asg_each t X.env hst)) fun D σ H => imp_asg
  by_cases hc : notComp v = true
  · exact plain (swaps_no hc)
  · cases v with
    | ListComp elt gs scope p =>
      cases t with
      | Name y py =>
        obtain ⟨k, k1, k2⟩ := swaps_comp (y := y) (elt := elt) (gs := gs) (scope := scope) (p := p) (py := py) (ln := pos.line) (env := X.env)
        cases k with
        | false => exact plain k1
        | true =>
          obtain ⟨f, f1, f2⟩ := comp_ok (cE_ok 59) o (h2 : cComp (cE 59) c elt gs scope = some mv)
          have h1 : (stoOf c y).map MG.nm = some g := h1
          obtain ⟨i, i1, eg⟩ := map_of h1
          obtain ⟨q1, q2, q3⟩ := sto_ok o i1
          have hN : X.N.Nodup := by rw [o.N]; exact o.nd
          refine ps_imp (f2.set o.calm hN q1 (k2 rfl) k1) fun D σ H q => ?_
          have q : TSv e W (fun s => SO.ofOut ((ev cm mv).e s) fun c s => SO.ofO (asgC g c s)) D σ H := q
          rw [f1, eg] at q
          obtain ⟨T, θ, s, st, p2⟩ := imp_asg q
          refine ⟨T, θ, s, st, p2.mono fun v' H1 z => ?_⟩
          obtain ⟨T0, T1, θ1, s1, c1, s2, st1, rc, ha, nx⟩ := z
          obtain ⟨z1, z2, z3⟩ := put_ok st1 rc (ha : putC s1 i c1 = some s2)
          exact nx _ z1 z2 (sets_one σ i _) (by rw [z3]; exact setsC_one s1 i c1)
      | _ => exact plain rfl
    | SetComp _ _ _ _ => exact nomatch (h2 : none = some mv)
    | DictComp _ _ _ _ _ => exact nomatch (h2 : none = some mv)
    | _ => exact absurd rfl hc
end
end VM

set_option linter.all false
set_option maxRecDepth 100000
/-! VM34: the compiler of statements is right: the whole. -/
namespace VM
open PySem PySem.Spec PyProof.Rows L2
section
variable {e : Env2} {cm : Cm} {flds : Nat → List Str} {exm : Nat → Nat → Bool} {W : WX} {d : Nat} {c : SC} {X : Cx} {ex a b l : Expr} {x y : Str} {i j : Nat} {pos : Pos} {rec : SC → Stmt → Option MS}
theorem notStar_m : ∀ {z : Expr}, notStar z = true → (match z with | .Starred .. => true | _ => false) = false := fun {z} h => by cases z <;> first | rfl | cases h
theorem notStar_any (ha : notStar a = true) (hb : notStar b = true) : ([a, b].any fun | .Starred .. => true | _ => false) = false := by
  have h1 : ∀ z, notStar z = true → (match z with | .Starred .. => true | _ => false) = false := fun z hz => by cases z <;> first | rfl | cases hz
  simp only [List.any_cons, List.any_nil, Bool.or_false]
  rw [h1 a ha, h1 b hb]
  rfl
theorem stores_two {env : Env} {px py pt pt2 : Pos} {kt k2} (hk : env.scope.kind = .function) (hxy : x ≠ y) (ha : notStar a = true) (hb : notStar b = true) (hx : env.scope.names.lookup x = some .local) (hy : env.scope.names.lookup y = some .local) (hl : py.line = px.line) (hf : [a, b].all (foldedForSure 8) = false) (hc : [a, b].all (constantsAlone 8) = false) :
    swappedStores [.Tuple [.Name x px, .Name y py] kt pt] (.Tuple [a, b] k2 pt2) env = pure (some [x, y]) := by
  have hbk : env.blockKind = .function := by unfold Env.blockKind; rw [hk]; rfl
  have kx : env.kindOf x = some .local := hx
  have ky : env.kindOf y = some .local := hy
  have hs := notStar_any ha hb
  unfold swappedStores
  simp only [hbk, hs, hf, hc, List.filterMap_cons, List.filterMap_nil, List.head?_cons, Option.map_some, Option.getD_some, Expr.pos, kx, ky, hl, List.length_cons, List.length_nil]
  have e1 : ([x, y].eraseDups).length = 2 := by
    have : (x == y) = false := beq_eq_false_iff_ne.mpr hxy
    have h2 : (y == x) = false := beq_eq_false_iff_ne.mpr (Ne.symm hxy)
    simp [List.eraseDups_cons, this, h2]
  simp [e1]
  intro z
  rcases z with z | z
  · exact absurd (z.symm.trans (notStar_m ha)) (by decide)
  · exact absurd (z.symm.trans (notStar_m hb)) (by decide)
theorem stores_out {env : Env} {px py pt pt2 : Pos} {kt k2} (hk : env.scope.kind = .function) (ha : notStar a = true) (hb : notStar b = true) (h : env.scope.names.lookup x ≠ some .local ∨ env.scope.names.lookup y ≠ some .local) :
    swappedStores [.Tuple [.Name x px, .Name y py] kt pt] (.Tuple [a, b] k2 pt2) env = pure none := by
  have hbk : env.blockKind = .function := by unfold Env.blockKind; rw [hk]; rfl
  have hs := notStar_any ha hb
  have kx : (env.kindOf x == some .local) = false ∨ (env.kindOf y == some .local) = false := by
    rcases h with h | h
    · exact .inl (beq_eq_false_iff_ne.mpr h)
    · exact .inr (beq_eq_false_iff_ne.mpr h)
  unfold swappedStores
  rcases kx with kx | kx
  · simp only [hbk, hs, List.filterMap_cons, List.filterMap_nil, List.head?_cons, Option.map_some, Option.getD_some, Expr.pos, kx, Bool.false_and, Bool.false_eq_true, if_false, List.length_cons, List.length_nil]
    by_cases k : (env.kindOf y == some .local && py.line == px.line) = true <;> simp only [k] <;> simp
  · simp only [hbk, hs, List.filterMap_cons, List.filterMap_nil, List.head?_cons, Option.map_some, Option.getD_some, Expr.pos, kx, Bool.false_and, Bool.false_eq_true, if_false, List.length_cons, List.length_nil]
    by_cases k : (env.kindOf x == some .local && px.line == px.line) = true <;> simp only [k] <;> simp
theorem isLocal_of {x : Str} {p : Pos} (h : isLocal c (.Name x p) = true) : c.sc.names.lookup x = some .local := by
  have h : (match c.sc.names.lookup x with | some .local => true | _ => false) = true := h
  split at h
  · assumption
  · cases h
theorem isLocal_not {x : Str} {p : Pos} (h : isLocal c (.Name x p) = false) : c.sc.names.lookup x ≠ some .local := fun q => by
  have : isLocal c (.Name x p) = true := by
    show (match c.sc.names.lookup x with | some .local => true | _ => false) = true
    rw [q]
  rw [this] at h
  cases h
theorem names_of {t : Expr} {r : List Expr} {is : List Nat} (h : namesOf c (t :: r) = some is) : ∃ x p i is', t = .Name x p ∧ stoOf c x = some i ∧ namesOf c r = some is' ∧ is = i :: is' := by
  unfold namesOf at h
  split at h
  · next hh => cases hh
  · next x p r' hh =>
    cases hh
    obtain ⟨i, h1, h⟩ := opt_bind h
    obtain ⟨is', h2, h3⟩ := map_of h
    exact ⟨x, p, i, is', rfl, h1, h2, h3⟩
  · cases h
theorem par_ok (o : OkX e cm flds W d c X) {t1 t2 : Expr} {k k2 : Nat} {pt pt2 : Pos} {m : MS}
    (h : (if (isFn c && (swapsIt c [t1, t2] [a, b] || noSwap c [t1, t2])) = true then (namesOf c [t1, t2]).bind fun is => if decide is.Nodup = true then (cArgs (cE 60) c [a, b]).map (.par is) else none else none) = some m) :
    PS X (.Assign [.Tuple [t1, t2] k pt] (.Tuple [a, b] k2 pt2) pos) (TSv e W (exS cm flds exm m)) := by
  obtain ⟨hb, h⟩ := if_some h
  obtain ⟨is, h1, h⟩ := opt_bind h
  obtain ⟨hn, h⟩ := if_some h
  obtain ⟨ms, h2, em⟩ := map_of h
  obtain ⟨x, px, i, is1, e1, s1, h3, e2⟩ := names_of h1
  obtain ⟨y, py, j, is2, e3, s2, h4, e4⟩ := names_of h3
  cases h4
  subst em e1 e3 e4 e2
  have hn : [i, j].Nodup := of_decide_eq_true hn
  have hij : i ≠ j := by
    intro z
    subst z
    simp at hn
  obtain ⟨a1, a2, a3⟩ := sto_ok o s1
  obtain ⟨b1, b2, b3⟩ := sto_ok o s2
  have hx := args_ok (cE_ok 60) o h2
  have hxy : x ≠ y := fun z => by
    subst z
    have hN : X.N.Nodup := by rw [o.N]; exact o.nd
    exact hij (nodup_ix hN a1 b1)
  have st2 : notStar a = true ∧ notStar b = true := by
    revert hx
    generalize evs cm ms = bs
    intro hx
    cases hx with
    | cons k1 r => cases r with
      | cons k2 _ => exact ⟨k1.2, k2.2⟩
  rw [Bool.and_eq_true] at hb
  have hk : X.env.scope.kind = .function := by
    rw [o.sc]
    have := hb.1
    unfold isFn at this
    split at this
    · assumption
    · cases this
  refine ps_par2 o.calm (by rw [o.N]; exact o.nd) a1 b1 hij a2 b2 a3 b3 hx ?_
  by_cases hl : ([.Name x px, .Name y py] : List Expr).all (isLocal c) = true
  · have hl2 := List.all_eq_true.mp hl
    have lx := isLocal_of (hl2 _ List.mem_cons_self)
    have ly := isLocal_of (hl2 _ (List.mem_cons_of_mem _ List.mem_cons_self))
    have ns : noSwap c [.Name x px, .Name y py] = false := by unfold noSwap; rw [hl]; rfl
    rw [ns, Bool.or_false] at hb
    have sw := hb.2
    unfold swapsIt at sw
    simp only [Bool.and_eq_true, Bool.not_eq_true'] at sw
    have sl := sw.1.1.2
    have line : py.line = px.line := by
      unfold sameLine at sl
      have z := List.all_eq_true.mp sl (.Name y py) (List.mem_cons_of_mem _ List.mem_cons_self)
      exact eq_of_beq z
    exact .inl ⟨by rw [o.sc]; exact lx, by rw [o.sc]; exact ly, stores_two hk hxy st2.1 st2.2 (by rw [o.sc]; exact lx) (by rw [o.sc]; exact ly) line sw.1.2 sw.2⟩
  · refine .inr (stores_out hk st2.1 st2.2 ?_)
    rw [o.sc]
    by_cases l1 : isLocal c (.Name x px) = true
    · by_cases l2 : isLocal c (.Name y py) = true
      · exact absurd (by simp [l1, l2]) hl
      · exact .inr (isLocal_not (Bool.not_eq_true _ ▸ l2))
    · exact .inl (isLocal_not (Bool.not_eq_true _ ▸ l1))
theorem cAsg_ok (o : OkX e cm flds W d c X) {t v : Expr} {m : MS} (h : cAsg (cE 60) c t v = some m) : PS X (.Assign [t] v pos) (TSv e W (exS cm flds exm m)) := by
  unfold cAsg at h
  split at h
  · next ob i q =>
    obtain ⟨p, et⟩ := isSubE_of q
    subst et
    exact setI_ok (cE_ok 60) o h
  · split at h
    · next t1 t2 a b q1 q2 =>
      obtain ⟨k, pt, e1⟩ := isTup2_of q1
      obtain ⟨k2, pt2, e2⟩ := isTup2_of q2
      subst e1 e2
      exact par_ok o h
    · rcases ife_some h with ⟨_, h2⟩ | ⟨hv, h2⟩
      · cases h2
      · exact asgG_ok (cE_ok 60) o hv h2
theorem raised_of {ex : Option Expr} {x : Str} {as : List Expr} (h : raised ex = some (x, as)) : ∃ p pos, ex = some (.Call (.Name x p) as [] pos) := by
  unfold raised at h
  split at h
  · cases h; exact ⟨_, _, rfl⟩
  · cases h
theorem raise_ok (o : OkX e cm flds W d c X) {ex : Option Expr} {m : MS} (h : cRaise (cE 60) c ex = some m) : PS X (.Raise ex none pos) (TSv e W (exS cm flds exm m)) := by
  unfold cRaise at h
  split at h
  · next x a as q =>
    obtain ⟨p, pos2, er⟩ := raised_of q
    subst er
    split at h
    · next k q2 =>
      obtain ⟨h1, h2, h3, h4⟩ := g_ok o q2
      obtain ⟨ms, h5, em⟩ := map_of h
      subst em
      exact ps_raise' o.calm o.tk (o.cls x k h3) (o.rm.mono (by omega)) h1 (by rw [o.mg]; exact h4) h2 (args_ok (cE_ok 60) o h5)
    · cases h
  · cases h
theorem s1_ok (o : OkX e cm flds W d c X) (hp : PassesOwn (model X.prog X.w) X.A X.env X.xe) (ih : RecS e cm flds exm W c X rec) {st : Stmt} {m : MS} (h : cS1 (cE 60) rec c st = some m) : PS X st (TSv e W (exS cm flds exm m)) := by
  have hN : X.N.Nodup := by rw [o.N]; exact o.nd
  have ihE : RecOk e cm flds d (cE 60) := cE_ok 60
  cases st with
  | Assign ts v pos =>
    match ts, h with
    | [t], h => exact cAsg_ok o h
    | [], h => exact nomatch (h : none = some m)
    | _ :: _ :: _, h => exact nomatch (h : none = some m)
  | AugAssign t op v pos =>
    have h : (match nameOf t with | some x => (stoOf c x).bind fun i => (cE 60 c v).map (.aug i op) | none => none) = some m := h
    split at h
    · next x q =>
      obtain ⟨p, et⟩ := nameOf_of q
      obtain ⟨i, h1, h⟩ := opt_bind h
      obtain ⟨mv, h2, em⟩ := map_of h
      subst et em
      obtain ⟨q1, q2, q3⟩ := sto_ok o h1
      exact ps_imp (ps_aug hN q1 q2 (pe_d (ihE W c X _ _ o h2)) (vm_iop op) q3) fun D σ H => imp_aug
    · cases h
  | Expr v pos =>
    obtain ⟨hc, h⟩ := if_some (h : (if notComp v = true then (cE 60 c v).map .expr else none) = some m)
    obtain ⟨mv, h2, em⟩ := map_of h
    subst em
    exact ps_imp (ps_expr (ihE W c X _ _ o h2).pe (swaps_none hc)) fun D σ H => imp_drop
  | If t a b pos =>
    obtain ⟨mt, h1, h⟩ := opt_bind (h : ((cE 60 c t).bind fun t => (mapO (rec c) a).bind fun a => (mapO (rec c) b).map (.ife t a)) = some m)
    obtain ⟨ma, h2, h⟩ := opt_bind h
    obtain ⟨mb, h3, em⟩ := map_of h
    subst em
    exact ps_imp (ps_if (ihE W c X _ _ o h1).pt (stmts_ok ih h2) (stmts_ok ih h3)) fun D σ H => imp_if
  | For t it b orelse pos =>
    obtain ⟨he, h⟩ := if_some (h : (if orelse.isEmpty = true then (cTg c 9 t).bind fun g => (cIt (cE 60) c t it).bind fun it => (mapO (rec c) b).map (.for g it) else none) = some m)
    have eo := List.isEmpty_iff.mp he
    obtain ⟨g, h1, h⟩ := opt_bind h
    obtain ⟨mi, h2, h⟩ := opt_bind h
    obtain ⟨mb, h3, em⟩ := map_of h
    subst em eo
    obtain ⟨i1, i2⟩ := it_ok ihE o h2
    exact ps_imp (ps_for hp o.calm i1 (tg_ok o 9 h1).1 (stmts_ok ih h3) (i2 X.env)) fun D σ H => imp_for
  | While t b orelse pos =>
    obtain ⟨he, h⟩ := if_some (h : (if orelse.isEmpty = true then (cE 60 c t).bind fun t => (mapO (rec c) b).map (.whl t) else none) = some m)
    have eo := List.isEmpty_iff.mp he
    obtain ⟨mt, h1, h⟩ := opt_bind h
    obtain ⟨mb, h3, em⟩ := map_of h
    subst em eo
    exact ps_imp (ps_while hp (ihE W c X _ _ o h1).pt (stmts_ok ih h3)) fun D σ H => imp_whl
  | Return v pos =>
    cases v with
    | none => cases h; exact ps_imp ps_retN fun D σ H => imp_retN
    | some v =>
      obtain ⟨mv, h1, em⟩ := map_of (h : (cE 60 c v).map .ret = some m)
      subst em
      exact ps_imp (ps_ret (ihE W c X _ _ o h1).pe) fun D σ H => imp_ret
  | Raise ex cause pos =>
    cases cause with
    | none => exact raise_ok o h
    | some _ => exact nomatch (h : none = some m)
  | Break pos => cases h; exact ps_imp ps_break fun D σ H => imp_brk
  | Continue pos => cases h; exact ps_imp ps_continue fun D σ H => imp_cont
  | Pass pos => cases h; exact ps_imp ps_pass fun D σ H => imp_next fun s => rfl
  | _ => exact nomatch (h : none = some m)
theorem cS_ok (o : OkX e cm flds W d c X) (hp : PassesOwn (model X.prog X.w) X.A X.env X.xe) : ∀ n, RecS e cm flds exm W c X (cS n)
  | 0, st, m, h => by cases h
  | n + 1, st, m, h => by
    have h : orBad (cS1 (cE 60) (cS n) c st) = some m := h
    cases q : cS1 (cE 60) (cS n) c st with
    | some m' =>
      rw [q] at h
      cases h
      exact s1_ok o hp (cS_ok o hp n) q
    | none =>
      rw [q] at h
      cases h
      have hb : PS X st (fun _ _ _ => False) := ⟨fun _ _ _ _ _ _ z => z.elim⟩
      refine ps_imp hb fun D σ H hh => imp_bad (f := exS cm flds exm .bad) (fun s => by rw [exS]) hh
/-- a body -/
theorem body_ok (o : OkX e cm flds W d c X) (hp : PassesOwn (model X.prog X.w) X.A X.env X.xe) {b : List Stmt} {ms : List MS} (h : cBody c b = some ms) : PSs X b (TSv e W (exSs cm flds exm ms)) := stmts_ok (cS_ok o hp 30) h
end
end VM

set_option linter.all false
set_option maxRecDepth 100000
/-! VM35: defs keep what the evaluator says, at every depth. -/
namespace VM
open PySem PySem.Spec PyProof.Rows L2
section
variable {e : Env2} {W : WX} {T T' : AP1} {θ θ' : List Addr} {s s' : S} {σ σ' : L2.St} {H H' : Hp}
/-- behind a def its names are gone -/
theorem StR.fin (R : StR e T' θ' s' σ' H') : StR e T' θ' ⟨[], s'.om⟩ [] H' ∧ Kp (Own T' θ' s'.sl σ') H' (Own T' θ' [] []) H' := by
  have ls : ∀ a, Own T' θ' [] [] a → Own T' θ' s'.sl σ' a := fun a z => by
    rcases z with z | z | ⟨i, d, h, _⟩
    · exact .inl z
    · exact .inr (.inl z)
    · simp at h
  have k : Kp (Own T' θ' s'.sl σ') H' (Own T' θ' [] []) H' := Kp.less ls
  exact ⟨⟨rfl, fun i c h => by simp at h, R.hlen, fun n d p h1 h2 => (R.hnd n d p h1 h2).keep k rfl, R.nd, fun i a ⟨d, h, _⟩ => by simp at h, fun i j a ⟨d, h, _⟩ => by simp at h, R.hT, R.tr, R.tb⟩, k⟩
/-- at the entry the other names hold nothing -/
theorem StR.pad {cs : List C} {om : List D} {vs : List V} (R : StR e T θ ⟨cs, om⟩ (vs.map some) H) (no : ∀ c ∈ cs, ∀ d, c ≠ .ow d) (n : Nat) : StR e T θ ⟨cs ++ List.replicate n .un, om⟩ (vs.map some ++ List.replicate n none) H ∧
    Kp (Own T θ cs (vs.map some)) H (Own T θ (cs ++ List.replicate n .un) (vs.map some ++ List.replicate n none)) H := by
  have no2 : ∀ c ∈ cs ++ List.replicate n C.un, ∀ d, c ≠ .ow d := fun c hc d => by
    rcases List.mem_append.mp hc with hc | hc
    · exact no c hc d
    · rw [(List.mem_replicate.mp hc).2]; simp
  have k : Kp (Own T θ cs (vs.map some)) H (Own T θ (cs ++ List.replicate n .un) (vs.map some ++ List.replicate n none)) H := Kp.less fun a z => (own_args no a).mpr ((own_args no2 a).mp z)
  have hl : cs.length = vs.length := by simpa using R.len
  refine ⟨⟨by simp [hl], fun i c h => ?_, R.hlen, fun n d p h1 h2 => (R.hnd n d p h1 h2).keep k rfl, R.nd, fun i a ⟨d, h, _⟩ => absurd rfl (no2 _ (List.mem_of_getElem? h) d), fun i j a ⟨d, h, _⟩ => absurd rfl (no2 _ (List.mem_of_getElem? h) d), R.hT, R.tr, R.tb⟩, k⟩
  have h : (cs ++ List.replicate n C.un)[i]? = some c := h
  by_cases hi : i < cs.length
  · rw [List.getElem?_append_left hi] at h
    have z := R.slot i c h
    rw [show (vs.map some ++ List.replicate n none)[i]? = (vs.map some)[i]? from List.getElem?_append_left (by simp; omega)]
    exact SlotOk.keep k (fun _ _ z => z) (no c (List.mem_of_getElem? h)) z
  · rw [List.getElem?_append_right (by omega)] at h
    have hm := (List.mem_replicate.mp (List.mem_of_getElem? h)).2
    subst hm
    exact True.intro
/-- what the body leads to is what the call comes to -/
theorem post_fin {Q : VK} {E : XK} {cs : List C} {om : List D} {sl : List C} {σ0 : L2.St} {r : SO} (eO : ∀ a, Own T θ sl σ0 a ↔ Own T θ [] [] a) (p : ArgPost e T θ H om (finish r) Q E) :
    PostS e (fun cls d _ G => E cls d G) T θ ⟨sl, om⟩ σ0 H r { nx := fun _ G => Q .non G, rt := Q } := by
  have step : ∀ {T' : AP1} {θ' : List Addr} {s' : S} {σ' : L2.St} {H' : Hp}, Stq e T θ ⟨sl, om⟩ σ0 H T' θ' s' σ' H' → Stp e T θ ⟨[], om⟩ T' θ' ⟨[], s'.om⟩ [] H H' ∧ Kp (Own T' θ' s'.sl σ') H' (Own T' θ' [] []) H' := fun {T' θ' s' σ' H'} a => by
    obtain ⟨f1, f2⟩ := a.st.fin
    exact ⟨⟨f1, a.pf, (a.kp.trans f2).iff (fun b z => (eO b).mpr z) (fun b z => (eO b).mp z) (fun _ z => z) a.pf, a.tm, a.tk⟩, f2⟩
  cases r with
  | nx s' => exact fun θ' σ' H' a => p .non T θ' H' (step a).1 ⟨rfl, _, rfl, rfl⟩
  | rt c s' =>
    cases c with
    | sh d =>
      intro v T' θ' σ' H' a rc
      obtain ⟨rfl, u, e1, sh⟩ := rc
      cases e1
      exact p v T' θ' H' (step a).1 ⟨rfl, v, rfl, Sh.keep (step a).2 _ _ sh⟩
    | ow d =>
      intro v T' θ' σ' H' a rc
      obtain ⟨q, rfl, rfl, n, rt⟩ := rc
      exact p (.ref q) _ θ' H' (step a).1 ⟨q, rfl, rfl, n, rt.keep (step a).2 rfl⟩
    | _ => exact p.elim
  | exc k fs s' =>
    intro θ' σ' H' d a ⟨fv, x1, x2, x3⟩
    obtain ⟨z1, z2⟩ := step a
    exact p θ' H' d z1 ⟨fv, x1, (z2.xd x1 x2).2, ShF.keep z2 _ _ x3⟩
  | bk s' => exact p.elim
  | ct s' => exact p.elim
  | bad => exact p
end
mutual
theorem Sh.hf {g : G} {O : OP} {H : Hp} {θ : List Addr} : ∀ (d : D) (v : V), hfD d = true → Sh g O H d v → Sh g ⟨O.own, θ⟩ H d v
  | .non, _, _, h => h
  | .bl _, _, _, h => h
  | .int _, _, _, h => h
  | .str _, _, _, h => h
  | .fn _, _, _, h => h
  | .hnd _, _, z, _ => by unfold hfD at z; cases z
  | .tup ds, _, z, ⟨a, vs, e, t, r⟩ => ⟨a, vs, e, t, Shs.hf ds vs (by unfold hfD at z; exact z) r⟩
  | .prs ds, _, z, ⟨a, vs, e, t, n, r⟩ => ⟨a, vs, e, t, n, Shs.hf ds vs (by unfold hfD at z; exact z) r⟩
  | .lst ds, _, z, ⟨a, vs, e, t, n, r⟩ => ⟨a, vs, e, t, n, Shs.hf ds vs (by unfold hfD at z; exact z) r⟩
  | .rol ds, _, z, ⟨a, vs, e, t, r⟩ => ⟨a, vs, e, t, Shs.hf ds vs (by unfold hfD at z; exact z) r⟩
  | .dK ds, _, z, ⟨a, vs, e, t, n, r⟩ => ⟨a, vs, e, t, n, ShK.hf ds vs (by unfold hfD at z; exact z) r⟩
  | .dN ds, _, z, ⟨a, vs, e, t, n, r⟩ => ⟨a, vs, e, t, n, ShN.hf ds vs (by unfold hfD at z; exact z) r⟩
theorem Shs.hf {g : G} {O : OP} {H : Hp} {θ : List Addr} : ∀ (ds : List D) (vs : List V), hfDs ds = true → Shs g O H ds vs → Shs g ⟨O.own, θ⟩ H ds vs
  | [], _, _, h => h
  | d :: ds, _, z, ⟨v, r, e, h, hs⟩ => by
    unfold hfDs at z
    obtain ⟨z1, z2⟩ := Bool.and_eq_true_iff.mp z
    exact ⟨v, r, e, Sh.hf d v z1 h, Shs.hf ds r z2 hs⟩
theorem ShK.hf {g : G} {O : OP} {H : Hp} {θ : List Addr} : ∀ (ds : List (Key × D)) (vs : List (Key × V)), hfK ds = true → ShK g O H ds vs → ShK g ⟨O.own, θ⟩ H ds vs
  | [], _, _, h => h
  | p :: ds, _, z, ⟨v, r, e, h, hs⟩ => by
    unfold hfK at z
    obtain ⟨z1, z2⟩ := Bool.and_eq_true_iff.mp z
    exact ⟨v, r, e, ShKp.hf p v z1 h, ShK.hf ds r z2 hs⟩
theorem ShKp.hf {g : G} {O : OP} {H : Hp} {θ : List Addr} : ∀ (p : Key × D) (q : Key × V), hfKp p = true → ShKp g O H p q → ShKp g ⟨O.own, θ⟩ H p q
  | (k, d), (k', v), z, h => ⟨h.1, Sh.hf d v (by unfold hfKp at z; exact z) h.2⟩
theorem ShN.hf {g : G} {O : OP} {H : Hp} {θ : List Addr} : ∀ (ds : List (NestedKey × D)) (vs : List (NestedKey × Addr × Value)), hfN ds = true → ShN g O H ds vs → ShN g ⟨O.own, θ⟩ H ds vs
  | [], _, _, h => h
  | p :: ds, _, z, ⟨v, r, e, h, hs⟩ => by
    unfold hfN at z
    obtain ⟨z1, z2⟩ := Bool.and_eq_true_iff.mp z
    exact ⟨v, r, e, ShNp.hf p v z1 h, ShN.hf ds r z2 hs⟩
theorem ShNp.hf {g : G} {O : OP} {H : Hp} {θ : List Addr} : ∀ (p : NestedKey × D) (q : NestedKey × Addr × Value), hfNp p = true → ShNp g O H p q → ShNp g ⟨O.own, θ⟩ H p q
  | (k, d), (k', b, u), z, ⟨h1, h2, v, h3, h4⟩ => ⟨h1, ⟨h2.1, h2.2.1, KeyV.hf _ _ h2.2.2⟩, v, h3, Sh.hf d v (by unfold hfNp at z; exact z) h4⟩
theorem KeyV.hf {g : G} {O : OP} {H : Hp} {θ : List Addr} : ∀ (k : NestedKey) (v : V), KeyV g O H k v → KeyV g ⟨O.own, θ⟩ H k v
  | .none, _, h => h
  | .num _, _, h => h
  | .text _, _, h => h
  | .tup ks, _, ⟨a, vs, e, t, r⟩ => ⟨a, vs, e, t, KeyVs.hf ks vs r⟩
theorem KeyVs.hf {g : G} {O : OP} {H : Hp} {θ : List Addr} : ∀ (ks : List NestedKey) (vs : List V), KeyVs g O H ks vs → KeyVs g ⟨O.own, θ⟩ H ks vs
  | [], _, h => h
  | k :: ks, _, ⟨v, r, e, h, hs⟩ => ⟨v, r, e, KeyV.hf k v h, KeyVs.hf ks r hs⟩
end
theorem Root.hf {g : G} {O : OP} {H : Hp} {θ : List Addr} {d : D} {p : Addr} (z : hfD d = true) (h : Root g O H d p) : Root g ⟨O.own, θ⟩ H d p := by
  cases d with
  | lst ds => obtain ⟨vs, e, r⟩ := h; exact ⟨vs, e, Shs.hf ds vs (by unfold hfD at z; exact z) r⟩
  | dK ds => obtain ⟨vs, e, r⟩ := h; exact ⟨vs, e, ShK.hf ds vs (by unfold hfD at z; exact z) r⟩
  | dN ds => obtain ⟨vs, e, r⟩ := h; exact ⟨vs, e, ShN.hf ds vs (by unfold hfD at z; exact z) r⟩
  | _ => exact h.elim
section
variable {e : Env2} {T T' T2 : AP1} {θ θ' : List Addr} {s s' : S} {σ σ' : L2.St} {H H' : Hp}
/-- at the entry of a pure def: the handles are the caller's -/
theorem StR.pur {cs : List C} {om : List D} {vs : List V} (R : StR e T θ ⟨cs, om⟩ (vs.map some) H) (no : ∀ c ∈ cs, ∀ d, c ≠ .ow d) (hf : cs.all hfC = true) : StR e (fun a => T a ∨ a ∈ θ) [] ⟨cs, []⟩ (vs.map some) H := by
  have eo : ∀ a, Own T θ cs (vs.map some) a → Own (fun a => T a ∨ a ∈ θ) [] cs (vs.map some) a := fun a z => by
    rcases z with z | z | z
    · exact .inl (.inl z)
    · exact .inl (.inr z)
    · exact .inr (.inr z)
  have eo2 : ∀ a, Own (fun a => T a ∨ a ∈ θ) [] cs (vs.map some) a → Own T θ cs (vs.map some) a := fun a z => by
    rcases z with (z | z) | z | z
    · exact .inl z
    · exact .inr (.inl z)
    · cases z
    · exact .inr (.inr z)
  have k : Kp ⟨(Own T θ cs (vs.map some)).own, []⟩ H (Own (fun a => T a ∨ a ∈ θ) [] cs (vs.map some)) H := Kp.less eo2
  refine ⟨R.len, fun i c h => ?_, rfl, fun n d p h1 _ => by simp at h1, List.nodup_nil, fun i a z => absurd rfl (no _ (List.mem_of_getElem? z.choose_spec.1) _), R.inj, fun a h => by simp at h, fun a z => ?_, R.tb⟩
  · have z := R.slot i c h
    have q := List.all_eq_true.mp hf c (List.mem_of_getElem? h)
    cases c with
    | sh d =>
      obtain ⟨v, e1, sh⟩ := z
      exact ⟨v, e1, Sh.keep k d v (Sh.hf d v q sh)⟩
    | un => exact True.intro
    | _ => cases q
  · rcases z with z | z
    · exact R.tr a z
    · obtain ⟨n, hn⟩ := List.mem_iff_getElem?.mp z
      have hl : n < om.length := by
        have := (List.getElem?_eq_some_iff.mp hn).1
        have h2 := R.hlen
        simp only at h2
        omega
      exact (R.hnd n _ a (List.getElem?_eq_getElem hl) hn).rt
/-- behind a pure def -/
theorem Stp.pur {om om' : List D} {cs : List C} {σ0 : L2.St} (R : StR e T θ ⟨cs, om⟩ σ0 H) (st : Stp e (fun a => T a ∨ a ∈ θ) [] ⟨[], []⟩ T2 θ' ⟨[], om'⟩ [] H H') (h1 : ∀ a, T a → T' a) (h2 : ∀ a, T' a → T2 a) (h3 : ∀ a ∈ θ, ¬ T' a) :
    Stp e T θ ⟨[], om⟩ T' θ ⟨[], om⟩ [] H H' ∧ Kp ⟨(Own T2 θ' [] []).own, []⟩ H' (Own T' θ [] []) H' := by
  have noo : ∀ (i : Nat) (a : Addr), ¬ OwnAt [] [] i a := fun i a ⟨d, h, _⟩ => by simp at h
  have l1 : ∀ a, Own T' θ [] [] a → Own T2 θ' [] [] a := fun a z => by
    rcases z with z | z | ⟨i, z⟩
    · exact .inl (h2 a z)
    · exact .inl (st.tm a (.inr z))
    · exact absurd z (noo i a)
  have l2 : ∀ a, Own (fun a => T a ∨ a ∈ θ) [] [] [] a → Own T θ [] [] a := fun a z => by
    rcases z with (z | z) | z | ⟨i, z⟩
    · exact .inl z
    · exact .inr (.inl z)
    · cases z
    · exact absurd z (noo i a)
  have k : Kp (Own T θ [] []) H (Own T' θ [] []) H' := ⟨Pfx.refl, fun a o e1 nt n => by
    obtain ⟨n1, e2⟩ := st.kp.2 a o e1 nt fun z => n (l2 a z)
    exact ⟨fun z => n1 (l1 a z), e2⟩⟩
  have k0 : Kp (Own T θ cs σ0) H (Own T θ [] []) H := Kp.less fun a z => by
    rcases z with z | z | ⟨i, z⟩
    · exact .inl z
    · exact .inr (.inl z)
    · exact absurd z (noo i a)
  refine ⟨⟨⟨rfl, fun i c h => by simp at h, R.hlen, fun n d p q1 q2 => ?_, R.nd, fun i a z => absurd z (noo i a), fun i j a z => absurd z (noo i a), h3, fun a z => st.st.tr a (h2 a z), st.st.tb⟩, Pfx.refl, k, h1, fun a z => st.tk a (.inl z)⟩, Kp.less l1 (fun n p z => by simp at z)⟩
  exact (R.hnd n d p q1 q2).keep (k0.trans k) (st.tk p (.inr (List.mem_of_getElem? q2)))
/-- a pure def keeps what the evaluator says of it -/
theorem FnVM.pur {P : Program} {w : World} {K : PySem.W.Frag} {mg : Str → Option Value} {base : Heap} {gd : Bool} {k : Nat} {f : Addr} {cm : List C → List D → Rs} (F : FnVM P w K mg base e gd k f cm) : FnVM P w K mg base e gd k f (purN cm) := by
  refine ⟨F.kp, fun A outer s H us vs Q E T θ cs om hr hg e0 r st no p => ?_⟩
  unfold purN at p
  split at p
  case isFalse => exact p.elim
  case isTrue hf =>
    refine F.run A outer s H us vs Q E (fun a => T a ∨ a ∈ θ) [] cs [] hr hg e0 r (st.pur no hf) no ?_
    split at p
    · next c om' q =>
      rw [q]
      split at p
      case isFalse => exact p.elim
      case isTrue hc =>
        intro v T2 θ' H' sp rc
        cases c with
        | sh d =>
          obtain ⟨rfl, u, e1, sh⟩ := rc
          obtain ⟨s1, k1⟩ := Stp.pur (T' := T) st sp (fun _ z => z) (fun _ z => .inl z) st.hT
          cases e1
          exact p v T θ H' s1 ⟨rfl, v, rfl, Sh.keep k1 _ _ (Sh.hf d v hc sh)⟩
        | ow d =>
          obtain ⟨x, rfl, rfl, n, rt⟩ := rc
          obtain ⟨s1, k1⟩ := Stp.pur (T' := And1 T x) st sp (fun _ z => .inl z) (fun a z => z.elim (fun z => .inl (.inl z)) .inr) (fun a h z => z.elim (st.hT a h) fun z => n (.inr (by rw [← z]; exact h)))
          exact p (.ref x) _ θ H' s1 ⟨x, rfl, rfl, fun z => n (.inl z), (rt.hf hc).keep k1 rfl⟩
        | _ => cases hc
    · next k fs om' q =>
      rw [q]
      split at p
      case isFalse => exact p.elim
      case isTrue hc =>
        intro θ' H' d sp ⟨fv, x1, x2, x3⟩
        obtain ⟨s1, k1⟩ := Stp.pur (T' := T) st sp (fun _ z => z) (fun _ z => .inl z) st.hT
        refine p θ H' d s1 ⟨fv, x1, fun z => x2 ?_, fun f y hy => ?_⟩
        · rcases z with z | z | ⟨i, y, z, _⟩
          · exact .inl (.inl z)
          · exact .inl (.inr z)
          · simp at z
        · obtain ⟨v, e1, sh⟩ := x3 f y hy
          have hm : (f, y) ∈ fs := by
            clear x3 p q hc
            induction fs with
            | nil => cases hy
            | cons b bs ih =>
              obtain ⟨b1, b2⟩ := b
              rw [List.lookup_cons] at hy
              cases q : (f == b1) with
              | true =>
                rw [q] at hy
                rw [eq_of_beq q, Option.some.inj hy]
                exact List.mem_cons_self
              | false =>
                rw [q] at hy
                exact List.mem_cons_of_mem _ (ih hy)
          exact ⟨v, e1, Sh.keep k1 _ _ (Sh.hf y v (List.all_eq_true.mp hc _ hm) sh)⟩
    · exact p.elim
end
/-- a def of the text -/
structure FnG (P : Program) (w : World) (K : PySem.W.Frag) (mg : Str → Option Value) (base : Heap) (e : Env2) (c : SC) (f : Addr) (fe : FnE) : Prop where
  kp : PySem.W.keepIn K (.ref f) = true
  ex : ∃ (oc : Value) (od : Option Addr) (name qual : Str) (params : Arguments) (body : List Stmt) (dV kV doc pm : Value) (an : Option Addr) (cdv ct : Value) (osl : Array (Option Value)) (ps : List Str),
    K.lookup f = some ⟨oc, od, .func (PySem.W.fnOf name qual params body c.sc dV kV doc pm an cdv ct), osl⟩ ∧ PySem.W.codeIn K cdv qual = true ∧ FnScope c.N ps c.sc ∧ cBody c body = some fe.body ∧ fe.n = c.N.length ∧ fe.np = ps.length ∧
      (∀ (s : Shared) (us : List Value), us.length = ps.length → BindsTo s (PySem.W.fnOf name qual params body c.sc dV kV doc pm an cdv ct) ⟨us, []⟩ (ps.zip us)) ∧
      (c.lm = true → ∃ cA PA, cdv = .ref cA ∧ LamX.TabB base mg cA PA ∧ (PA, (envOfC qual c.sc 0 f cdv).qual ++ "<lambda>") ∈ e.tb ∧ ∀ p ∈ e.tb, p.1 = PA → p.2 = (envOfC qual c.sc 0 f cdv).qual ++ "<lambda>")
/-- the ground of a program -/
structure Grd (P : Program) (w : World) (K : PySem.W.Frag) (mg : Str → Option Value) (base : Heap) (e : Env2) (flds : Nat → List Str) (gl : List (Str × GR)) (ng : List Nat) (mt : List (Nat × List MH)) : Prop where
  gK : K = e.g.K
  gM : mg = e.g.mg
  gP : P = e.g.P
  gw : w = e.g.w
  gG : ∀ x r, gl.lookup x = some r → GOk e.g x r
  gT : ∀ x i hs, gl.lookup x = some (.fn i) → mt.lookup i = some hs → ∃ nc, MetOk P w K mg e.g nc (e.g.fa i) x hs
  gC : ∀ x i, gl.lookup x = some (.cls i) → ClsE P w K mg base 1 (e.g.ca i) (flds i)
theorem guards_deeper (A : Around) (env : Env) : (A.deeper env).guards = A.guards := rfl
section
variable {P : Program} {w : World} {K : PySem.W.Frag} {mg : Str → Option Value} {base : Heap} {e : Env2} {flds : Nat → List Str} {exm : Nat → Nat → Bool} {gl : List (Str × GR)} {ng : List Nat} {mt : List (Nat × List MH)} {tab : List FnE} {scs : List SC}
theorem fnvm_zero {gd : Bool} {k i : Nat} {f : Addr} (kp : PySem.W.keepIn K (.ref f) = true) : FnVM P w K mg base e gd k f (callN tab flds exm 0 i) := ⟨kp, fun _ _ _ _ _ _ _ _ _ _ _ _ _ _ _ _ _ _ p => p.elim⟩
theorem fnvm_succ {d i : Nat} {c : SC} {fe : FnE} (G : Grd P w K mg base e flds gl ng mt) (hgl : c.gl = gl) (hng : c.ng = ng) (hmt : c.mt = mt) (hib : c.ib = none) (hgd : c.gd = !ng.contains i) (F : FnG P w K mg base e c (e.g.fa i) fe) (ht : tab[i]? = some fe)
    (ih : ∀ x j, gl.lookup x = some (.fn j) → mt.lookup j = none → (c.gd || ng.contains j) = true → FnVM P w K mg base e (!ng.contains j) (3 * d + 6) (e.g.fa j) (callN tab flds exm d j)) :
    FnVM P w K mg base e (!ng.contains i) (3 * (d + 1) + 6) (e.g.fa i) (callN tab flds exm (d + 1) i) := by
  suffices h : FnVM P w K mg base e (!ng.contains i) (3 * (d + 1) + 6) (e.g.fa i) (runN (callN tab flds exm d) flds exm fe) by
    have hp : callN tab flds exm (d + 1) i = fun cs om => if fe.pu = true then purN (runN (callN tab flds exm d) flds exm fe) cs om else runN (callN tab flds exm d) flds exm fe cs om := by
      show (fun (cs : List C) (om : List D) => match tab[i]? with
        | none => Rs.bad
        | some e => if e.pu = true then purN (runN (callN tab flds exm d) flds exm e) cs om else runN (callN tab flds exm d) flds exm e cs om) = _
      rw [ht]
    rw [hp]
    cases q : fe.pu with
    | true => simpa using h.pur
    | false => simpa using h
  refine ⟨F.kp, fun A outer s H us vs Q E T θ cs om hr hg e0 r st no p => ?_⟩
  obtain ⟨oc, od, name, qual, params, body, dV, kV, doc, pm, an, cdv, ct, osl, ps, lk, hcd, S, hb, hn, hnp, hbind, hlam⟩ := F.ex
  have hcl : cs.length = vs.length := by simpa using st.len
  unfold runN at p
  split at p
  case isFalse => exact p.elim
  case isTrue hnn =>
    have hvp : vs.length = ps.length := by omega
    have hup : us.length = ps.length := by rw [← r.length]; exact hvp
    refine LamX.run_ofS (k := 3 * d + 8) lk hcd S hr e0 (hbind s us hup) r hvp fun hr2 => ?_
    have o : OkX e (callN tab flds exm d) flds (fun cls d _ G => E cls d G) d c (cxOf (L2.CX P w) P w K mg base c.N qual c.sc (e.g.fa i) cdv A outer s H E) := {
      N := rfl
      nd := S.nd
      sc := rfl
      K := G.gK
      gx := ⟨G.gK, G.gP, G.gw⟩
      mg := G.gM
      calm := rfl
      rm := hr2.mono (by omega)
      gd := fun z => hg (by rw [← hgd]; exact z)
      tk := takes_of rfl rfl rfl rfl
      fn := fun _ _ _ => rfl
      gl := fun x r h => G.gG x r (by rw [← hgl]; exact h)
      fns := fun x j h0 h1 h2 => by
        rw [hng] at h2 ⊢
        rw [hmt] at h1
        rw [hgl] at h0
        exact ih x j h0 h1 h2
      mts := fun x j hs h1 h2 => G.gT x j hs (by rw [← hgl]; exact h1) (by rw [← hmt]; exact h2)
      cls := fun x j h => G.gC x j (by rw [← hgl]; exact h)
      lam := fun h => by
        obtain ⟨cA, PA, h1, h2, h3, h4⟩ := hlam h
        exact ⟨hr2, cA, PA, h2, h1, h3, h4⟩ }
    refine ⟨_, body_ok (exm := exm) o (passes_of rfl) hb, T, θ, ({ sl := cs ++ List.replicate (fe.n - fe.np) C.un, om := om } : VM.S), ?_, ?_⟩
    · have := (st.pad no (fe.n - fe.np)).1
      have e1 : L2.start c.N vs = vs.map some ++ List.replicate (fe.n - fe.np) none := by
        unfold L2.start
        rw [hn, hnp, hvp]
      rw [e1]
      exact this
    · refine post_fin (cs := cs) (fun a => ?_) p
      have no2 : ∀ c ∈ cs ++ List.replicate (fe.n - fe.np) C.un, ∀ d, c ≠ .ow d := fun c hc d => by
        rcases List.mem_append.mp hc with hc | hc
        · exact no c hc d
        · rw [(List.mem_replicate.mp hc).2]; simp
      exact own_args no2 a
/-- every def, at every depth -/
theorem fnvm_all (G : Grd P w K mg base e flds gl ng mt) (F : ∀ x i, gl.lookup x = some (.fn i) → mt.lookup i = none → ∃ c fe, tab[i]? = some fe ∧ c.gl = gl ∧ c.ng = ng ∧ c.mt = mt ∧ c.ib = none ∧ c.gd = (!ng.contains i) ∧ FnG P w K mg base e c (e.g.fa i) fe) :
    ∀ d x i, gl.lookup x = some (.fn i) → mt.lookup i = none → FnVM P w K mg base e (!ng.contains i) (3 * d + 6) (e.g.fa i) (callN tab flds exm d i)
  | 0, x, i, h0, h1 => by
    obtain ⟨c, fe, _, _, _, _, _, _, f⟩ := F x i h0 h1
    exact fnvm_zero f.kp
  | d + 1, x, i, h0, h1 => by
    obtain ⟨c, fe, h2, h3, h4, h5, h6, h7, f⟩ := F x i h0 h1
    exact fnvm_succ G h3 h4 h5 h6 h7 f h2 fun y j k0 k1 _ => fnvm_all G F d y j k0 k1
end
end VM

set_option Elab.async false
set_option linter.all false
set_option maxRecDepth 100000
set_option maxHeartbeats 2000000
/-! VM36: the end of a law row where the def's promise is told at the row's own caller only (its guards are known) -/
namespace VM
open PySem PySem.Spec PyProof.Rows L2
/-- the heap the law starts from: the tables and maybe the script are tracked -/
structure St0 (P : Program) (w : World) (K : PySem.W.Frag) (a : Addr) (ts : List Addr) (s₁ : Shared) (H : Hp) : Prop where
  only : ∀ b, H b = none ∨ b ∈ ts ∨ ∃ o xs, H b = some (.frz o (.lst xs))
  hok : HOk P w H s₁.heap
  dom : ∀ b, H b ≠ none → b = a ∨ b ∈ ts
  frg : H a ≠ none → K.lookup a = none
  tab : ∀ t ∈ ts, H t = some (.tbl #[])
  isT : ∀ t ∈ ts, s₁.heap.get? t = some { cls := .none, data := .fields #[] }
section
variable {P : Program} {w : World} {K : PySem.W.Frag} {mg mb : Str → Option Value} {a : Addr} {ts : List Addr} {s₁ s' : Shared} {H H' : Hp} {vs : List Value}
theorem St0.hid (S : St0 P w K a ts s₁ H) (ha : s₁.heap.get? a = some { cls := .type "list", data := .seq vs.toArray }) {b : Addr} {o : Obj} (e : s₁.heap.get? b = some o) (h1 : ∀ us n, o.data ≠ .seq us n) (h2 : o.data ≠ .fields #[]) :
    (hidT s₁.heap H).get? b = some o := hidT_get e (by
  cases q : H b with
  | none => rfl
  | some u =>
    exfalso
    rcases S.dom b (by rw [q]; simp) with rfl | hb
    · rw [ha] at e
      cases e
      exact h1 _ _ rfl
    · rw [S.isT b hb] at e
      cases e
      exact h2 rfl)
theorem St0.ns (S : St0 P w K a ts s₁ H) (ha : s₁.heap.get? a = some { cls := .type "list", data := .seq vs.toArray }) {b : Addr} {m : Str → Option Value} : s₁.heap.Ns b m → (hidT s₁.heap H).Ns b m := fun ⟨o, es, ep, e, d, r⟩ =>
  ⟨o, es, ep, S.hid ha e (fun _ _ z => by rw [d] at z; cases z) (fun z => by rw [d] at z; cases z), d, r⟩
theorem St0.kin (S : St0 P w K a ts s₁ H) (KX : K.In s₁.heap) (nT : ∀ t ∈ ts, K.lookup t = none) : K.In (hidT s₁.heap H) := fun b o e => hidT_get (KX b o e) (by
  cases q : H b with
  | none => rfl
  | some u =>
    exfalso
    have nz : H b ≠ none := by rw [q]; simp
    rcases S.dom b nz with rfl | hb
    · rw [S.frg nz] at e
      cases e
    · rw [nT b hb] at e
      cases e)
theorem St0.env (S : St0 P w K a ts s₁ H) (KX : K.In s₁.heap) (nT : ∀ t ∈ ts, K.lookup t = none) (hns : s₁.heap.Ns mainGlobals mg) (hb : s₁.heap.Ns builtinsNs mb) (hbb : ∀ x : Str, x ≠ "__name__" → mb x = bootBuiltins x) (hlim : s₁.heap.NoLimit) (hg : s₁.gens = #[])
    (ha : s₁.heap.get? a = some { cls := .type "list", data := .seq vs.toArray }) : Env0 P w K mg (hidT s₁.heap H) callerA [] s₁ H := by
  have md : L2.Mod K mg (hidT s₁.heap H) := by
    refine ⟨S.kin KX nT, S.ns ha hns, ⟨mb, S.ns ha hb, hbb⟩, ?_⟩
    obtain ⟨mc, h1, h2⟩ := hlim
    exact ⟨mc, S.ns ha h1, h2⟩
  exact { frames := rfl, mod := md, bs := fun _ _ e => of_hidT e, bsz := Nat.le_of_eq (hidT_size _ _), funs := trivial, frf := fun b hb => absurd (show b ∈ ([] : List Addr) from hb) (by simp), hok := S.hok, bare := .of_eq hg }
theorem St0.tabB (S : St0 P w K a ts s₁ H) (hns : s₁.heap.Ns mainGlobals mg) (ha : s₁.heap.get? a = some { cls := .type "list", data := .seq vs.toArray })
    (hbm : ∃ (bm : Addr) (ob : Obj), mg "__builtins__" = some (.ref bm) ∧ bm ≠ builtinsNs ∧ s₁.heap.get? bm = some ob ∧ ob.cls = .type "module" ∧ ob.dict = some builtinsNs ∧ ob.data = .plain) {c t : Addr} (ht : t ∈ ts) (C : PySem.W.CodeHd s₁.heap c t) :
    LamX.TabB (hidT s₁.heap H) mg c t := by
  have hT := S.isT t ht
  have nG : ∀ b ob, s₁.heap.get? b = some ob → (∀ es ep, ob.data ≠ .dict es ep) → b ≠ mainGlobals := fun b ob e n z => by
    obtain ⟨o, es, ep, e1, d, _⟩ := hns
    rw [z, e1] at e
    cases e
    exact n _ _ d
  refine ⟨?_, ?_, fun z => nG t _ hT (by simp) z.symm⟩
  · obtain ⟨o, us, file, tf, flags, tg, inF, text, tt, e1, r1, r2, r3, r4, r5, r6, r7, r8, hne⟩ := C
    refine ⟨o, us, file, tf, flags, tg, inF, text, tt, S.hid ha e1 (fun _ _ z => by rw [r2] at z; cases z) (fun z => ?_), r1, r2, r3, r4, r5, r6, r7, r8, hne⟩
    rw [r2] at z
    cases z
    simp at r3
  · obtain ⟨bm, ob, b1, b2, b3, b4, b5, b6⟩ := hbm
    refine ⟨bm, ob, b1, b2, nG bm ob b3 (by rw [b6]; simp), fun q => ?_, S.hid ha b3 (by rw [b6]; simp) (by rw [b6]; simp), b4, b5, b6⟩
    rw [q, hT] at b3
    cases b3
    cases b6
/-- what the call left behind -/
theorem St0.old (S : St0 P w K a ts s₁ H) (C : ∀ t ∈ ts, ∃ c, PySem.W.CodeHd s₁.heap c t) (un : Un (frs []) [] H H' s₁.heap s'.heap) (hok' : HOk P w H' s'.heap) : OldK s₁.heap s'.heap := by
  have stay : ∀ b o, b ∉ ts → s₁.heap.get? b = some o → s'.heap.get? b = some o := fun b o nb e => by
    cases q : H b with
    | none => exact un.keep b o e q (fun z => absurd (show b ∈ ([] : List Addr) from z) (by simp)) (by simp)
    | some u =>
      rcases S.only b with z | z | ⟨ob, xs, z⟩
      · rw [q] at z
        cases z
      · exact absurd z nb
      · obtain ⟨e1, _⟩ := S.hok b _ z
        obtain ⟨e2, _⟩ := hok' b _ (un.frzs b ob _ z)
        rw [e] at e1
        cases e1
        exact e2
  have grown : ∀ t ∈ ts, ∃ more : Array Value, s'.heap.get? t = some { cls := .none, data := .fields more } := fun t ht => by
    obtain ⟨more, z⟩ := un.tbls t #[] (S.tab t ht)
    exact ⟨_, hok' t _ z⟩
  refine ⟨fun b o e => ?_, fun b o e => ?_⟩
  · by_cases hb : b ∈ ts
    · obtain ⟨more, hm⟩ := grown b hb
      obtain ⟨c, hc⟩ := C b hb
      rw [S.isT b hb] at e
      cases e
      exact .inr (.inl ⟨(hc.tab (S.isT b hb)).isCodeTable, rfl, #[], more, rfl, by rw [Array.empty_append]; exact hm⟩)
    · exact .inl (stay b o hb e)
  · by_cases hb : b ∈ ts
    · obtain ⟨more, hm⟩ := grown b hb
      exact ⟨_, hm⟩
    · exact ⟨o, stay b o hb e⟩
end
/-- such a heap there is -/
theorem st0_exists {P : Program} {w : World} {K : PySem.W.Frag} {a : Addr} {ts : List Addr} {s₁ : Shared} {vs : List Value} {ns : List Int} (KX : K.In s₁.heap) (hT : ∀ t ∈ ts, s₁.heap.get? t = some { cls := .none, data := .fields #[] })
    (ha : s₁.heap.get? a = some { cls := .type "list", data := .seq vs.toArray }) (hi : IntsAre vs ns) (hl : ns.length ≤ sizeLine) : ∃ H, St0 P w K a ts s₁ H ∧ RoL K ⟨fun _ => False, []⟩ H a (ns.map V.int) := by
  have rv := vals_ints hi
  have lenV := hi.length
  have aT : a ∉ ts := fun z => by
    have q := hT a z
    rw [ha] at q
    have z' : Data.seq vs.toArray _ = Data.fields #[] := congrArg Obj.data (Option.some.inj q)
    cases z'
  cases hk : K.lookup a with
  | some o =>
    have e := KX a o hk
    rw [ha] at e
    cases e
    refine ⟨fun b => if b ∈ ts then some (.tbl #[]) else none, ⟨fun b => ?_, fun b u z => ?_, fun b z => ?_, fun z => absurd (if_neg aT) z, fun t ht => if_pos ht, hT⟩, ?_⟩
    · by_cases hb : b ∈ ts
      · exact .inr (.inl hb)
      · exact .inl (if_neg hb)
    · by_cases hb : b ∈ ts
      · cases (if_pos hb).symm.trans z
        exact hT b hb
      · cases (if_neg hb).symm.trans z
    · by_cases hb : b ∈ ts
      · exact .inr hb
      · exact absurd (if_neg hb) z
    · exact .inr ⟨_, vs.toArray, _, hk, rfl, rfl, rfl, by rw [List.size_toArray, lenV]; exact hl, by simpa using rv⟩
  | none =>
    have tne : ∀ t ∈ ts, ¬ t = a := fun t ht z => aT (z ▸ ht)
    refine ⟨fun b => if b = a then some (.frz { cls := .type "list", data := .seq vs.toArray } (.lst (ns.map V.int))) else if b ∈ ts then some (.tbl #[]) else none,
      ⟨fun b => ?_, fun b u z => ?_, fun b z => ?_, fun _ => hk, fun t ht => (if_neg (tne t ht)).trans (if_pos ht), hT⟩, .inl ⟨_, if_pos rfl, id⟩⟩
    · by_cases hb : b = a
      · exact .inr (.inr ⟨_, _, if_pos hb⟩)
      · by_cases hb2 : b ∈ ts
        · exact .inr (.inl hb2)
        · exact .inl ((if_neg hb).trans (if_neg hb2))
    · by_cases hb : b = a
      · cases (if_pos hb).symm.trans z
        rw [hb]
        exact ⟨ha, by rw [List.length_map]; exact hl, vs, _, rv, ha⟩
      · have z1 := (if_neg hb).symm.trans z
        by_cases hb2 : b ∈ ts
        · cases (if_pos hb2).symm.trans z1
          exact hT b hb2
        · cases (if_neg hb2).symm.trans z1
    · by_cases hb : b = a
      · exact .inl hb
      · by_cases hb2 : b ∈ ts
        · exact .inr hb2
        · exact absurd ((if_neg hb).trans (if_neg hb2)) z
end VM

set_option Elab.async false
set_option linter.all false
set_option maxRecDepth 100000
set_option maxHeartbeats 2000000
/-! VM37: a law row ends well where the evaluator says so -/
namespace VM
open PySem PySem.Spec PyProof.Rows L2
theorem shs_ints {g : G} {O : OP} {H : Hp} : ∀ ns : List Int, Shs g O H (ns.map D.int) (ns.map V.int)
  | [] => by simp [Shs]
  | n :: r => by
    have := shs_ints (g := g) (O := O) (H := H) r
    exact ⟨_, _, rfl, rfl, this⟩
theorem law_callG {P : Program} {w : World} {K : PySem.W.Frag} {mg mb : Str → Option Value} {k : Nat} {fa a : Addr} {cs : List (Addr × Addr)} {s₁ : Shared} {vs : List Value} {ns : List Int}
    (KX : K.In s₁.heap) (hns : s₁.heap.Ns mainGlobals mg) (hb : s₁.heap.Ns builtinsNs mb) (hbb : ∀ x : Str, x ≠ "__name__" → mb x = bootBuiltins x) (hlim : s₁.heap.NoLimit) (hg : s₁.gens = #[])
    (hT : ∀ p ∈ cs, s₁.heap.get? p.2 = some { cls := .none, data := .fields #[] }) (nT : ∀ p ∈ cs, K.lookup p.2 = none) (hC : ∀ p ∈ cs, PySem.W.CodeHd s₁.heap p.1 p.2)
    (hbm : ∃ (bm : Addr) (ob : Obj), mg "__builtins__" = some (.ref bm) ∧ bm ≠ builtinsNs ∧ s₁.heap.get? bm = some ob ∧ ob.cls = .type "module" ∧ ob.dict = some builtinsNs ∧ ob.data = .plain)
    (ha : s₁.heap.get? a = some { cls := .type "list", data := .seq vs.toArray }) (hi : IntsAre vs ns) (hl : ns.length ≤ sizeLine) (hr : Room k callerA)
    (F : ∀ base : Heap, K.In base → base.Ns mainGlobals mg → (∀ p ∈ cs, LamX.TabB base mg p.1 p.2) → ∃ (e : Env2) (gd : Bool) (cm : List C → List D → Rs) (om' : List D), e.g.K = K ∧ (∀ q ∈ e.tb, q.1 ∈ cs.map (·.2)) ∧
      FnVM P w K mg base e gd k fa cm ∧ cm [.sh (.rol (ns.map D.int))] [] = .ok (.sh (.bl true)) om') :
    codeAny (model P w) callerA (.call (.ref fa) ⟨[.ref a], []⟩) (fun r s' => r = .ok (.ret (.bool true)) ∧ OldK s₁.heap s'.heap ∧ s'.os = s₁.os ∧ AllBare s'.gens) s₁ := by
  have hT2 : ∀ t ∈ cs.map (·.2), s₁.heap.get? t = some { cls := .none, data := .fields #[] } := fun t ht => by
    obtain ⟨p, hp, e⟩ := List.mem_map.mp ht
    exact e ▸ hT p hp
  have nT2 : ∀ t ∈ cs.map (·.2), K.lookup t = none := fun t ht => by
    obtain ⟨p, hp, e⟩ := List.mem_map.mp ht
    exact e ▸ nT p hp
  have C2 : ∀ t ∈ cs.map (·.2), ∃ c, PySem.W.CodeHd s₁.heap c t := fun t ht => by
    obtain ⟨p, hp, e⟩ := List.mem_map.mp ht
    exact ⟨p.1, e ▸ hC p hp⟩
  obtain ⟨H, S, ro⟩ := st0_exists (P := P) (w := w) KX hT2 ha hi hl
  have e0 := S.env KX nT2 hns hb hbb hlim hg ha
  obtain ⟨e, gd, cm, om', eK, eT, FV, hres⟩ := F _ (S.kin KX nT2) (S.ns ha hns) fun p hp => S.tabB hns ha hbm (List.mem_map.mpr ⟨p, hp, rfl⟩) (hC p hp)
  have st : StR e (fun _ => False) [] ⟨[.sh (.rol (ns.map D.int))], []⟩ ([V.ref a].map some) H := by
    have noown : ∀ i b, ¬ OwnAt [C.sh (.rol (ns.map D.int))] ([V.ref a].map some) i b := fun i b ⟨d, h, _⟩ => by
      cases i with
      | zero => simp at h
      | succ i => simp at h
    have nO : ∀ b, ¬ Own (fun _ => False) [] [C.sh (.rol (ns.map D.int))] ([V.ref a].map some) b := fun b z => by
      rcases z with z | z | ⟨i, z⟩
      · exact z
      · cases z
      · exact noown i b z
    refine ⟨rfl, fun i c h => ?_, rfl, fun n d p h => by simp at h, List.nodup_nil, fun i b z => (noown i b z).elim, fun i j b z => (noown i b z).elim, fun b hb => by simp at hb, fun b z => z.elim, fun q hq => ?_⟩
    · cases i with
      | zero =>
        have h : some (C.sh (.rol (ns.map D.int))) = some c := h
        cases h
        refine ⟨.ref a, rfl, a, ns.map V.int, rfl, ?_, shs_ints ns⟩
        rw [eK]
        exact ro.elim (fun ⟨o, z, _⟩ => .inl ⟨o, z, nO a⟩) .inr
      | succ i => simp at h
    · exact LamX.TabS.nil (S.tab q.1 (eT q hq))
  have hQ : ArgPost e (fun _ => False) [] H [] (cm [.sh (.rol (ns.map D.int))] []) (fun v _ => v = .bl true) (fun _ _ _ => False) := by
    rw [hres]
    intro v T1 θ1 H1 _ rc
    obtain ⟨_, u, e1, sh⟩ := rc
    cases e1
    exact sh
  refine codeAny_mono (FV.run callerA [] s₁ H [.ref a] [.ref a] _ _ _ _ _ _ hr (fun _ => rfl) e0 (.cons rfl .nil) st (fun c hc d z => by
    rw [List.mem_singleton.mp hc] at z
    cases z) hQ) fun r s' h => ?_
  cases r with
  | error u =>
    obtain ⟨_, _, _, _, _, _, _, _, _, _, _, _, z⟩ := h
    exact z.elim
  | ok fl =>
    cases fl with
    | next => exact False.elim h
    | brk => exact False.elim h
    | cont => exact False.elim h
    | ret u =>
      obtain ⟨v, H', os, bare, un, hok', r', q⟩ := h
      have q' : v = .bl true := q
      subst q'
      obtain rfl : u = Value.bool true := r'
      exact ⟨rfl, S.old C2 un hok', os, bare⟩
/-- what is asked of a law's defs at the head's heap h -/
def LawG (l : PySem.W.OpenLaw) (w : World) (k n : Nat) (mg : Str → Option Value) (fa : Addr) (h : Heap) : Prop :=
  ∃ (K : PySem.W.Frag) (cs : List (Addr × Addr)), K.In h ∧ (∀ p ∈ cs, h.get? p.2 = some { cls := .none, data := .fields #[] }) ∧ (∀ p ∈ cs, K.lookup p.2 = none) ∧ (∀ p ∈ cs, PySem.W.CodeHd h p.1 p.2) ∧
    ∀ base : Heap, K.In base → base.Ns mainGlobals mg → (∀ p ∈ cs, LamX.TabB base mg p.1 p.2) → ∃ (e : Env2) (gd : Bool) (cm : List C → List D → Rs), e.g.K = K ∧ (∀ q ∈ e.tb, q.1 ∈ cs.map (·.2)) ∧
      FnVM l.prog w K mg base e gd k fa cm ∧ ∀ ns : List Int, ns.length ≤ n → (∀ z ∈ ns, Builtin.Int.intBits z ≤ 1048576) → ∃ om', cm [.sh (.rol (ns.map D.int))] [] = .ok (.sh (.bl true)) om'
theorem walk_ofG {l : PySem.W.OpenLaw} {n k : Nat} {q : Program} {loose : List Str} {XP : (Str → Option Value) → Heap → Prop} {YP : World → Heap → Prop} {d : DefRec}
    (hn : l.most = some n) (hn2 : n ≤ sizeLine) (hdf : d.params.defaults = []) (hr : Room k callerA)
    (F : ∀ (w : World) (mg : Str → Option Value) (fa : Addr) (h : Heap), YP w h → h.Ns mainGlobals mg → mg d.name = some (.ref fa) → LawG l w k n mg fa h) :
    PySem.W.WalkO q loose XP YP l.row.toRowW d [] (fun f vs => PySem.call f vs) := by
  refine Att.attach_callB hn hdf fun w s₀ s₁ mg mb fa o pm cd doc a vs ns G Y ho hd hcd hmg hobj hints hlen hbits hg => ?_
  obtain ⟨K, cs, KX, hT, nT, C, hF⟩ := F w mg fa _ Y G.T.g hmg
  refine law_callG KX G.T.g G.T.b G.T.builtins G.T.nolimit hg hT nT C G.T.bmain hobj hints (Nat.le_trans hlen hn2) hr fun base h1 h2 h3 => ?_
  obtain ⟨e, gd, cm, h4, h5, h6, h7⟩ := hF base h1 h2 h3
  obtain ⟨om', h8⟩ := h7 ns hlen hbits
  exact ⟨e, gd, cm, om', h4, h5, h6, h8⟩
end VM

set_option Elab.async false
set_option linter.all false
set_option maxRecDepth 100000
set_option maxHeartbeats 2000000
/-! VM38: what the head's facts give for the evaluator's ground -/
namespace VM
open PySem PySem.Spec PyProof.Rows L2
section
variable {P : Program} {w : World} {K : PySem.W.Frag} {mg : Str → Option Value} {base : Heap} {e : Env2} {c : SC} {fe : FnE} {x : Str} {params : Arguments} {body : List Stmt} {f : Addr} {fd : FuncData} {ps : List Str}
/-- a def of the head is a def of the evaluator -/
theorem fng_of (F : FunD K x x params body c.sc [] [] f fd) (S : FnScope c.N ps c.sc) (hc : cBody c body = some fe.body) (hn : fe.n = c.N.length) (hp : fe.np = ps.length)
    (hb : ∀ (kV doc pm : Value) (an : Option Addr) (cdv ct : Value) (us : List Value), us.length = ps.length → bindArgs (PySem.W.fnOf x x params body c.sc .none kV doc pm an cdv ct) ⟨us, []⟩ = pure (ps.zip us))
    (hl : c.lm = true → ∃ cA PA, fd.code = .ref cA ∧ LamX.TabB base mg cA PA ∧ (PA, x ++ ".<locals>." ++ "<lambda>") ∈ e.tb ∧ (∀ p ∈ e.tb, p.1 = PA → p.2 = x ++ ".<locals>." ++ "<lambda>") ∧ ∀ (sc : Scope) (n : Nat) (f : Addr) (cdv : Value), (envOfC x sc n f cdv).qual = x ++ ".<locals>.") :
    FnG P w K mg base e c f fe := by
  obtain ⟨oc, od, dV, kV, doc, pm, an, cdv, ct, osl, rfl, lk, hcd, hD, _⟩ := F.ex
  have hdn : dV = .none := by
    rcases hD with ⟨_, z⟩ | ⟨z, _⟩
    · exact z
    · exact absurd rfl z
  subst hdn
  refine ⟨F.kp, oc, od, x, x, params, body, .none, kV, doc, pm, an, cdv, ct, osl, ps, lk, hcd, S, hc, hn, hp, fun s us hu => .of_eq (hb kV doc pm an cdv ct us hu), fun h => ?_⟩
  obtain ⟨cA, PA, h1, h2, h3, h4, h5⟩ := hl h
  exact ⟨cA, PA, h1, h2, by rw [h5]; exact h3, fun p hp z => by rw [h5]; exact h4 p hp z⟩
end
end VM

set_option Elab.async false
set_option linter.all false
set_option maxRecDepth 100000
set_option maxHeartbeats 2000000
/-! VM39: own exception classes by a Bool test of K -/
namespace VM
open PySem PySem.Spec PyProof.Rows L2
def oexO (C : Addr) : Obj → Bool
  | ⟨.type t, _, .cls ⟨_, _, .ref c :: bm, _, _, true, _, _, _, _, false⟩, ⟨[_, _, _, _, some (.builtin nid), _]⟩⟩ => decide (t = "type") && (decide (c = C) && (decide (nid = "ValueError.__new__") && PySem.HandSPX.refsVE bm))
  | _ => false
theorem oexO_ok {C : Addr} {o : Obj} (h : oexO C o = true) : ∃ nm q N bs bm sn sub ab col dd k0 k1 k2 k3 k5, o = excClassObj nm q C N bs bm true sn sub ab col dd k0 k1 k2 k3 k5 "ValueError.__new__" ∧ PySem.HandSPX.refsVE bm = true := by
  unfold oexO at h
  split at h
  · simp only [Bool.and_eq_true, decide_eq_true_eq] at h
    obtain ⟨h1, h2, h3, h4⟩ := h
    subst h1 h2 h3
    exact ⟨_, _, _, _, _, _, _, _, _, _, _, _, _, _, _, rfl, h4⟩
  · cases h
def oexB (K : PySem.W.Frag) (C : Addr) : Bool := (match K.lookup C with | some o => oexO C o | none => false) && (decide (PySem.W.findIn K (.ref C) "__setattr__" = some (some (.builtin "object.__setattr__"))) &&
  (decide (PySem.W.subIn K (.ref C) (.type "BaseException") = some true) && (decide (PySem.W.typeIn K (.ref C) = some (.type "type")) && PySem.W.keepIn K (.ref C))))
theorem oexB_ok {K : PySem.W.Frag} {C : Addr} (h : oexB K C = true) : OexC K C := by
  unfold oexB at h
  simp only [Bool.and_eq_true, decide_eq_true_eq] at h
  obtain ⟨h1, h2, h3, h4, h5⟩ := h
  refine ⟨?_, h2, h3, h4, h5⟩
  cases e : K.lookup C with
  | none => rw [e] at h1; cases h1
  | some o =>
    rw [e] at h1
    obtain ⟨nm, q, N, bs, bm, sn, sub, ab, col, dd, k0, k1, k2, k3, k5, rfl, h6⟩ := oexO_ok h1
    exact ⟨nm, q, N, bs, bm, sn, sub, ab, col, dd, k0, k1, k2, k3, k5, rfl, h6⟩
end VM

set_option Elab.async false
set_option linter.all false
set_option maxRecDepth 100000
set_option maxHeartbeats 2000000
/-! VM40: the ground of a law from the head's facts -/
namespace VM
open PySem PySem.Spec PyProof.Rows L2
theorem look_mem {β : Type} {x : Str} {r : β} : ∀ {l : List (Str × β)}, l.lookup x = some r → (x, r) ∈ l
  | [], h => by cases h
  | (b, u) :: l, h => by
    rw [List.lookup_cons] at h
    cases q : (x == b) with
    | true =>
      rw [q] at h
      have e : u = r := Option.some.inj h
      rw [eq_of_beq q, e]
      exact List.mem_cons_self
    | false =>
      rw [q] at h
      exact List.mem_cons_of_mem _ (look_mem h)
theorem nodup_inj {α β : Type} {f : α → β} : ∀ {l : List α}, (l.map f).Nodup → ∀ {a b : α}, a ∈ l → b ∈ l → f a = f b → a = b
  | [], _, a, b, ha, _, _ => by cases ha
  | x :: l, h, a, b, ha, hb, e => by
    rw [List.map_cons, List.nodup_cons] at h
    rcases List.mem_cons.mp ha with e1 | ha
    · rcases List.mem_cons.mp hb with e2 | hb
      · rw [e1, e2]
      · exact absurd (List.mem_map.mpr ⟨b, hb, by rw [← e, e1]⟩) h.1
    · rcases List.mem_cons.mp hb with e2 | hb
      · exact absurd (List.mem_map.mpr ⟨a, ha, by rw [e, e2]⟩) h.1
      · exact nodup_inj h.2 ha hb e
/-- try: return a() -/
def tryP : List Stmt → Option (Str × List ExceptHandler × Pos × Pos × Pos × Pos)
  | [.Try [.Return (some (.Call (.Name a p1) [] [] p2)) p3] hds [] [] p4] => some (a, hds, p1, p2, p3, p4)
  | _ => none
theorem tryP_of {b : List Stmt} {a : Str} {hds : List ExceptHandler} {p1 p2 p3 p4 : Pos} (h : tryP b = some (a, hds, p1, p2, p3, p4)) : b = [.Try [.Return (some (.Call (.Name a p1) [] [] p2)) p3] hds [] [] p4] := by
  unfold tryP at h
  split at h
  · cases h; rfl
  · cases h
def noH : ExceptHandler := .ExceptHandler none none [] ⟨0, 0, 0, 0⟩
def hdl (b : List Stmt) (i : Nat) : ExceptHandler := match tryP b with
  | some (_, hds, _) => hds.getD i noH
  | none => noH
def nameB (fnN clsN freeN : List Str) (p : Str × GR) : Bool := match p.2 with
  | .fn i => decide (fnN[i]? = some p.1)
  | .cls i => decide (clsN[i]? = some p.1)
  | .free => freeN.contains p.1
  | .con _ => true
mutual
/-- a constant of the module stands so -/
def conB (K : PySem.W.Frag) : D → Value → Bool
  | .non, .none => true
  | .int i, .int j _ => decide (j = i)
  | .str x, .str y _ => decide (y = x)
  | .tup ds, .ref a => (match K.lookup a with
    | some ⟨.type c, none, .seq its _, _⟩ => decide (c = "tuple") && (decide (its.size ≤ sizeLine) && conBs K ds its.toList)
    | _ => false)
  | .rol ds, .ref a => (match K.lookup a with
    | some ⟨.type c, none, .seq its _, _⟩ => decide (c = "list") && (decide (its.size ≤ sizeLine) && conBs K ds its.toList)
    | _ => false)
  | _, _ => false
def conBs (K : PySem.W.Frag) : List D → List Value → Bool
  | [], [] => true
  | d :: ds, v :: vs => conB K d v && conBs K ds vs
  | _, _ => false
end
section
variable {g : G}
mutual
theorem conB_ok : ∀ (d : D) {u : Value}, conB g.K d u = true → ∃ v, RelV v u ∧ ∀ O H, Sh g O H d v
  | .non, u, h => by
    cases u with
    | none => exact ⟨.non, rfl, fun _ _ => rfl⟩
    | _ => unfold conB at h; cases h
  | .int i, u, h => by
    cases u with
    | int j t =>
      unfold conB at h
      have e := of_decide_eq_true h
      exact ⟨.int i, ⟨t, by rw [e]⟩, fun _ _ => rfl⟩
    | _ => unfold conB at h; cases h
  | .str x, u, h => by
    cases u with
    | str y t =>
      unfold conB at h
      have e := of_decide_eq_true h
      exact ⟨.str x, ⟨t, by rw [e]⟩, fun _ _ => rfl⟩
    | _ => unfold conB at h; cases h
  | .tup ds, u, h => by
    cases u with
    | ref a =>
      unfold conB at h
      cases q : g.K.lookup a with
      | none => rw [q] at h; cases h
      | some o =>
        obtain ⟨oc, od, dt, osl⟩ := o
        rw [q] at h
        cases oc with
        | type c =>
          cases od with
          | none =>
            cases dt with
            | seq its n =>
              obtain ⟨h1, h2⟩ := Bool.and_eq_true_iff.mp (show (decide (c = "tuple") && (decide (its.size ≤ sizeLine) && conBs g.K ds its.toList)) = true from h)
              obtain ⟨h3, h4⟩ := Bool.and_eq_true_iff.mp h2
              obtain ⟨vs, hv, hs⟩ := conBs_ok ds h4
              exact ⟨.ref a, rfl, fun O H => ⟨a, vs, rfl, .inr ⟨_, its, n, q, congrArg Value.type (of_decide_eq_true h1), rfl, rfl, of_decide_eq_true h3, hv⟩, hs O H⟩⟩
            | _ => cases h
          | some a => cases dt <;> cases h
        | _ => cases od <;> cases dt <;> cases h
    | _ => unfold conB at h; cases h
  | .rol ds, u, h => by
    cases u with
    | ref a =>
      unfold conB at h
      cases q : g.K.lookup a with
      | none => rw [q] at h; cases h
      | some o =>
        obtain ⟨oc, od, dt, osl⟩ := o
        rw [q] at h
        cases oc with
        | type c =>
          cases od with
          | none =>
            cases dt with
            | seq its n =>
              obtain ⟨h1, h2⟩ := Bool.and_eq_true_iff.mp (show (decide (c = "list") && (decide (its.size ≤ sizeLine) && conBs g.K ds its.toList)) = true from h)
              obtain ⟨h3, h4⟩ := Bool.and_eq_true_iff.mp h2
              obtain ⟨vs, hv, hs⟩ := conBs_ok ds h4
              exact ⟨.ref a, rfl, fun O H => ⟨a, vs, rfl, .inr ⟨_, its, n, q, congrArg Value.type (of_decide_eq_true h1), rfl, rfl, of_decide_eq_true h3, hv⟩, hs O H⟩⟩
            | _ => cases h
          | some a => cases dt <;> cases h
        | _ => cases od <;> cases dt <;> cases h
    | _ => unfold conB at h; cases h
  | .bl _, u, h => by cases u <;> (unfold conB at h; cases h)
  | .fn _, u, h => by cases u <;> (unfold conB at h; cases h)
  | .hnd _, u, h => by cases u <;> (unfold conB at h; cases h)
  | .prs _, u, h => by cases u <;> (unfold conB at h; cases h)
  | .lst _, u, h => by cases u <;> (unfold conB at h; cases h)
  | .dK _, u, h => by cases u <;> (unfold conB at h; cases h)
  | .dN _, u, h => by cases u <;> (unfold conB at h; cases h)
theorem conBs_ok : ∀ (ds : List D) {us : List Value}, conBs g.K ds us = true → ∃ vs, Vals vs us ∧ ∀ O H, Shs g O H ds vs
  | [], [], _ => ⟨[], .nil, fun _ _ => rfl⟩
  | [], _ :: _, h => by unfold conBs at h; cases h
  | _ :: _, [], h => by unfold conBs at h; cases h
  | d :: ds, u :: us, h => by
    unfold conBs at h
    obtain ⟨h1, h2⟩ := Bool.and_eq_true_iff.mp h
    obtain ⟨v, r, s⟩ := conB_ok d h1
    obtain ⟨vs, rs, ss⟩ := conBs_ok ds h2
    exact ⟨v :: vs, .cons r rs, fun O H => ⟨v, vs, rfl, s O H, ss O H⟩⟩
end
end
/-- a constant's test -/
def conT (K : PySem.W.Frag) (p : Str × D) : Bool := match PySem.W.nsIn K mainGlobals p.1 with
  | some (some v) => conB K p.2 v
  | _ => false
/-- the ground's addresses by names -/
def gOf' (P : Program) (w : World) (K : PySem.W.Frag) (mg : Str → Option Value) (base : Heap) (fnN clsN : List Str) : G := ⟨P, w, K, mg, base, fun i => He.ga K (fnN.getD i default), fun i => He.ga K (clsN.getD i default)⟩
/-- what is tested of K beside the facts -/
def exK (clsN : List Str) (iniN : List (Str × List Str)) (hs : List (Str × MH)) (tf : List He.Defn) (cons : List (Str × D)) (K : PySem.W.Frag) : Bool :=
  clsN.all (fun c => oexB K (He.ga K c) && xfB K (He.ga K c)) && (iniN.all (fun p => p.2.all fun f => decide (PySem.W.findIn K (.ref (He.ga K p.1)) f = some none)) &&
  (hs.all (fun q => clsN.zipIdx.all (fun k => decide (PySem.W.exmOne K (.ref (He.ga K k.1)) (.ref (He.ga K q.1)) = some (q.2.1.contains k.2))) && q.2.1.all fun k => decide (k < clsN.length) && q.2.2.2.all fun f => decide (PySem.W.findIn K (.ref (He.ga K (clsN.getD k default))) f = some none)) &&
  (decide ((tf.map fun p => (He.cT K p).2).Nodup) && cons.all (conT K))))
structure ExK (clsN : List Str) (iniN : List (Str × List Str)) (hs : List (Str × MH)) (tf : List He.Defn) (cons : List (Str × D)) (K : PySem.W.Frag) : Prop where
  ox : ∀ c ∈ clsN, OexC K (He.ga K c) ∧ XfC K (He.ga K c)
  no : ∀ p ∈ iniN, ∀ f ∈ p.2, PySem.W.findIn K (.ref (He.ga K p.1)) f = some none
  hd : ∀ q ∈ hs, (∀ k c, clsN[k]? = some c → PySem.W.exmOne K (.ref (He.ga K c)) (.ref (He.ga K q.1)) = some (q.2.1.contains k)) ∧ ∀ k ∈ q.2.1, k < clsN.length ∧ ∀ f ∈ q.2.2.2, PySem.W.findIn K (.ref (He.ga K (clsN.getD k default))) f = some none
  nd : (tf.map fun p => (He.cT K p).2).Nodup
  con : ∀ p ∈ cons, conT K p = true
theorem exK_ok {clsN : List Str} {iniN : List (Str × List Str)} {hs : List (Str × MH)} {tf : List He.Defn} {cons : List (Str × D)} {K : PySem.W.Frag} (h : exK clsN iniN hs tf cons K = true) : ExK clsN iniN hs tf cons K := by
  unfold exK at h
  simp only [Bool.and_eq_true, List.all_eq_true, decide_eq_true_eq] at h
  obtain ⟨h1, h2, h3, h4, h5⟩ := h
  refine ⟨fun c hc => ⟨oexB_ok (h1 c hc).1, xfB_ok (h1 c hc).2⟩, h2, fun q hq => ⟨fun k c hk => ?_, fun k hk => (h3 q hq).2 k hk⟩, h4, fun p hp => h5 p hp⟩
  exact (h3 q hq).1 (c, k) (List.mem_zipIdx_iff_getElem?.mpr hk)
section
variable {P : Program} {w : World} {K : PySem.W.Frag} {h : Heap} {mg : Str → Option Value} {base : Heap} {fa : List He.Fa} {fn : List He.DefD} {fnN clsN freeN : List Str} {gl : List (Str × GR)}
theorem gok_all (X : K.In h) (G : h.Ns mainGlobals mg) (c : He.SaysD fa fn K) (hfn : ∀ x ∈ fnN, He.Fa.glo x ∈ fa) (hcl : ∀ x ∈ clsN, He.Fa.glo x ∈ fa) (hfr : ∀ x ∈ freeN, He.Fa.free x ∈ fa) (hg : gl.all (nameB fnN clsN freeN) = true) (hc : ∀ x d, gl.lookup x = some (.con d) → conT K (x, d) = true) :
    ∀ x r, gl.lookup x = some r → GOk (gOf' P w K mg base fnN clsN) x r := fun x r e => by
  have m := List.all_eq_true.mp hg _ (look_mem e)
  unfold nameB at m
  cases r with
  | fn i =>
    have m : fnN[i]? = some x := of_decide_eq_true m
    show mg x = some (.ref (He.ga K (fnN.getD i default)))
    rw [List.getD_eq_getElem?_getD, m]
    exact He.glo_ok X G (c.facts (hfn x (List.mem_of_getElem? m)))
  | cls i =>
    have m : clsN[i]? = some x := of_decide_eq_true m
    show mg x = some (.ref (He.ga K (clsN.getD i default)))
    rw [List.getD_eq_getElem?_getD, m]
    exact He.glo_ok X G (c.facts (hcl x (List.mem_of_getElem? m)))
  | free => exact He.free_ok X G (c.facts (hfr x (List.contains_iff_mem.mp m)))
  | con d =>
    have z := hc x d e
    unfold conT at z
    split at z
    · next v q =>
      obtain ⟨a, b, s⟩ := conB_ok (g := gOf' P w K mg base fnN clsN) d z
      exact ⟨a, v, PySem.W.mg_of X G q, b, s⟩
    · cases z
theorem clsE_of {C : Str} {fs : List Str} {d : He.DefD} (c : He.SaysD fa fn K) (ox : OexC K (He.ga K C)) (hno : ∀ f ∈ fs, PySem.W.findIn K (.ref (He.ga K C)) f = some none) (hm : He.Fa.meth C "__init__" ∈ fa) (hd : d ∈ fn) (hat : d.at_ = (C, some ("__init__" : Str))) (hn : d.name = ("__init__" : Str)) (hdv : d.dvs K = []) (hkw : d.kws K = [])
    (hi : cIni fs d.scope d.body = true) (hb : ∀ (kV doc pm : Value) (an : Option Addr) (cdv ct : Value) (us : List Value), us.length = (("self" : Str) :: fs).length → bindArgs (PySem.W.fnOf d.name d.qual d.params d.body d.scope .none kV doc pm an cdv ct) ⟨us, []⟩ = pure ((("self" : Str) :: fs).zip us)) :
    ClsE P w K mg base 1 (He.ga K C) fs := by
  obtain ⟨fd, F⟩ := c.defs hd
  rw [hdv, hkw, hat] at F
  have B := F.bindsN (ps := ("self" : Str) :: fs) hb
  rw [hn] at F
  obtain ⟨m1, m2, _⟩ := He.meth_ok (c.facts hm)
  refine ⟨ox, ?_, _, fd, ("self" : Str) :: fs, m1, eq_of_beq m2, ini_ok ox hno F hi, B⟩
  unfold cIni at hi
  simp only [Bool.and_eq_true, decide_eq_true_eq] at hi
  omega
theorem hdOk_of {iniN : List (Str × List Str)} {hs : List (Str × MH)} {tf : List He.Defn} {cons : List (Str × D)} (E : ExK clsN iniN hs tf cons K) (X : K.In h) (G : h.Ns mainGlobals mg) (c : He.SaysD fa fn K) (hcl : ∀ x ∈ clsN, He.Fa.glo x ∈ fa) {N : List Str} {sc : Scope} {eh : ExceptHandler} {m : MH} {x n : Str} {cE i : Nat}
    (hq : (x, m) ∈ hs) (h1 : cHd eh = some (x, n, m.2.1, m.2.2)) (h2 : sc.names.lookup x = some .globalImplicit) (h3 : okName x = true) (h4 : clsN[cE]? = some x) (h5 : N[i]? = some n) (h6 : sc.names.lookup n = some .local) (h7 : okName n = true) (hf : m.2.2.length ≤ 100) :
    HdOk K mg (gOf' P w K mg base fnN clsN) N sc clsN.length eh m := by
  obtain ⟨a1, a2⟩ := E.hd _ hq
  have ca : ∀ k c, clsN[k]? = some c → clsN.getD k default = c := fun k c e => by rw [List.getD_eq_getElem?_getD, e]; rfl
  refine ⟨⟨x, n, cE, i, h1, h2, h3, ?_, h5, h6, h7, fun k hk => ?_⟩, fun k hk => (a2 k hk).1, fun k hk => ⟨?_, fun f hf => (a2 k hk).2 f hf⟩, hf⟩
  · show mg x = some (.ref (He.ga K (clsN.getD cE default)))
    rw [ca _ _ h4]
    exact He.glo_ok X G (c.facts (hcl x (List.mem_of_getElem? h4)))
  · show PySem.W.exmOne K (.ref (He.ga K (clsN.getD k default))) (.ref (He.ga K (clsN.getD cE default))) = _
    rw [ca _ _ h4, ca k _ (List.getElem?_eq_getElem hk)]
    exact a1 k _ (List.getElem?_eq_getElem hk)
  · show XfC K (He.ga K (clsN.getD k default))
    have hk2 := (a2 k hk).1
    rw [ca k _ (List.getElem?_eq_getElem hk2)]
    exact (E.ox _ (List.getElem_mem hk2)).2
theorem metOk_of {x a : Str} {nc : Nat} {hs : List MH} {d : He.DefD} {Ng : List Str} {hds : List ExceptHandler} {h₀ : ExceptHandler} {g : G} (c : He.SaysD fa fn K) (hd : d ∈ fn) (hat : d.at_ = (x, none)) (hn : d.name = x) (hq : d.qual = x) (hdv : d.dvs K = []) (hkw : d.kws K = [])
    (S : FnScope Ng [a] d.scope) (hN : Ng[0]? = some a) (hv : Vis d.scope a) (ha : okName a = true) (hb : (tryP d.body).map (fun z => (z.1, z.2.1)) = some (a, h₀ :: hds)) (hp : Paired (HdOk K mg g Ng d.scope nc) (h₀ :: hds) hs)
    (hbd : ∀ (kV doc pm : Value) (an : Option Addr) (cdv ct : Value) (us : List Value), us.length = [a].length → bindArgs (PySem.W.fnOf d.name d.qual d.params d.body d.scope .none kV doc pm an cdv ct) ⟨us, []⟩ = pure ([a].zip us)) :
    MetOk P w K mg g nc (He.ga K x) x hs := by
  obtain ⟨fd, F⟩ := c.defs hd
  rw [hdv, hkw, hat] at F
  have B := F.bindsN (ps := [a]) hbd
  rw [hn, hq] at F
  have kp := F.kp
  obtain ⟨oc, od, dV, kV, doc, pm, an, cdv, ct, osl, rfl, lk, hcd, hD, _⟩ := F.ex
  cases q : tryP d.body with
  | none => rw [q] at hb; cases hb
  | some z =>
    obtain ⟨z1, z2, p1, p2, p3, p4⟩ := z
    rw [q] at hb
    cases hb
    exact ⟨kp, oc, od, d.params, d.body, d.scope, dV, kV, doc, pm, an, cdv, ct, osl, Ng, _, hds, h₀, p1, p2, p3, p4, lk, hcd, B, S, hN, hv, ha, tryP_of q, hp⟩
end
end VM

set_option Elab.async false
set_option linter.all false
set_option maxRecDepth 100000
/-! LT: the tables of the law -/
namespace LW
open PySem L2 VM
abbrev prog := PySem.Challenge.pw_surehues_k96_whole_ties_by_turns
def fnN0 : List String := ["is_whole", "is_count", "need_count", "is_hueing", "pairs_of", "near_in", "orders_of", "longer_crowds", "crowds_in", "is_position", "need_position", "need_places", "has_crowd", "has_both", "need_game", "empty_position", "playing", "to_play", "free_in", "free_pairs", "need_free", "tied", "after_tie", "over_in", "is_over", "winner_in", "winner", "game_value", "best_in", "best_ties"]
def fnN1 : List String := ["form_number", "_law_pen", "_law_draw", "_law_pick", "_law_mixed", "_law_pairs", "_law_lots", "_law_has", "_law_turn", "_law_play", "_law_end", "_law_is_both", "_law_met", "_law_no_positions", "_law_ties_right", "_law_ends_right", "_law_errors_right", "law"]
def fnN : List PySem.Str := (fnN0 ++ fnN1).map PySem.Str.ofString
def clsN0 : List String := ["HueError", "BadNumber", "BadName", "BadHueing", "NotKept"]
def clsN : List PySem.Str := (clsN0).map PySem.Str.ofString
def freeN0 : List String := ["all", "bool", "dict", "enumerate", "int", "isinstance", "len", "list", "max", "min", "range", "repr", "sorted", "str", "tuple", "zip"]
def freeN : List PySem.Str := (freeN0).map PySem.Str.ofString
def gl0 : List (String × GR) := [("all", GR.free), ("bool", GR.free), ("dict", GR.free), ("enumerate", GR.free), ("int", GR.free), ("isinstance", GR.free), ("len", GR.free), ("list", GR.free), ("max", GR.free), ("min", GR.free), ("range", GR.free), ("repr", GR.free), ("sorted", GR.free), ("str", GR.free), ("tuple", GR.free), ("zip", GR.free)]
def gl1 : List (String × GR) := [("BadNumber", GR.cls 1), ("BadName", GR.cls 2), ("BadHueing", GR.cls 3), ("NotKept", GR.cls 4)]
def gl2 : List (String × GR) := [("RULES", GR.con (.tup [.str "make", .str "shun", .str "keep"]))]
def glf0 : List (String × GR) := [("is_whole", GR.fn 0), ("is_count", GR.fn 1), ("need_count", GR.fn 2), ("is_hueing", GR.fn 3), ("pairs_of", GR.fn 4), ("near_in", GR.fn 5), ("orders_of", GR.fn 6), ("longer_crowds", GR.fn 7), ("crowds_in", GR.fn 8), ("is_position", GR.fn 9), ("need_position", GR.fn 10), ("need_places", GR.fn 11), ("has_crowd", GR.fn 12), ("has_both", GR.fn 13), ("need_game", GR.fn 14), ("empty_position", GR.fn 15), ("playing", GR.fn 16), ("to_play", GR.fn 17), ("free_in", GR.fn 18), ("free_pairs", GR.fn 19), ("need_free", GR.fn 20), ("tied", GR.fn 21), ("after_tie", GR.fn 22), ("over_in", GR.fn 23), ("is_over", GR.fn 24), ("winner_in", GR.fn 25), ("winner", GR.fn 26), ("game_value", GR.fn 27), ("best_in", GR.fn 28), ("best_ties", GR.fn 29)]
def glf1 : List (String × GR) := [("form_number", GR.fn 30), ("_law_pen", GR.fn 31), ("_law_draw", GR.fn 32), ("_law_pick", GR.fn 33), ("_law_mixed", GR.fn 34), ("_law_pairs", GR.fn 35), ("_law_lots", GR.fn 36), ("_law_has", GR.fn 37), ("_law_turn", GR.fn 38), ("_law_play", GR.fn 39), ("_law_end", GR.fn 40), ("_law_is_both", GR.fn 41), ("_law_met", GR.fn 42), ("_law_no_positions", GR.fn 43), ("_law_ties_right", GR.fn 44), ("_law_ends_right", GR.fn 45), ("_law_errors_right", GR.fn 46), ("law", GR.fn 47)]
def gl : List (Str × GR) := (gl0 ++ gl1 ++ gl2 ++ glf0 ++ glf1).map fun p => (Str.ofString p.1, p.2)
def tk : List Nat := []
def ng : List Nat := [0, 1, 2, 3, 4, 5, 6, 7, 8, 9, 10, 11, 12, 13, 14, 15, 16, 17, 18, 19, 20, 21, 22, 23, 24, 25, 26, 27, 28, 29, 30, 31, 32, 33, 34, 35, 36, 37, 38, 39, 40, 41, 42, 43]
def mt : List (Nat × List (List Nat × Str × List Str)) := [(42, [([3], ("BadHueing" : Str), ["hueing"]), ([2], ("BadName" : Str), ["name"]), ([1], ("BadNumber" : Str), ["what", "number"]), ([4], ("NotKept" : Str), ["promise", "witness"])])]
def st (i : Nat) : Stmt := prog.main.body.getD i (.Pass ⟨0, 0, 0, 0⟩)
def fBody : Stmt → List Stmt | .FunctionDef _ _ b _ _ _ _ _ _ _ => b | _ => []
def fScope : Stmt → Scope | .FunctionDef _ _ _ _ _ _ sc _ _ _ => sc | _ => ⟨.function, [], false, false, []⟩
def fArgs : Stmt → Option Arguments | .FunctionDef _ a _ _ _ _ _ _ _ _ => some a | _ => none
def sc (i : Nat) (N : List Str) (s : Scope) (lm : Bool) : SC := ⟨N, s, gl, tk, ["pen"], !ng.contains i, ng, none, mt, lm⟩
def flds : Nat → List Str := fun k => (([[], ["what", "number"], ["name"], ["hueing"], ["promise", "witness"]] : List (List String)).getD k []).map Str.ofString
def exm : Nat → Nat → Bool := fun a b => a == b
def N0 : List Str := ["value"]
def sc0 : SC := sc 0 N0 (fScope (st 6)) false
def b0 : Option (List MS) := cBody sc0 (fBody (st 6))
def N1 : List Str := ["value"]
def sc1 : SC := sc 1 N1 (fScope (st 7)) false
def b1 : Option (List MS) := cBody sc1 (fBody (st 7))
def N2 : List Str := ["what", "value"]
def sc2 : SC := sc 2 N2 (fScope (st 8)) false
def b2 : Option (List MS) := cBody sc2 (fBody (st 8))
def N3 : List Str := ["value", "n", "k", "row", "hue"]
def sc3 : SC := sc 3 N3 (fScope (st 10)) false
def b3 : Option (List MS) := cBody sc3 (fBody (st 10))
def N4 : List Str := ["n", "one", "two"]
def sc4 : SC := sc 4 N4 (fScope (st 11)) false
def b4 : Option (List MS) := cBody sc4 (fBody (st 11))
def N5 : List Str := ["hueing", "hue", "found", "place", "one", "two", "here", "row"]
def sc5 : SC := sc 5 N5 (fScope (st 12)) false
def b5 : Option (List MS) := cBody sc5 (fBody (st 12))
def N6 : List Str := ["n", "found", "lap", "row", "place"]
def sc6 : SC := sc 6 N6 (fScope (st 13)) false
def b6 : Option (List MS) := cBody sc6 (fBody (st 13))
def N7 : List Str := ["near", "found", "longer", "lot", "begin", "two", "one"]
def sc7 : SC := sc 7 N7 (fScope (st 15)) false
def b7 : Option (List MS) := cBody sc7 (fBody (st 15))
def N8 : List Str := ["near", "many", "found", "lap"]
def sc8 : SC := sc 8 N8 (fScope (st 16)) false
def b8 : Option (List MS) := cBody sc8 (fBody (st 16))
def N9 : List Str := ["value"]
def sc9 : SC := sc 9 N9 (fScope (st 19)) false
def b9 : Option (List MS) := cBody sc9 (fBody (st 19))
def N10 : List Str := ["position"]
def sc10 : SC := sc 10 N10 (fScope (st 20)) false
def b10 : Option (List MS) := cBody sc10 (fBody (st 20))
def N11 : List Str := ["m"]
def sc11 : SC := sc 11 N11 (fScope (st 21)) false
def b11 : Option (List MS) := cBody sc11 (fBody (st 21))
def N12 : List Str := ["position", "hue", "m"]
def sc12 : SC := sc 12 N12 (fScope (st 22)) false
def b12 : Option (List MS) := cBody sc12 (fBody (st 22))
def N13 : List Str := ["position", "rule", "m"]
def sc13 : SC := sc 13 N13 (fScope (st 23)) false
def b13 : Option (List MS) := cBody sc13 (fBody (st 23))
def N14 : List Str := ["position", "rule", "m"]
def sc14 : SC := sc 14 N14 (fScope (st 24)) false
def b14 : Option (List MS) := cBody sc14 (fBody (st 24))
def N15 : List Str := ["n"]
def sc15 : SC := sc 15 N15 (fScope (st 25)) false
def b15 : Option (List MS) := cBody sc15 (fBody (st 25))
def N16 : List Str := ["position"]
def sc16 : SC := sc 16 N16 (fScope (st 26)) false
def b16 : Option (List MS) := cBody sc16 (fBody (st 26))
def N17 : List Str := ["position"]
def sc17 : SC := sc 17 N17 (fScope (st 27)) false
def b17 : Option (List MS) := cBody sc17 (fBody (st 27))
def N18 : List Str := ["position", "pair", "hue"]
def sc18 : SC := sc 18 N18 (fScope (st 28)) false
def b18 : Option (List MS) := cBody sc18 (fBody (st 28))
def N19 : List Str := ["position"]
def sc19 : SC := sc 19 N19 (fScope (st 29)) false
def b19 : Option (List MS) := cBody sc19 (fBody (st 29))
def N20 : List Str := ["position", "pair", "place"]
def sc20 : SC := sc 20 N20 (fScope (st 30)) false
def b20 : Option (List MS) := cBody sc20 (fBody (st 30))
def N21 : List Str := ["position", "pair", "hue", "pairs", "other", "old"]
def sc21 : SC := sc 21 N21 (fScope (st 31)) false
def b21 : Option (List MS) := cBody sc21 (fBody (st 31))
def N22 : List Str := ["position", "pair"]
def sc22 : SC := sc 22 N22 (fScope (st 32)) false
def b22 : Option (List MS) := cBody sc22 (fBody (st 32))
def N23 : List Str := ["position", "rule", "m"]
def sc23 : SC := sc 23 N23 (fScope (st 33)) false
def b23 : Option (List MS) := cBody sc23 (fBody (st 33))
def N24 : List Str := ["position", "rule", "m"]
def sc24 : SC := sc 24 N24 (fScope (st 34)) false
def b24 : Option (List MS) := cBody sc24 (fBody (st 34))
def N25 : List Str := ["position", "rule", "m", "hue"]
def sc25 : SC := sc 25 N25 (fScope (st 35)) false
def b25 : Option (List MS) := cBody sc25 (fBody (st 35))
def N26 : List Str := ["position", "rule", "m"]
def sc26 : SC := sc 26 N26 (fScope (st 36)) false
def b26 : Option (List MS) := cBody sc26 (fBody (st 36))
def N27 : List Str := ["position", "rule", "m", "game"]
def sc27 : SC := sc 27 N27 (fScope (st 38)) false
def b27 : Option (List MS) := cBody sc27 (fBody (st 38))
def N28 : List Str := ["game", "position", "want", "pair"]
def sc28 : SC := sc 28 N28 (fScope (st 39)) false
def b28 : Option (List MS) := cBody sc28 (fBody (st 39))
def N29 : List Str := ["position", "rule", "m"]
def sc29 : SC := sc 29 N29 (fScope (st 40)) false
def b29 : Option (List MS) := cBody sc29 (fBody (st 40))
def N30 : List Str := ["position", "rule", "m"]
def sc30 : SC := sc 30 N30 (fScope (st 41)) false
def b30 : Option (List MS) := cBody sc30 (fBody (st 41))
def N31 : List Str := ["script", "fold", "cell"]
def sc31 : SC := sc 31 N31 (fScope (st 43)) false
def b31 : Option (List MS) := cBody sc31 (fBody (st 43))
def N32 : List Str := ["pen", "many", "cell", "digit", "blend"]
def sc32 : SC := sc 32 N32 (fScope (st 44)) false
def b32 : Option (List MS) := cBody sc32 (fBody (st 44))
def N33 : List Str := ["pen", "some"]
def sc33 : SC := sc 33 N33 (fScope (st 45)) false
def b33 : Option (List MS) := cBody sc33 (fBody (st 45))
def N34 : List Str := ["pen", "some", "left", "found", "k"]
def sc34 : SC := sc 34 N34 (fScope (st 46)) false
def b34 : Option (List MS) := cBody sc34 (fBody (st 46))
def N35 : List Str := ["n", "found", "one", "two"]
def sc35 : SC := sc 35 N35 (fScope (st 47)) false
def b35 : Option (List MS) := cBody sc35 (fBody (st 47))
def N36 : List Str := ["n", "many", "found", "place", "lot", "lots", "one", "two"]
def sc36 : SC := sc 36 N36 (fScope (st 48)) false
def b36 : Option (List MS) := cBody sc36 (fBody (st 48))
def N37 : List Str := ["row", "pairs", "lots", "hue", "place", "k", "pair", "lot", "own"]
def sc37 : SC := sc 37 N37 (fScope (st 49)) false
def b37 : Option (List MS) := cBody sc37 (fBody (st 49))
def N38 : List Str := ["row", "hue"]
def sc38 : SC := sc 38 N38 (fScope (st 50)) false
def b38 : Option (List MS) := cBody sc38 (fBody (st 50))
def N39 : List Str := ["pen", "n", "many", "row", "lap", "place"]
def sc39 : SC := sc 39 N39 (fScope (st 51)) false
def b39 : Option (List MS) := cBody sc39 (fBody (st 51))
def N40 : List Str := ["row", "n", "rule", "m", "pairs", "lots", "first", "second", "hue"]
def sc40 : SC := sc 40 N40 (fScope (st 52)) false
def b40 : Option (List MS) := cBody sc40 (fBody (st 52))
def N41 : List Str := ["row", "n", "rule", "m", "pairs", "lots"]
def sc41 : SC := sc 41 N41 (fScope (st 53)) false
def b41 : Option (List MS) := cBody sc41 (fBody (st 53))
def N42 : List Str := ["call", "e"]
def sc42 : SC := sc 42 N42 (fScope (st 54)) false
def b42 : Option (List MS) := cBody sc42 (fBody (st 54))
def N43 : List Str := ["some"]
def sc43 : SC := sc 43 N43 (fScope (st 55)) false
def b43 : Option (List MS) := cBody sc43 (fBody (st 55))
def N44 : List Str := ["pen", "n", "row", "position", "pairs", "free", "hue", "pair", "here", "told", "due", "other", "old", "taken", "odds", "odd"]
def sc44 : SC := sc 44 N44 (fScope (st 56)) true
def b44 : Option (List MS) := cBody sc44 (fBody (st 56))
def N45 : List Str := ["n", "row", "m", "rule", "position", "end", "told", "due"]
def sc45 : SC := sc 45 N45 (fScope (st 57)) true
def b45 : Option (List MS) := cBody sc45 (fBody (st 57))
def N46 : List Str := ["pen", "n", "row", "position", "both", "odd", "met", "call", "small"]
def sc46 : SC := sc 46 N46 (fScope (st 58)) true
def b46 : Option (List MS) := cBody sc46 (fBody (st 58))
def N47 : List Str := ["script", "pen", "lap", "n", "row"]
def sc47 : SC := sc 47 N47 (fScope (st 59)) false
def b47 : Option (List MS) := cBody sc47 (fBody (st 59))
end LW

set_option Elab.async false
set_option linter.all false
set_option maxRecDepth 100000
set_option maxHeartbeats 0
/-! LB: the defs as the evaluator has them -/
namespace LW
open PySem L2 VM
/-- is_whole -/
def B0 : List MS := [.ret (.and (.isi (.slot 0) .int) (.not (.isi (.slot 0) .bool)))]
theorem b0_eq : b0 = some B0 := by kernel_rfl
/-- is_count -/
def B1 : List MS := [.ret (.and (.call 0 [(.slot 0)]) (.cmp .GtE (.slot 0) (.const (.int 0))))]
theorem b1_eq : b1 = some B1 := by kernel_rfl
/-- need_count -/
def B2 : List MS := [.ife (.not (.call 1 [(.slot 1)])) [.raise 1 [(.slot 0), (.slot 1)]] []]
theorem b2_eq : b2 = some B2 := by kernel_rfl
/-- is_hueing -/
def B3 : List MS := [.ife (.or (.not (.isi (.slot 0) .tuple)) (.or (.cmp .NotEq (.bi .len [(.slot 0)]) (.const (.int 3))) (.or (.not (.call 1 [(.idx (.slot 0) (.const (.int 0)))])) (.not (.call 1 [(.idx (.slot 0) (.const (.int 1)))]))))) [.ret (.const (.bl false))] [], .asg (.tp [(.nm 1), (.nm 2), (.nm 3)]) (.slot 0), .ife (.or (.not (.isi (.slot 3) .tuple)) (.cmp .NotEq (.bi .len [(.slot 3)]) (.bin .FloorDiv (.bin .Mult (.slot 1) (.bin .Sub (.slot 1) (.const (.int 1)))) (.const (.int 2))))) [.ret (.const (.bl false))] [], .ret (.bi .all [(.lc (.and (.call 1 [(.slot 4)]) (.cmp .Lt (.slot 4) (.slot 2))) (.nm 4) (.seq (.slot 3)) [] [4])])]
theorem b3_eq : b3 = some B3 := by kernel_rfl
/-- pairs_of -/
def B4 : List MS := [.ret (.lc2 (.tup [(.slot 1), (.slot 2)]) (.nm 1) (.rng1 (.slot 0)) [] (.nm 2) (.rng2 (.bin .Add (.slot 1) (.const (.int 1))) (.slot 0)) [] [1, 2] [2])]
theorem b4_eq : b4 = some B4 := by kernel_rfl
/-- near_in -/
def B5 : List MS := [.asg (.nm 2) (.lc (.alc (.lst [])) (.nm 3) (.rng1 (.idx (.slot 0) (.const (.int 0)))) [] [3]), .for (.tp [(.tp [(.nm 4), (.nm 5)]), (.nm 6)]) (.zip (.call 4 [(.idx (.slot 0) (.const (.int 0)))]) (.idx (.slot 0) (.const (.int 2)))) [.ife (.cmp .Eq (.slot 6) (.slot 1)) [.expr (.meth .append (.idx (.slot 2) (.slot 4)) [(.slot 5)]), .expr (.meth .append (.idx (.slot 2) (.slot 5)) [(.slot 4)])] []], .ret (.lc (.bi .sorted [(.slot 7)]) (.nm 7) (.seq (.slot 2)) [] [7])]
theorem b5_eq : b5 = some B5 := by kernel_rfl
/-- orders_of -/
def B6 : List MS := [.asg (.nm 1) (.lst [(.tup [])]), .for (.nm 2) (.rng1 (.slot 0)) [.asg (.nm 1) (.lc2 (.bin .Add (.slot 3) (.tup [(.slot 4)])) (.nm 3) (.seq (.slot 1)) [] (.nm 4) (.rng1 (.slot 0)) [(.cmp .NotIn (.slot 4) (.slot 3))] [3, 4] [4])], .ret (.slot 1)]
theorem b6_eq : b6 = some B6 := by kernel_rfl
/-- longer_crowds -/
def B7 : List MS := [.asg (.nm 2) (.lst []), .for (.nm 3) (.seq (.slot 1)) [.asg (.nm 4) (.ife (.slot 3) (.bin .Add (.idx (.slot 3) (.neg (.const (.int 1)))) (.const (.int 1))) (.const (.int 0))), .expr (.meth .extend (.slot 2) [(.lc (.bin .Add (.slot 3) (.tup [(.slot 5)])) (.nm 5) (.rng2 (.slot 4) (.bi .len [(.slot 0)])) [(.bi .all [(.lc (.cmp .In (.slot 5) (.idx (.slot 0) (.slot 6))) (.nm 6) (.seq (.slot 3)) [] [6])])] [5])])], .ret (.slot 2)]
theorem b7_eq : b7 = some B7 := by kernel_rfl
/-- crowds_in -/
def B8 : List MS := [.asg (.nm 2) (.lst [(.tup [])]), .for (.nm 3) (.rng1 (.slot 1)) [.asg (.nm 2) (.call 7 [(.slot 0), (.slot 2)])], .ret (.slot 2)]
theorem b8_eq : b8 = some B8 := by kernel_rfl
/-- is_position -/
def B9 : List MS := [.ife (.or (.not (.call 3 [(.slot 0)])) (.cmp .NotEq (.idx (.slot 0) (.const (.int 1))) (.const (.int 3)))) [.ret (.const (.bl false))] [], .ret (.cmp .In (.bin .Sub (.lm .count (.idx (.slot 0) (.const (.int 2))) [(.const (.int 0))]) (.lm .count (.idx (.slot 0) (.const (.int 2))) [(.const (.int 1))])) (.tup [(.const (.int 0)), (.const (.int 1))]))]
theorem b9_eq : b9 = some B9 := by kernel_rfl
/-- need_position -/
def B10 : List MS := [.ife (.not (.call 9 [(.slot 0)])) [.raise 3 [(.slot 0)]] []]
theorem b10_eq : b10 = some B10 := by kernel_rfl
/-- need_places -/
def B11 : List MS := [.ife (.or (.not (.call 1 [(.slot 0)])) (.cmp .Lt (.slot 0) (.const (.int 2)))) [.raise 1 [(.const (.str ⟨#[109]⟩)), (.slot 0)]] []]
theorem b11_eq : b11 = some B11 := by kernel_rfl
/-- has_crowd -/
def B12 : List MS := [.ret (.cmp .Gt (.bi .len [(.call 8 [(.call 5 [(.slot 0), (.slot 1)]), (.slot 2)])]) (.const (.int 0)))]
theorem b12_eq : b12 = some B12 := by kernel_rfl
/-- has_both -/
def B13 : List MS := [.ret (.and (.cmp .NotEq (.slot 1) (.const (.str ⟨#[107, 101, 101, 112]⟩))) (.and (.call 12 [(.slot 0), (.const (.int 0)), (.slot 2)]) (.call 12 [(.slot 0), (.const (.int 1)), (.slot 2)])))]
theorem b13_eq : b13 = some B13 := by kernel_rfl
/-- need_game -/
def B14 : List MS := [.expr (.call 10 [(.slot 0)]), .expr (.call 11 [(.slot 2)]), .ife (.or (.not (.isi (.slot 1) .str)) (.cmp .NotIn (.slot 1) (.const (.tup [(.str ⟨#[109, 97, 107, 101]⟩), (.str ⟨#[115, 104, 117, 110]⟩), (.str ⟨#[107, 101, 101, 112]⟩)])))) [.raise 2 [(.slot 1)]] [], .ife (.call 13 [(.slot 0), (.slot 1), (.slot 2)]) [.raise 4 [(.const (.str ⟨#[98, 111, 116, 104]⟩)), (.slot 2)]] []]
theorem b14_eq : b14 = some B14 := by kernel_rfl
/-- empty_position -/
def B15 : List MS := [.expr (.call 2 [(.const (.str ⟨#[112, 108, 97, 99, 101, 115]⟩)), (.slot 0)]), .ret (.tup [(.slot 0), (.const (.int 3)), (.bin .Mult (.tup [(.const (.int 2))]) (.bin .FloorDiv (.bin .Mult (.slot 0) (.bin .Sub (.slot 0) (.const (.int 1)))) (.const (.int 2))))])]
theorem b15_eq : b15 = some B15 := by kernel_rfl
/-- playing -/
def B16 : List MS := [.ret (.bin .Sub (.lm .count (.idx (.slot 0) (.const (.int 2))) [(.const (.int 0))]) (.lm .count (.idx (.slot 0) (.const (.int 2))) [(.const (.int 1))]))]
theorem b16_eq : b16 = some B16 := by kernel_rfl
/-- to_play -/
def B17 : List MS := [.expr (.call 10 [(.slot 0)]), .ret (.ife (.cmp .In (.const (.int 2)) (.idx (.slot 0) (.const (.int 2)))) (.call 16 [(.slot 0)]) (.const .non))]
theorem b17_eq : b17 = some B17 := by kernel_rfl
/-- free_in -/
def B18 : List MS := [.ret (.lc (.slot 1) (.tp [(.nm 1), (.nm 2)]) (.zip (.call 4 [(.idx (.slot 0) (.const (.int 0)))]) (.idx (.slot 0) (.const (.int 2)))) [(.cmp .Eq (.slot 2) (.const (.int 2)))] [1, 2])]
theorem b18_eq : b18 = some B18 := by kernel_rfl
/-- free_pairs -/
def B19 : List MS := [.expr (.call 10 [(.slot 0)]), .ret (.bi .tuple1 [(.call 18 [(.slot 0)])])]
theorem b19_eq : b19 = some B19 := by kernel_rfl
/-- need_free -/
def B20 : List MS := [.expr (.call 10 [(.slot 0)]), .ife (.or (.not (.isi (.slot 1) .tuple)) (.or (.not (.bi .all [(.lc (.call 1 [(.slot 2)]) (.nm 2) (.seq (.slot 1)) [] [2])])) (.cmp .NotIn (.slot 1) (.call 18 [(.slot 0)])))) [.raise 4 [(.const (.str ⟨#[102, 114, 101, 101]⟩)), (.slot 1)]] []]
theorem b20_eq : b20 = some B20 := by kernel_rfl
/-- tied -/
def B21 : List MS := [.par [2, 3] [(.call 16 [(.slot 0)]), (.call 4 [(.idx (.slot 0) (.const (.int 0)))])], .ret (.tup [(.idx (.slot 0) (.const (.int 0))), (.const (.int 3)), (.bi .tuple1 [(.lc (.ife (.cmp .Eq (.slot 4) (.slot 1)) (.slot 2) (.slot 5)) (.tp [(.nm 4), (.nm 5)]) (.zip (.slot 3) (.idx (.slot 0) (.const (.int 2)))) [] [4, 5])])])]
theorem b21_eq : b21 = some B21 := by kernel_rfl
/-- after_tie -/
def B22 : List MS := [.expr (.call 20 [(.slot 0), (.slot 1)]), .ret (.call 21 [(.slot 0), (.slot 1)])]
theorem b22_eq : b22 = some B22 := by kernel_rfl
/-- over_in -/
def B23 : List MS := [.ife (.or (.cmp .NotIn (.const (.int 2)) (.idx (.slot 0) (.const (.int 2)))) (.call 12 [(.slot 0), (.const (.int 0)), (.slot 2)])) [.ret (.const (.bl true))] [], .ret (.and (.cmp .NotEq (.slot 1) (.const (.str ⟨#[107, 101, 101, 112]⟩))) (.call 12 [(.slot 0), (.const (.int 1)), (.slot 2)]))]
theorem b23_eq : b23 = some B23 := by kernel_rfl
/-- is_over -/
def B24 : List MS := [.expr (.call 14 [(.slot 0), (.slot 1), (.slot 2)]), .ret (.call 23 [(.slot 0), (.slot 1), (.slot 2)])]
theorem b24_eq : b24 = some B24 := by kernel_rfl
/-- winner_in -/
def B25 : List MS := [.ife (.cmp .Eq (.slot 1) (.const (.str ⟨#[107, 101, 101, 112]⟩))) [.ret (.ife (.call 12 [(.slot 0), (.const (.int 0)), (.slot 2)]) (.const (.int 0)) (.const (.int 1)))] [], .for (.nm 3) (.seq (.tup [(.const (.int 0)), (.const (.int 1))])) [.ife (.call 12 [(.slot 0), (.slot 3), (.slot 2)]) [.ret (.ife (.cmp .Eq (.slot 1) (.const (.str ⟨#[109, 97, 107, 101]⟩))) (.slot 3) (.bin .Sub (.const (.int 1)) (.slot 3)))] []], .ret (.const .non)]
theorem b25_eq : b25 = some B25 := by kernel_rfl
/-- winner -/
def B26 : List MS := [.expr (.call 14 [(.slot 0), (.slot 1), (.slot 2)]), .ife (.not (.call 23 [(.slot 0), (.slot 1), (.slot 2)])) [.raise 4 [(.const (.str ⟨#[111, 118, 101, 114]⟩)), (.call 16 [(.slot 0)])]] [], .ret (.call 25 [(.slot 0), (.slot 1), (.slot 2)])]
theorem b26_eq : b26 = some B26 := by kernel_rfl
/-- game_value -/
def B27 : List MS := [.expr (.call 14 [(.slot 0), (.slot 1), (.slot 2)]), .bad, .bad]
theorem b27_eq : b27 = some B27 := by kernel_rfl
/-- best_in -/
def B28 : List MS := [.bad, .bad, .bad]
theorem b28_eq : b28 = some B28 := by kernel_rfl
/-- best_ties -/
def B29 : List MS := [.expr (.call 14 [(.slot 0), (.slot 1), (.slot 2)]), .bad]
theorem b29_eq : b29 = some B29 := by kernel_rfl
/-- form_number -/
def B30 : List MS := [.expr (.call 14 [(.slot 0), (.slot 1), (.slot 2)]), .bad]
theorem b30_eq : b30 = some B30 := by kernel_rfl
/-- _law_pen -/
def B31 : List MS := [.asg (.nm 1) (.const (.int 0)), .for (.nm 2) (.seq (.slot 0)) [.asg (.nm 1) (.bin .Mod (.bi .int1 [(.bin .Add (.bin .Mult (.slot 1) (.const (.int 67))) (.slot 2))]) (.const (.int 1000000087)))], .ret (.disp [⟨#[99, 101, 108, 108, 115]⟩, ⟨#[97, 116]⟩, ⟨#[100, 105, 103, 105, 116, 115]⟩, ⟨#[99, 111, 117, 110, 116]⟩, ⟨#[102, 111, 108, 100]⟩] [(.bi .list1 [(.slot 0)]), (.const (.int 0)), (.const (.int 0)), (.const (.int 0)), (.slot 1)])]
theorem b31_eq : b31 = some B31 := by kernel_rfl
/-- _law_draw -/
def B32 : List MS := [.setI (.slot 0) (.const (.str ⟨#[99, 111, 117, 110, 116]⟩)) (.bin .Add (.idx (.slot 0) (.const (.str ⟨#[99, 111, 117, 110, 116]⟩))) (.const (.int 1))), .ife (.and (.cmp .Eq (.idx (.slot 0) (.const (.str ⟨#[100, 105, 103, 105, 116, 115]⟩))) (.const (.int 0))) (.cmp .Lt (.idx (.slot 0) (.const (.str ⟨#[97, 116]⟩))) (.bi .len [(.idx (.slot 0) (.const (.str ⟨#[99, 101, 108, 108, 115]⟩)))]))) [.asg (.nm 2) (.idx (.idx (.slot 0) (.const (.str ⟨#[99, 101, 108, 108, 115]⟩))) (.idx (.slot 0) (.const (.str ⟨#[97, 116]⟩)))), .setI (.slot 0) (.const (.str ⟨#[97, 116]⟩)) (.bin .Add (.idx (.slot 0) (.const (.str ⟨#[97, 116]⟩))) (.const (.int 1))), .ife (.cmp .GtE (.slot 2) (.bin .Pow (.const (.int 10)) (.const (.int 18)))) [.setI (.slot 0) (.const (.str ⟨#[100, 105, 103, 105, 116, 115]⟩)) (.bin .Sub (.slot 2) (.bin .Pow (.const (.int 10)) (.const (.int 18))))] [.setI (.slot 0) (.const (.str ⟨#[102, 111, 108, 100]⟩)) (.bin .Mod (.bi .int1 [(.bin .Add (.bin .Mult (.idx (.slot 0) (.const (.str ⟨#[102, 111, 108, 100]⟩))) (.const (.int 65539))) (.slot 2))]) (.const (.int 2147483549)))]] [], .ife (.cmp .Gt (.idx (.slot 0) (.const (.str ⟨#[100, 105, 103, 105, 116, 115]⟩))) (.const (.int 0))) [.asg (.nm 3) (.bin .Mod (.bi .int1 [(.idx (.slot 0) (.const (.str ⟨#[100, 105, 103, 105, 116, 115]⟩)))]) (.slot 1)), .setI (.slot 0) (.const (.str ⟨#[100, 105, 103, 105, 116, 115]⟩)) (.bin .FloorDiv (.idx (.slot 0) (.const (.str ⟨#[100, 105, 103, 105, 116, 115]⟩))) (.slot 1)), .ret (.slot 3)] [], .asg (.nm 4) (.bin .Add (.bin .Add (.idx (.slot 0) (.const (.str ⟨#[102, 111, 108, 100]⟩))) (.bin .Mult (.idx (.slot 0) (.const (.str ⟨#[99, 111, 117, 110, 116]⟩))) (.const (.int 8311)))) (.const (.int 43))), .ret (.bin .Mod (.bin .FloorDiv (.bi .int1 [(.bin .Mod (.bin .Pow (.slot 4) (.const (.int 13))) (.const (.int 2305843009213693951)))]) (.const (.int 256))) (.slot 1))]
theorem b32_eq : b32 = some B32 := by kernel_rfl
/-- _law_pick -/
def B33 : List MS := [.ret (.idx (.slot 1) (.call 32 [(.brw 0), (.bi .len [(.slot 1)])]))]
theorem b33_eq : b33 = some B33 := by kernel_rfl
/-- _law_mixed -/
def B34 : List MS := [.par [2, 3] [(.bi .list1 [(.slot 1)]), (.lst [])], .for (.nm 4) (.rng1 (.bi .len [(.slot 1)])) [.expr (.meth .append (.slot 3) [(.meth .pop1 (.slot 2) [(.call 32 [(.brw 0), (.bi .len [(.slot 2)])])])])], .ret (.slot 3)]
theorem b34_eq : b34 = some B34 := by kernel_rfl
/-- _law_pairs -/
def B35 : List MS := [.asg (.nm 1) (.lst []), .for (.nm 2) (.rng1 (.slot 0)) [.asg (.nm 1) (.bin .Add (.slot 1) (.lc (.tup [(.slot 2), (.slot 3)]) (.nm 3) (.rng2 (.bin .Add (.slot 2) (.const (.int 1))) (.slot 0)) [] [3]))], .ret (.slot 1)]
theorem b35_eq : b35 = some B35 := by kernel_rfl
/-- _law_lots -/
def B36 : List MS := [.asg (.nm 2) (.lst [(.tup [])]), .for (.nm 3) (.rng1 (.slot 0)) [.asg (.nm 2) (.bin .Add (.slot 2) (.lc (.bin .Add (.slot 4) (.tup [(.slot 3)])) (.nm 4) (.seq (.slot 2)) [] [4]))], .asg (.nm 5) (.bi .sorted [(.lc (.slot 4) (.nm 4) (.seq (.slot 2)) [(.cmp .Eq (.bi .len [(.slot 4)]) (.slot 1))] [4])]), .ret (.lc (.tup [(.slot 4), (.lc (.tup [(.idx (.slot 4) (.slot 6)), (.idx (.slot 4) (.slot 7))]) (.tp [(.nm 6), (.nm 7)]) (.seq (.call 35 [(.slot 1)])) [] [6, 7])]) (.nm 4) (.seq (.slot 5)) [] [4])]
theorem b36_eq : b36 = some B36 := by kernel_rfl
/-- _law_has -/
def B37 : List MS := [.asg (.nm 4) (.bi .dict1 [(.lc (.tup [(.slot 6), (.slot 5)]) (.tp [(.nm 5), (.nm 6)]) (.enum (.slot 1)) [] [5, 6])]), .ret (.cmp .NotEq (.lc (.const (.int 1)) (.tp [(.nm 7), (.nm 8)]) (.seq (.slot 2)) [(.cmp .Eq (.lc (.slot 6) (.nm 6) (.seq (.slot 8)) [(.cmp .NotEq (.idx (.slot 0) (.idx (.slot 4) (.slot 6))) (.slot 3))] [6]) (.lst []))] [7, 8]) (.lst []))]
theorem b37_eq : b37 = some B37 := by kernel_rfl
/-- _law_turn -/
def B38 : List MS := [.ret (.bin .Sub (.bi .len [(.lc (.slot 1) (.nm 1) (.seq (.slot 0)) [(.cmp .Eq (.slot 1) (.const (.int 0)))] [1])]) (.bi .len [(.lc (.slot 1) (.nm 1) (.seq (.slot 0)) [(.cmp .Eq (.slot 1) (.const (.int 1)))] [1])]))]
theorem b38_eq : b38 = some B38 := by kernel_rfl
/-- _law_play -/
def B39 : List MS := [.asg (.nm 3) (.bin .Mult (.lst [(.const (.int 2))]) (.bi .len [(.call 35 [(.slot 1)])])), .for (.tp [(.nm 4), (.nm 5)]) (.enum (.slc (.call 34 [(.brw 0), (.bi .listR [(.bi .len [(.slot 3)])])]) none (some (.slot 2)))) [.setI (.slot 3) (.slot 5) (.bin .Mod (.bi .int1 [(.slot 4)]) (.const (.int 2)))], .ret (.bi .tuple1 [(.slot 3)])]
theorem b39_eq : b39 = some B39 := by kernel_rfl
/-- _law_end -/
def B40 : List MS := [.par [4, 5] [(.call 35 [(.slot 1)]), (.call 36 [(.slot 1), (.slot 3)])], .par [6, 7] [(.call 37 [(.slot 0), (.slot 4), (.slot 5), (.const (.int 0))]), (.call 37 [(.slot 0), (.slot 4), (.slot 5), (.const (.int 1))])], .ife (.cmp .Eq (.slot 2) (.const (.str ⟨#[107, 101, 101, 112]⟩))) [.ife (.or (.slot 6) (.cmp .NotIn (.const (.int 2)) (.slot 0))) [.ret (.lst [(.ife (.slot 6) (.const (.int 0)) (.const (.int 1)))])] [], .ret (.const .non)] [], .ife (.or (.slot 6) (.slot 7)) [.asg (.nm 8) (.ife (.slot 6) (.const (.int 0)) (.const (.int 1))), .ret (.lst [(.ife (.cmp .Eq (.slot 2) (.const (.str ⟨#[109, 97, 107, 101]⟩))) (.slot 8) (.bin .Sub (.const (.int 1)) (.slot 8)))])] [], .ret (.ife (.cmp .NotIn (.const (.int 2)) (.slot 0)) (.lst [(.const .non)]) (.const .non))]
theorem b40_eq : b40 = some B40 := by kernel_rfl
/-- _law_is_both -/
def B41 : List MS := [.par [4, 5] [(.call 35 [(.slot 1)]), (.call 36 [(.slot 1), (.slot 3)])], .ret (.and (.cmp .NotEq (.slot 2) (.const (.str ⟨#[107, 101, 101, 112]⟩))) (.and (.call 37 [(.slot 0), (.slot 4), (.slot 5), (.const (.int 0))]) (.call 37 [(.slot 0), (.slot 4), (.slot 5), (.const (.int 1))])))]
theorem b41_eq : b41 = some B41 := by kernel_rfl
/-- _law_no_positions -/
def B43 : List MS := [.asg (.nm 0) (.lst [(.const .non), (.lst [(.const (.int 2)), (.const (.int 3)), (.tup [(.const (.int 2))])]), (.tup [(.const (.int 2)), (.const (.int 3))]), (.tup [(.const (.int 2)), (.const (.int 3)), (.tup [])]), (.tup [(.const (.int 2)), (.const (.int 3)), (.tup [(.const (.int 3))])]), (.tup [(.const (.int 2)), (.const (.int 2)), (.tup [(.const (.int 0))])]), (.tup [(.const (.int 2)), (.const (.int 4)), (.tup [(.const (.int 2))])]), (.tup [(.const (.int 2)), (.const (.int 3)), (.tup [(.const (.int 1))])]), (.tup [(.const (.int 2)), (.const (.int 3)), (.lst [(.const (.int 2))])])]), .asg (.nm 0) (.bin .Add (.slot 0) (.lst [(.tup [(.const (.int 3)), (.const (.int 3)), (.tup [(.const (.int 0)), (.const (.int 0)), (.const (.int 2))])]), (.tup [(.const (.int 3)), (.const (.int 3)), (.tup [(.const (.int 1)), (.const (.int 1)), (.const (.int 0))])]), (.tup [(.const (.int 3)), (.const (.int 3)), (.tup [(.const (.int 0)), (.const (.int 1)), (.const (.int 1))])]), (.tup [(.const (.int 3)), (.const (.int 3)), (.tup [(.const (.int 0)), (.const (.int 0)), (.const (.int 0))])])])), .ret (.bin .Add (.slot 0) (.lst [(.tup [(.const (.bl true)), (.const (.int 3)), (.tup [])]), (.tup [(.const (.int 2)), (.const (.int 3)), (.tup [(.const (.bl true))])])]))]
theorem b43_eq : b43 = some B43 := by kernel_rfl
/-- _law_ties_right -/
def B44 : List MS := [.par [3, 4] [(.tup [(.slot 1), (.const (.int 3)), (.slot 2)]), (.call 35 [(.slot 1)])], .par [5, 6] [(.lc (.slot 7) (.tp [(.nm 7), (.nm 8)]) (.zip (.slot 4) (.slot 2)) [(.cmp .Eq (.slot 8) (.const (.int 2)))] [7, 8]), (.call 38 [(.slot 2)])], .asg (.nm 9) (.lst [(.call 9 [(.slot 3)]), (.call 17 [(.slot 3)]), (.call 19 [(.slot 3)]), (.call 15 [(.slot 1)])]), .ife (.cmp .NotEq (.bi .repr [(.slot 9)]) (.bi .repr [(.lst [(.const (.bl true)), (.ife (.cmp .NotEq (.slot 5) (.lst [])) (.slot 6) (.const .non)), (.bi .tuple1 [(.slot 5)]), (.tup [(.slot 1), (.const (.int 3)), (.bin .Mult (.tup [(.const (.int 2))]) (.bi .len [(.slot 4)]))])])])) [.ret (.const (.bl false))] [], .for (.nm 7) (.seq (.slc (.call 34 [(.brw 0), (.slot 5)]) none (some (.const (.int 3))))) [.asg (.nm 10) (.tup [(.slot 1), (.const (.int 3)), (.bi .tuple1 [(.lc (.ife (.cmp .Eq (.slot 11) (.slot 7)) (.slot 6) (.slot 12)) (.tp [(.nm 11), (.nm 12)]) (.zip (.slot 4) (.slot 2)) [] [11, 12])])]), .ife (.cmp .NotEq (.bi .repr [(.call 22 [(.slot 3), (.slot 7)])]) (.bi .repr [(.slot 10)])) [.ret (.const (.bl false))] []], .asg (.nm 13) (.lc (.slot 7) (.tp [(.nm 7), (.nm 8)]) (.zip (.slot 4) (.slot 2)) [(.cmp .NotEq (.slot 8) (.const (.int 2)))] [7, 8]), .asg (.nm 14) (.bin .Add (.bin .Add (.lst [(.const .non), (.tup []), (.tup [(.const (.int 0)), (.const (.int 0))]), (.tup [(.const (.int 1)), (.const (.int 0))]), (.tup [(.const (.int 0)), (.slot 1)]), (.tup [(.const (.int 0))]), (.const (.int 5)), (.const (.str ⟨#[48, 49]⟩))]) (.slc (.slot 13) none (some (.const (.int 3))))) (.lc (.bi .list1 [(.slot 7)]) (.nm 7) (.seq (.slc (.slot 5) none (some (.const (.int 1))))) [] [7])), .asg (.nm 14) (.bin .Add (.bin .Add (.slot 14) (.lc (.bin .Add (.slot 7) (.tup [(.const (.int 0))])) (.nm 7) (.seq (.slc (.slot 5) none (some (.const (.int 1))))) [] [7])) (.lc (.tup [(.const (.bl false)), (.idx (.slot 7) (.const (.int 1)))]) (.nm 7) (.seq (.slc (.slot 5) none (some (.const (.int 1))))) [(.cmp .Eq (.idx (.slot 7) (.const (.int 0))) (.const (.int 0)))] [7])), .for (.nm 15) (.seq (.slot 14)) [.ife (.cmp .NotEq (.bi .repr [(.met [([3], ⟨#[66, 97, 100, 72, 117, 101, 105, 110, 103]⟩, [⟨#[104, 117, 101, 105, 110, 103]⟩]), ([2], ⟨#[66, 97, 100, 78, 97, 109, 101]⟩, [⟨#[110, 97, 109, 101]⟩]), ([1], ⟨#[66, 97, 100, 78, 117, 109, 98, 101, 114]⟩, [⟨#[119, 104, 97, 116]⟩, ⟨#[110, 117, 109, 98, 101, 114]⟩]), ([4], ⟨#[78, 111, 116, 75, 101, 112, 116]⟩, [⟨#[112, 114, 111, 109, 105, 115, 101]⟩, ⟨#[119, 105, 116, 110, 101, 115, 115]⟩])] (.call 22 [(.slot 3), (.slot 15)]))]) (.bi .repr [(.tup [(.const (.str ⟨#[78, 111, 116, 75, 101, 112, 116]⟩)), (.const (.str ⟨#[102, 114, 101, 101]⟩)), (.slot 15)])])) [.ret (.const (.bl false))] []], .ret (.const (.bl true))]
theorem b44_eq : b44 = some B44 := by kernel_rfl
/-- _law_ends_right -/
def B45 : List MS := [.for (.nm 2) (.rng2 (.const (.int 2)) (.const (.int 6))) [.for (.nm 3) (.seq (.lst [(.const (.str ⟨#[109, 97, 107, 101]⟩)), (.const (.str ⟨#[115, 104, 117, 110]⟩)), (.const (.str ⟨#[107, 101, 101, 112]⟩))])) [.par [4, 5] [(.tup [(.slot 0), (.const (.int 3)), (.slot 1)]), (.call 40 [(.slot 1), (.slot 0), (.slot 3), (.slot 2)])], .asg (.nm 6) (.lst [(.met [([3], ⟨#[66, 97, 100, 72, 117, 101, 105, 110, 103]⟩, [⟨#[104, 117, 101, 105, 110, 103]⟩]), ([2], ⟨#[66, 97, 100, 78, 97, 109, 101]⟩, [⟨#[110, 97, 109, 101]⟩]), ([1], ⟨#[66, 97, 100, 78, 117, 109, 98, 101, 114]⟩, [⟨#[119, 104, 97, 116]⟩, ⟨#[110, 117, 109, 98, 101, 114]⟩]), ([4], ⟨#[78, 111, 116, 75, 101, 112, 116]⟩, [⟨#[112, 114, 111, 109, 105, 115, 101]⟩, ⟨#[119, 105, 116, 110, 101, 115, 115]⟩])] (.call 24 [(.slot 4), (.slot 3), (.slot 2)]))]), .expr (.meth .append (.slot 6) [(.met [([3], ⟨#[66, 97, 100, 72, 117, 101, 105, 110, 103]⟩, [⟨#[104, 117, 101, 105, 110, 103]⟩]), ([2], ⟨#[66, 97, 100, 78, 97, 109, 101]⟩, [⟨#[110, 97, 109, 101]⟩]), ([1], ⟨#[66, 97, 100, 78, 117, 109, 98, 101, 114]⟩, [⟨#[119, 104, 97, 116]⟩, ⟨#[110, 117, 109, 98, 101, 114]⟩]), ([4], ⟨#[78, 111, 116, 75, 101, 112, 116]⟩, [⟨#[112, 114, 111, 109, 105, 115, 101]⟩, ⟨#[119, 105, 116, 110, 101, 115, 115]⟩])] (.call 26 [(.slot 4), (.slot 3), (.slot 2)]))]), .asg (.nm 7) (.lst [(.notN (.slot 5)), (.ife (.isN (.slot 5)) (.tup [(.const (.str ⟨#[78, 111, 116, 75, 101, 112, 116]⟩)), (.const (.str ⟨#[111, 118, 101, 114]⟩)), (.call 38 [(.slot 1)])]) (.idx (.slot 5) (.const (.int 0))))]), .ife (.call 41 [(.slot 1), (.slot 0), (.slot 3), (.slot 2)]) [.asg (.nm 7) (.bin .Mult (.lst [(.tup [(.const (.str ⟨#[78, 111, 116, 75, 101, 112, 116]⟩)), (.const (.str ⟨#[98, 111, 116, 104]⟩)), (.slot 2)])]) (.const (.int 2)))] [], .ife (.cmp .NotEq (.bi .repr [(.slot 6)]) (.bi .repr [(.slot 7)])) [.ret (.const (.bl false))] []]], .ret (.const (.bl true))]
theorem b45_eq : b45 = some B45 := by kernel_rfl
/-- _law_errors_right -/
def B46 : List MS := [.par [3, 4] [(.tup [(.slot 1), (.const (.int 3)), (.slot 2)]), (.tup [(.const (.int 4)), (.const (.int 3)), (.tup [(.const (.int 0)), (.const (.int 1)), (.const (.int 0)), (.const (.int 1)), (.const (.int 1)), (.const (.int 0))])])], .for (.nm 5) (.seq (.call 43 [])) [.ife (.cmp .IsNot (.call 9 [(.slot 5)]) (.const (.bl false))) [.ret (.const (.bl false))] [], .asg (.nm 6) (.lst [(.met [([3], ⟨#[66, 97, 100, 72, 117, 101, 105, 110, 103]⟩, [⟨#[104, 117, 101, 105, 110, 103]⟩]), ([2], ⟨#[66, 97, 100, 78, 97, 109, 101]⟩, [⟨#[110, 97, 109, 101]⟩]), ([1], ⟨#[66, 97, 100, 78, 117, 109, 98, 101, 114]⟩, [⟨#[119, 104, 97, 116]⟩, ⟨#[110, 117, 109, 98, 101, 114]⟩]), ([4], ⟨#[78, 111, 116, 75, 101, 112, 116]⟩, [⟨#[112, 114, 111, 109, 105, 115, 101]⟩, ⟨#[119, 105, 116, 110, 101, 115, 115]⟩])] (.call 17 [(.slot 5)]))]), .expr (.meth .append (.slot 6) [(.met [([3], ⟨#[66, 97, 100, 72, 117, 101, 105, 110, 103]⟩, [⟨#[104, 117, 101, 105, 110, 103]⟩]), ([2], ⟨#[66, 97, 100, 78, 97, 109, 101]⟩, [⟨#[110, 97, 109, 101]⟩]), ([1], ⟨#[66, 97, 100, 78, 117, 109, 98, 101, 114]⟩, [⟨#[119, 104, 97, 116]⟩, ⟨#[110, 117, 109, 98, 101, 114]⟩]), ([4], ⟨#[78, 111, 116, 75, 101, 112, 116]⟩, [⟨#[112, 114, 111, 109, 105, 115, 101]⟩, ⟨#[119, 105, 116, 110, 101, 115, 115]⟩])] (.call 19 [(.slot 5)]))]), .expr (.meth .append (.slot 6) [(.met [([3], ⟨#[66, 97, 100, 72, 117, 101, 105, 110, 103]⟩, [⟨#[104, 117, 101, 105, 110, 103]⟩]), ([2], ⟨#[66, 97, 100, 78, 97, 109, 101]⟩, [⟨#[110, 97, 109, 101]⟩]), ([1], ⟨#[66, 97, 100, 78, 117, 109, 98, 101, 114]⟩, [⟨#[119, 104, 97, 116]⟩, ⟨#[110, 117, 109, 98, 101, 114]⟩]), ([4], ⟨#[78, 111, 116, 75, 101, 112, 116]⟩, [⟨#[112, 114, 111, 109, 105, 115, 101]⟩, ⟨#[119, 105, 116, 110, 101, 115, 115]⟩])] (.call 22 [(.slot 5), (.const .non)]))]), .for (.nm 7) (.seq (.lst [(.glob 24), (.glob 26), (.glob 27), (.glob 29), (.glob 30)])) [.expr (.meth .append (.slot 6) [(.met [([3], ⟨#[66, 97, 100, 72, 117, 101, 105, 110, 103]⟩, [⟨#[104, 117, 101, 105, 110, 103]⟩]), ([2], ⟨#[66, 97, 100, 78, 97, 109, 101]⟩, [⟨#[110, 97, 109, 101]⟩]), ([1], ⟨#[66, 97, 100, 78, 117, 109, 98, 101, 114]⟩, [⟨#[119, 104, 97, 116]⟩, ⟨#[110, 117, 109, 98, 101, 114]⟩]), ([4], ⟨#[78, 111, 116, 75, 101, 112, 116]⟩, [⟨#[112, 114, 111, 109, 105, 115, 101]⟩, ⟨#[119, 105, 116, 110, 101, 115, 115]⟩])] (.callv 7 [0, 1, 2, 3, 4, 5, 6, 7, 8, 9, 10, 11, 12, 13, 14, 15, 16, 17, 18, 19, 20, 21, 22, 23, 24, 25, 26, 27, 28, 29, 30, 31, 32, 33, 34, 35, 36, 37, 38, 39, 40, 41, 43] [(.slot 5), (.const .non), (.const .non)]))])], .ife (.cmp .NotEq (.bi .repr [(.slot 6)]) (.bi .repr [(.bin .Mult (.lst [(.tup [(.const (.str ⟨#[66, 97, 100, 72, 117, 101, 105, 110, 103]⟩)), (.slot 5)])]) (.const (.int 8)))])) [.ret (.const (.bl false))] []], .asg (.nm 8) (.tup [(.const (.int 2)), (.const (.int 3)), (.tup [(.const (.int 2))])]), .for (.nm 5) (.seq (.lst [(.const .non), (.const (.int 1)), (.const (.int 0)), (.neg (.const (.int 1))), (.const (.bl true)), (.const (.str ⟨#[50]⟩)), (.tup [(.const (.int 3))])])) [.for (.nm 7) (.seq (.lst [(.glob 24), (.glob 26), (.glob 27), (.glob 29), (.glob 30)])) [.ife (.cmp .NotEq (.bi .repr [(.met [([3], ⟨#[66, 97, 100, 72, 117, 101, 105, 110, 103]⟩, [⟨#[104, 117, 101, 105, 110, 103]⟩]), ([2], ⟨#[66, 97, 100, 78, 97, 109, 101]⟩, [⟨#[110, 97, 109, 101]⟩]), ([1], ⟨#[66, 97, 100, 78, 117, 109, 98, 101, 114]⟩, [⟨#[119, 104, 97, 116]⟩, ⟨#[110, 117, 109, 98, 101, 114]⟩]), ([4], ⟨#[78, 111, 116, 75, 101, 112, 116]⟩, [⟨#[112, 114, 111, 109, 105, 115, 101]⟩, ⟨#[119, 105, 116, 110, 101, 115, 115]⟩])] (.callv 7 [0, 1, 2, 3, 4, 5, 6, 7, 8, 9, 10, 11, 12, 13, 14, 15, 16, 17, 18, 19, 20, 21, 22, 23, 24, 25, 26, 27, 28, 29, 30, 31, 32, 33, 34, 35, 36, 37, 38, 39, 40, 41, 43] [(.slot 8), (.const (.str ⟨#[110, 111]⟩)), (.slot 5)]))]) (.bi .repr [(.tup [(.const (.str ⟨#[66, 97, 100, 78, 117, 109, 98, 101, 114]⟩)), (.const (.str ⟨#[109]⟩)), (.slot 5)])])) [.ret (.const (.bl false))] []]], .for (.nm 5) (.seq (.lst [(.const .non), (.const (.str ⟨#[]⟩)), (.const (.str ⟨#[77, 97, 107, 101]⟩)), (.const (.str ⟨#[109, 97, 107, 101, 115]⟩)), (.const (.str ⟨#[119, 105, 110]⟩)), (.const (.int 0)), (.tup [(.const (.str ⟨#[109, 97, 107, 101]⟩))]), (.lst [(.const (.str ⟨#[109, 97, 107, 101]⟩))])])) [.for (.nm 7) (.seq (.lst [(.glob 24), (.glob 26), (.glob 27), (.glob 29), (.glob 30)])) [.ife (.cmp .NotEq (.bi .repr [(.met [([3], ⟨#[66, 97, 100, 72, 117, 101, 105, 110, 103]⟩, [⟨#[104, 117, 101, 105, 110, 103]⟩]), ([2], ⟨#[66, 97, 100, 78, 97, 109, 101]⟩, [⟨#[110, 97, 109, 101]⟩]), ([1], ⟨#[66, 97, 100, 78, 117, 109, 98, 101, 114]⟩, [⟨#[119, 104, 97, 116]⟩, ⟨#[110, 117, 109, 98, 101, 114]⟩]), ([4], ⟨#[78, 111, 116, 75, 101, 112, 116]⟩, [⟨#[112, 114, 111, 109, 105, 115, 101]⟩, ⟨#[119, 105, 116, 110, 101, 115, 115]⟩])] (.callv 7 [0, 1, 2, 3, 4, 5, 6, 7, 8, 9, 10, 11, 12, 13, 14, 15, 16, 17, 18, 19, 20, 21, 22, 23, 24, 25, 26, 27, 28, 29, 30, 31, 32, 33, 34, 35, 36, 37, 38, 39, 40, 41, 43] [(.slot 4), (.slot 5), (.const (.int 2))]))]) (.bi .repr [(.tup [(.const (.str ⟨#[66, 97, 100, 78, 97, 109, 101]⟩)), (.slot 5)])])) [.ret (.const (.bl false))] []]], .for (.nm 7) (.seq (.lst [(.glob 24), (.glob 26), (.glob 27), (.glob 29), (.glob 30)])) [.ife (.cmp .NotEq (.bi .repr [(.met [([3], ⟨#[66, 97, 100, 72, 117, 101, 105, 110, 103]⟩, [⟨#[104, 117, 101, 105, 110, 103]⟩]), ([2], ⟨#[66, 97, 100, 78, 97, 109, 101]⟩, [⟨#[110, 97, 109, 101]⟩]), ([1], ⟨#[66, 97, 100, 78, 117, 109, 98, 101, 114]⟩, [⟨#[119, 104, 97, 116]⟩, ⟨#[110, 117, 109, 98, 101, 114]⟩]), ([4], ⟨#[78, 111, 116, 75, 101, 112, 116]⟩, [⟨#[112, 114, 111, 109, 105, 115, 101]⟩, ⟨#[119, 105, 116, 110, 101, 115, 115]⟩])] (.callv 7 [0, 1, 2, 3, 4, 5, 6, 7, 8, 9, 10, 11, 12, 13, 14, 15, 16, 17, 18, 19, 20, 21, 22, 23, 24, 25, 26, 27, 28, 29, 30, 31, 32, 33, 34, 35, 36, 37, 38, 39, 40, 41, 43] [(.slot 4), (.call 33 [(.brw 0), (.lst [(.const (.str ⟨#[109, 97, 107, 101]⟩)), (.const (.str ⟨#[115, 104, 117, 110]⟩))])]), (.const (.int 2))]))]) (.bi .repr [(.tup [(.const (.str ⟨#[78, 111, 116, 75, 101, 112, 116]⟩)), (.const (.str ⟨#[98, 111, 116, 104]⟩)), (.const (.int 2))])])) [.ret (.const (.bl false))] []], .for (.nm 5) (.seq (.lst [(.const .non), (.neg (.const (.int 1))), (.const (.bl true)), (.const (.str ⟨#[49]⟩))])) [.ife (.cmp .NotEq (.bi .repr [(.met [([3], ⟨#[66, 97, 100, 72, 117, 101, 105, 110, 103]⟩, [⟨#[104, 117, 101, 105, 110, 103]⟩]), ([2], ⟨#[66, 97, 100, 78, 97, 109, 101]⟩, [⟨#[110, 97, 109, 101]⟩]), ([1], ⟨#[66, 97, 100, 78, 117, 109, 98, 101, 114]⟩, [⟨#[119, 104, 97, 116]⟩, ⟨#[110, 117, 109, 98, 101, 114]⟩]), ([4], ⟨#[78, 111, 116, 75, 101, 112, 116]⟩, [⟨#[112, 114, 111, 109, 105, 115, 101]⟩, ⟨#[119, 105, 116, 110, 101, 115, 115]⟩])] (.call 15 [(.slot 5)]))]) (.bi .repr [(.tup [(.const (.str ⟨#[66, 97, 100, 78, 117, 109, 98, 101, 114]⟩)), (.const (.str ⟨#[112, 108, 97, 99, 101, 115]⟩)), (.slot 5)])])) [.ret (.const (.bl false))] []], .ret (.cmp .Is (.call 9 [(.slot 3)]) (.const (.bl true)))]
theorem b46_eq : b46 = some B46 := by kernel_rfl
/-- law -/
def B47 : List MS := [.asg (.nm 1) (.call 31 [(.slot 0)]), .for (.nm 2) (.rng1 (.const (.int 3))) [.asg (.nm 3) (.call 32 [(.brw 1), (.const (.int 8))]), .asg (.nm 4) (.call 39 [(.brw 1), (.slot 3), (.call 32 [(.brw 1), (.bin .Add (.bin .FloorDiv (.bin .Mult (.slot 3) (.bin .Sub (.slot 3) (.const (.int 1)))) (.const (.int 2))) (.const (.int 1)))])]), .ife (.or (.not (.call 44 [(.brw 1), (.slot 3), (.slot 4)])) (.or (.not (.call 45 [(.slot 3), (.slot 4)])) (.not (.call 46 [(.brw 1), (.slot 3), (.slot 4)])))) [.ret (.const (.bl false))] []], .ret (.const (.bl true))]
theorem b47_eq : b47 = some B47 := by kernel_rfl
def tab : List FnE := [⟨1, 1, B0, false⟩, ⟨1, 1, B1, false⟩, ⟨2, 2, B2, false⟩, ⟨5, 1, B3, false⟩, ⟨3, 1, B4, false⟩, ⟨8, 2, B5, true⟩, ⟨5, 1, B6, false⟩, ⟨7, 2, B7, false⟩, ⟨4, 2, B8, false⟩, ⟨1, 1, B9, false⟩, ⟨1, 1, B10, false⟩, ⟨1, 1, B11, false⟩, ⟨3, 3, B12, false⟩, ⟨3, 3, B13, false⟩, ⟨3, 3, B14, false⟩, ⟨1, 1, B15, false⟩, ⟨1, 1, B16, false⟩, ⟨1, 1, B17, false⟩, ⟨3, 1, B18, false⟩, ⟨1, 1, B19, false⟩, ⟨3, 2, B20, false⟩, ⟨6, 2, B21, false⟩, ⟨2, 2, B22, false⟩, ⟨3, 3, B23, false⟩, ⟨3, 3, B24, false⟩, ⟨4, 3, B25, false⟩, ⟨3, 3, B26, false⟩, ⟨4, 3, B27, false⟩, ⟨4, 2, B28, false⟩, ⟨3, 3, B29, false⟩, ⟨3, 3, B30, false⟩, ⟨3, 1, B31, false⟩, ⟨5, 2, B32, false⟩, ⟨2, 2, B33, false⟩, ⟨5, 2, B34, false⟩, ⟨4, 1, B35, false⟩, ⟨8, 2, B36, false⟩, ⟨9, 4, B37, false⟩, ⟨2, 1, B38, false⟩, ⟨6, 3, B39, false⟩, ⟨9, 4, B40, false⟩, ⟨6, 4, B41, false⟩, ⟨2, 1, [], false⟩, ⟨1, 0, B43, false⟩, ⟨16, 3, B44, false⟩, ⟨8, 2, B45, false⟩, ⟨9, 3, B46, false⟩, ⟨5, 1, B47, false⟩]
end LW

set_option Elab.async false
set_option linter.all false
set_option maxRecDepth 100000
set_option maxHeartbeats 0
/-! LH: the head -/
namespace LW
open PySem PySem.Spec PyProof.Rows L2 VM
def mkD (st : Stmt) : Option He.DefD := match st with
  | .FunctionDef n a b _ _ _ sc _ _ _ => some ⟨(n, none), n, n, a, b, sc, [], []⟩
  | _ => none
def fn : List He.DefD := prog.main.body.filterMap mkD
def iniD (c : Str) : Stmt → Option He.DefD
  | .FunctionDef n a b _ _ _ sc _ _ _ => some ⟨(c, some n), n, c ++ "." ++ n, a, b, sc, [], []⟩
  | _ => none
def mkI (st : Stmt) : List He.DefD := match st with
  | .ClassDef c _ _ b _ _ _ _ _ _ _ => b.filterMap (iniD c)
  | _ => []
def fnA : List He.DefD := fn ++ prog.main.body.flatMap mkI
def ownN : List Str := ["BadNumber", "BadName", "BadHueing", "NotKept"]
def fa : List He.Fa := fnN.map He.Fa.glo ++ (clsN.map He.Fa.glo ++ (freeN.map He.Fa.free ++ ownN.map fun c => He.Fa.meth c "__init__"))
def tf : List He.Defn := [("_law_ties_right", none), ("_law_ends_right", none), ("_law_errors_right", none)]
def iniN : List (Str × List Str) := [("BadNumber", ["what", "number"]), ("BadName", ["name"]), ("BadHueing", ["hueing"]), ("NotKept", ["promise", "witness"])]
def hs : List (Str × (List Nat × Str × List Str)) := [("BadHueing", ([3], ("BadHueing" : Str), ["hueing"])), ("BadName", ([2], ("BadName" : Str), ["name"])), ("BadNumber", ([1], ("BadNumber" : Str), ["what", "number"])), ("NotKept", ([4], ("NotKept" : Str), ["promise", "witness"]))]
def cons : List (Str × D) := gl.filterMap fun p => match p.2 with
  | .con d => some (p.1, d)
  | _ => none
def ex (K : PySem.W.Frag) : Bool := exK clsN iniN hs tf cons K
abbrev R : PySem.W.OpenRow := PySem.W.OpenLaw.row PySem.Challenge.rw_surehues_k96_whole_ties_by_turns
abbrev hk : PySem.W.Hook := He.hookX 5 fa fnA [] tf ex
def ob (s : PySem.W.SharedT) : He.AlX := He.obsX 5 fa fnA [] tf ex (HandSHeadRun.getT s)
theorem ob_eq (s : PySem.W.SharedT) : ob s = hk.obs s.abs := He.obsX_eq (HandSHeadRun.getT_eq s)
def nms0 : List String := ["HueError", "BadNumber", "BadName", "BadHueing", "NotKept", "is_whole", "is_count", "need_count", "is_hueing", "pairs_of", "near_in", "orders_of", "longer_crowds", "crowds_in", "RULES", "is_position", "need_position", "need_places", "has_crowd", "has_both", "need_game", "empty_position", "playing", "to_play", "free_in", "free_pairs", "need_free", "tied", "after_tie", "over_in"]
def nms1 : List String := ["is_over", "winner_in", "winner", "Game", "game_value", "best_in", "best_ties", "form_number", "_law_pen", "_law_draw", "_law_pick", "_law_mixed", "_law_pairs", "_law_lots", "_law_has", "_law_turn", "_law_play", "_law_end", "_law_is_both", "_law_met", "_law_no_positions", "_law_ties_right", "_law_ends_right", "_law_errors_right"]
def nms : List PySem.Str := (nms0 ++ nms1).map PySem.Str.ofString
theorem run (w : World) : HandSHeadRun.RunEq R (PySem.W.view R.prog [59]) hk ob 20000 nms w := by
  intro os
  kernel_rfl
end LW

set_option Elab.async false
set_option linter.all false
set_option maxRecDepth 100000
set_option maxHeartbeats 0
/-! LJ: head and evaluator joined -/
namespace LW
open PySem PySem.Spec PyProof.Rows L2 VM
theorem inFn {x : Str} (h : x ∈ fnN) : He.Fa.glo x ∈ fa := List.mem_append_left _ (List.mem_map.mpr ⟨x, h, rfl⟩)
theorem inCls {x : Str} (h : x ∈ clsN) : He.Fa.glo x ∈ fa := List.mem_append_right _ (List.mem_append_left _ (List.mem_map.mpr ⟨x, h, rfl⟩))
theorem inFree {x : Str} (h : x ∈ freeN) : He.Fa.free x ∈ fa := List.mem_append_right _ (List.mem_append_right _ (List.mem_append_left _ (List.mem_map.mpr ⟨x, h, rfl⟩)))
theorem inMeth {x : Str} (h : x ∈ ownN) : He.Fa.meth x "__init__" ∈ fa := List.mem_append_right _ (List.mem_append_right _ (List.mem_append_right _ (List.mem_map.mpr ⟨x, h, rfl⟩)))
theorem inFnA (i : Nat) {d : He.DefD} (h : fnA[i]? = some d) : d ∈ fnA := List.mem_of_getElem? h
def topD (i : Nat) : He.DefD := (mkD (st i)).getD ⟨("", none), "", "", ⟨[], [], none, [], [], none, []⟩, [], ⟨.function, [], false, false, []⟩, [], []⟩
/-- the ground -/
def gr (w : World) (K : PySem.W.Frag) (mg : Str → Option Value) (base : Heap) : Env2 := ⟨gOf' prog w K mg base fnN clsN, fun _ _ => True, tf.map fun p => ((He.cT K p).2, p.1 ++ ".<locals>." ++ "<lambda>")⟩
theorem lam_of {w : World} {K : PySem.W.Frag} {h base : Heap} {mg : Str → Option Value} {x : Str} {p : He.Defn} {params : Arguments} {body : List Stmt} {scope : Scope} (S : He.SaysX fa fnA [] tf ex w h K) (TB : ∀ p ∈ tf.map (He.cT K), LamX.TabB base mg p.1 p.2) (fd : FuncData)
    (hp : p ∈ tf) (F : FunD K x x params body scope [] [] (He.fAd K p) fd) (hx : ∀ (sc : Scope) (n : Nat) (f : Addr) (cdv : Value), (envOfC x sc n f cdv).qual = x ++ ".<locals>.") (e : p.1 = x := by rfl) :
    ∃ cA PA, fd.code = .ref cA ∧ LamX.TabB base mg cA PA ∧ (PA, x ++ ".<locals>." ++ "<lambda>") ∈ (gr w K mg base).tb ∧ (∀ q ∈ (gr w K mg base).tb, q.1 = PA → q.2 = x ++ ".<locals>." ++ "<lambda>") ∧ ∀ (sc : Scope) (n : Nat) (f : Addr) (cdv : Value), (envOfC x sc n f cdv).qual = x ++ ".<locals>." := by
  obtain ⟨oc, od, dV, kV, doc, pm, an, cdv, ct, osl, rfl, lk, hcd, hD, _⟩ := F.ex
  obtain ⟨c, rfl⟩ := He.codeIn_ref hcd
  have e1 : He.codeOf K p = c := He.codeOf_eq lk rfl
  have E := exK_ok (show exK clsN iniN hs tf cons K = true from S.more)
  refine ⟨c, (He.cT K p).2, rfl, ?_, List.mem_map.mpr ⟨p, hp, by rw [e]⟩, fun q hq e2 => ?_, hx⟩
  · have := TB _ (List.mem_map.mpr ⟨p, hp, rfl⟩)
    unfold He.cT at this ⊢
    rw [e1] at this ⊢
    exact this
  · obtain ⟨p2, hp2, rfl⟩ := List.mem_map.mp hq
    have : p2 = p := nodup_inj E.nd hp2 hp e2
    rw [this, e]
section
variable {w : World} {K : PySem.W.Frag} {h base : Heap} {mg : Str → Option Value}
theorem fs0 : FnScope N0 (["value"] : List Str) (fScope (st 6)) := ⟨rfl, rfl, rfl, by decide +kernel, rfl, by decide +kernel, by decide +kernel⟩
theorem fg0 (S : He.SaysX fa fnA [] tf ex w h K) (E : ExK clsN iniN hs tf cons K) (TB : ∀ p ∈ tf.map (He.cT K), LamX.TabB base mg p.1 p.2) : FnG prog w K mg base (gr w K mg base) sc0 ((gr w K mg base).g.fa 0) ⟨1, 1, B0, false⟩ := by
  obtain ⟨fd, F⟩ := S.t.d.defs (inFnA 0 (d := topD 6) (by kernel_rfl))
  exact fng_of (x := "is_whole") (params := (topD 6).params) (body := fBody (st 6)) F fs0 b0_eq (by decide +kernel) (by decide +kernel) (fun _ _ _ _ _ _ us hl => match us, hl with | [_], _ => rfl) (fun h => by cases h)
theorem fs1 : FnScope N1 (["value"] : List Str) (fScope (st 7)) := ⟨rfl, rfl, rfl, by decide +kernel, rfl, by decide +kernel, by decide +kernel⟩
theorem fg1 (S : He.SaysX fa fnA [] tf ex w h K) (E : ExK clsN iniN hs tf cons K) (TB : ∀ p ∈ tf.map (He.cT K), LamX.TabB base mg p.1 p.2) : FnG prog w K mg base (gr w K mg base) sc1 ((gr w K mg base).g.fa 1) ⟨1, 1, B1, false⟩ := by
  obtain ⟨fd, F⟩ := S.t.d.defs (inFnA 1 (d := topD 7) (by kernel_rfl))
  exact fng_of (x := "is_count") (params := (topD 7).params) (body := fBody (st 7)) F fs1 b1_eq (by decide +kernel) (by decide +kernel) (fun _ _ _ _ _ _ us hl => match us, hl with | [_], _ => rfl) (fun h => by cases h)
theorem fs2 : FnScope N2 (["what", "value"] : List Str) (fScope (st 8)) := ⟨rfl, rfl, rfl, by decide +kernel, rfl, by decide +kernel, by decide +kernel⟩
theorem fg2 (S : He.SaysX fa fnA [] tf ex w h K) (E : ExK clsN iniN hs tf cons K) (TB : ∀ p ∈ tf.map (He.cT K), LamX.TabB base mg p.1 p.2) : FnG prog w K mg base (gr w K mg base) sc2 ((gr w K mg base).g.fa 2) ⟨2, 2, B2, false⟩ := by
  obtain ⟨fd, F⟩ := S.t.d.defs (inFnA 2 (d := topD 8) (by kernel_rfl))
  exact fng_of (x := "need_count") (params := (topD 8).params) (body := fBody (st 8)) F fs2 b2_eq (by decide +kernel) (by decide +kernel) (fun _ _ _ _ _ _ us hl => match us, hl with | [_, _], _ => rfl) (fun h => by cases h)
theorem fs3 : FnScope N3 (["value"] : List Str) (fScope (st 10)) := ⟨rfl, rfl, rfl, by decide +kernel, rfl, by decide +kernel, by decide +kernel⟩
theorem fg3 (S : He.SaysX fa fnA [] tf ex w h K) (E : ExK clsN iniN hs tf cons K) (TB : ∀ p ∈ tf.map (He.cT K), LamX.TabB base mg p.1 p.2) : FnG prog w K mg base (gr w K mg base) sc3 ((gr w K mg base).g.fa 3) ⟨5, 1, B3, false⟩ := by
  obtain ⟨fd, F⟩ := S.t.d.defs (inFnA 3 (d := topD 10) (by kernel_rfl))
  exact fng_of (x := "is_hueing") (params := (topD 10).params) (body := fBody (st 10)) F fs3 b3_eq (by decide +kernel) (by decide +kernel) (fun _ _ _ _ _ _ us hl => match us, hl with | [_], _ => rfl) (fun h => by cases h)
theorem fs4 : FnScope N4 (["n"] : List Str) (fScope (st 11)) := ⟨rfl, rfl, rfl, by decide +kernel, rfl, by decide +kernel, by decide +kernel⟩
theorem fg4 (S : He.SaysX fa fnA [] tf ex w h K) (E : ExK clsN iniN hs tf cons K) (TB : ∀ p ∈ tf.map (He.cT K), LamX.TabB base mg p.1 p.2) : FnG prog w K mg base (gr w K mg base) sc4 ((gr w K mg base).g.fa 4) ⟨3, 1, B4, false⟩ := by
  obtain ⟨fd, F⟩ := S.t.d.defs (inFnA 4 (d := topD 11) (by kernel_rfl))
  exact fng_of (x := "pairs_of") (params := (topD 11).params) (body := fBody (st 11)) F fs4 b4_eq (by decide +kernel) (by decide +kernel) (fun _ _ _ _ _ _ us hl => match us, hl with | [_], _ => rfl) (fun h => by cases h)
theorem fs5 : FnScope N5 (["hueing", "hue"] : List Str) (fScope (st 12)) := ⟨rfl, rfl, rfl, by decide +kernel, rfl, by decide +kernel, by decide +kernel⟩
theorem fg5 (S : He.SaysX fa fnA [] tf ex w h K) (E : ExK clsN iniN hs tf cons K) (TB : ∀ p ∈ tf.map (He.cT K), LamX.TabB base mg p.1 p.2) : FnG prog w K mg base (gr w K mg base) sc5 ((gr w K mg base).g.fa 5) ⟨8, 2, B5, true⟩ := by
  obtain ⟨fd, F⟩ := S.t.d.defs (inFnA 5 (d := topD 12) (by kernel_rfl))
  exact fng_of (x := "near_in") (params := (topD 12).params) (body := fBody (st 12)) F fs5 b5_eq (by decide +kernel) (by decide +kernel) (fun _ _ _ _ _ _ us hl => match us, hl with | [_, _], _ => rfl) (fun h => by cases h)
theorem fs6 : FnScope N6 (["n"] : List Str) (fScope (st 13)) := ⟨rfl, rfl, rfl, by decide +kernel, rfl, by decide +kernel, by decide +kernel⟩
theorem fg6 (S : He.SaysX fa fnA [] tf ex w h K) (E : ExK clsN iniN hs tf cons K) (TB : ∀ p ∈ tf.map (He.cT K), LamX.TabB base mg p.1 p.2) : FnG prog w K mg base (gr w K mg base) sc6 ((gr w K mg base).g.fa 6) ⟨5, 1, B6, false⟩ := by
  obtain ⟨fd, F⟩ := S.t.d.defs (inFnA 6 (d := topD 13) (by kernel_rfl))
  exact fng_of (x := "orders_of") (params := (topD 13).params) (body := fBody (st 13)) F fs6 b6_eq (by decide +kernel) (by decide +kernel) (fun _ _ _ _ _ _ us hl => match us, hl with | [_], _ => rfl) (fun h => by cases h)
theorem fs7 : FnScope N7 (["near", "found"] : List Str) (fScope (st 15)) := ⟨rfl, rfl, rfl, by decide +kernel, rfl, by decide +kernel, by decide +kernel⟩
theorem fg7 (S : He.SaysX fa fnA [] tf ex w h K) (E : ExK clsN iniN hs tf cons K) (TB : ∀ p ∈ tf.map (He.cT K), LamX.TabB base mg p.1 p.2) : FnG prog w K mg base (gr w K mg base) sc7 ((gr w K mg base).g.fa 7) ⟨7, 2, B7, false⟩ := by
  obtain ⟨fd, F⟩ := S.t.d.defs (inFnA 7 (d := topD 15) (by kernel_rfl))
  exact fng_of (x := "longer_crowds") (params := (topD 15).params) (body := fBody (st 15)) F fs7 b7_eq (by decide +kernel) (by decide +kernel) (fun _ _ _ _ _ _ us hl => match us, hl with | [_, _], _ => rfl) (fun h => by cases h)
theorem fs8 : FnScope N8 (["near", "many"] : List Str) (fScope (st 16)) := ⟨rfl, rfl, rfl, by decide +kernel, rfl, by decide +kernel, by decide +kernel⟩
theorem fg8 (S : He.SaysX fa fnA [] tf ex w h K) (E : ExK clsN iniN hs tf cons K) (TB : ∀ p ∈ tf.map (He.cT K), LamX.TabB base mg p.1 p.2) : FnG prog w K mg base (gr w K mg base) sc8 ((gr w K mg base).g.fa 8) ⟨4, 2, B8, false⟩ := by
  obtain ⟨fd, F⟩ := S.t.d.defs (inFnA 8 (d := topD 16) (by kernel_rfl))
  exact fng_of (x := "crowds_in") (params := (topD 16).params) (body := fBody (st 16)) F fs8 b8_eq (by decide +kernel) (by decide +kernel) (fun _ _ _ _ _ _ us hl => match us, hl with | [_, _], _ => rfl) (fun h => by cases h)
theorem fs9 : FnScope N9 (["value"] : List Str) (fScope (st 19)) := ⟨rfl, rfl, rfl, by decide +kernel, rfl, by decide +kernel, by decide +kernel⟩
theorem fg9 (S : He.SaysX fa fnA [] tf ex w h K) (E : ExK clsN iniN hs tf cons K) (TB : ∀ p ∈ tf.map (He.cT K), LamX.TabB base mg p.1 p.2) : FnG prog w K mg base (gr w K mg base) sc9 ((gr w K mg base).g.fa 9) ⟨1, 1, B9, false⟩ := by
  obtain ⟨fd, F⟩ := S.t.d.defs (inFnA 9 (d := topD 19) (by kernel_rfl))
  exact fng_of (x := "is_position") (params := (topD 19).params) (body := fBody (st 19)) F fs9 b9_eq (by decide +kernel) (by decide +kernel) (fun _ _ _ _ _ _ us hl => match us, hl with | [_], _ => rfl) (fun h => by cases h)
theorem fs10 : FnScope N10 (["position"] : List Str) (fScope (st 20)) := ⟨rfl, rfl, rfl, by decide +kernel, rfl, by decide +kernel, by decide +kernel⟩
theorem fg10 (S : He.SaysX fa fnA [] tf ex w h K) (E : ExK clsN iniN hs tf cons K) (TB : ∀ p ∈ tf.map (He.cT K), LamX.TabB base mg p.1 p.2) : FnG prog w K mg base (gr w K mg base) sc10 ((gr w K mg base).g.fa 10) ⟨1, 1, B10, false⟩ := by
  obtain ⟨fd, F⟩ := S.t.d.defs (inFnA 10 (d := topD 20) (by kernel_rfl))
  exact fng_of (x := "need_position") (params := (topD 20).params) (body := fBody (st 20)) F fs10 b10_eq (by decide +kernel) (by decide +kernel) (fun _ _ _ _ _ _ us hl => match us, hl with | [_], _ => rfl) (fun h => by cases h)
theorem fs11 : FnScope N11 (["m"] : List Str) (fScope (st 21)) := ⟨rfl, rfl, rfl, by decide +kernel, rfl, by decide +kernel, by decide +kernel⟩
theorem fg11 (S : He.SaysX fa fnA [] tf ex w h K) (E : ExK clsN iniN hs tf cons K) (TB : ∀ p ∈ tf.map (He.cT K), LamX.TabB base mg p.1 p.2) : FnG prog w K mg base (gr w K mg base) sc11 ((gr w K mg base).g.fa 11) ⟨1, 1, B11, false⟩ := by
  obtain ⟨fd, F⟩ := S.t.d.defs (inFnA 11 (d := topD 21) (by kernel_rfl))
  exact fng_of (x := "need_places") (params := (topD 21).params) (body := fBody (st 21)) F fs11 b11_eq (by decide +kernel) (by decide +kernel) (fun _ _ _ _ _ _ us hl => match us, hl with | [_], _ => rfl) (fun h => by cases h)
theorem fs12 : FnScope N12 (["position", "hue", "m"] : List Str) (fScope (st 22)) := ⟨rfl, rfl, rfl, by decide +kernel, rfl, by decide +kernel, by decide +kernel⟩
theorem fg12 (S : He.SaysX fa fnA [] tf ex w h K) (E : ExK clsN iniN hs tf cons K) (TB : ∀ p ∈ tf.map (He.cT K), LamX.TabB base mg p.1 p.2) : FnG prog w K mg base (gr w K mg base) sc12 ((gr w K mg base).g.fa 12) ⟨3, 3, B12, false⟩ := by
  obtain ⟨fd, F⟩ := S.t.d.defs (inFnA 12 (d := topD 22) (by kernel_rfl))
  exact fng_of (x := "has_crowd") (params := (topD 22).params) (body := fBody (st 22)) F fs12 b12_eq (by decide +kernel) (by decide +kernel) (fun _ _ _ _ _ _ us hl => match us, hl with | [_, _, _], _ => rfl) (fun h => by cases h)
theorem fs13 : FnScope N13 (["position", "rule", "m"] : List Str) (fScope (st 23)) := ⟨rfl, rfl, rfl, by decide +kernel, rfl, by decide +kernel, by decide +kernel⟩
theorem fg13 (S : He.SaysX fa fnA [] tf ex w h K) (E : ExK clsN iniN hs tf cons K) (TB : ∀ p ∈ tf.map (He.cT K), LamX.TabB base mg p.1 p.2) : FnG prog w K mg base (gr w K mg base) sc13 ((gr w K mg base).g.fa 13) ⟨3, 3, B13, false⟩ := by
  obtain ⟨fd, F⟩ := S.t.d.defs (inFnA 13 (d := topD 23) (by kernel_rfl))
  exact fng_of (x := "has_both") (params := (topD 23).params) (body := fBody (st 23)) F fs13 b13_eq (by decide +kernel) (by decide +kernel) (fun _ _ _ _ _ _ us hl => match us, hl with | [_, _, _], _ => rfl) (fun h => by cases h)
theorem fs14 : FnScope N14 (["position", "rule", "m"] : List Str) (fScope (st 24)) := ⟨rfl, rfl, rfl, by decide +kernel, rfl, by decide +kernel, by decide +kernel⟩
theorem fg14 (S : He.SaysX fa fnA [] tf ex w h K) (E : ExK clsN iniN hs tf cons K) (TB : ∀ p ∈ tf.map (He.cT K), LamX.TabB base mg p.1 p.2) : FnG prog w K mg base (gr w K mg base) sc14 ((gr w K mg base).g.fa 14) ⟨3, 3, B14, false⟩ := by
  obtain ⟨fd, F⟩ := S.t.d.defs (inFnA 14 (d := topD 24) (by kernel_rfl))
  exact fng_of (x := "need_game") (params := (topD 24).params) (body := fBody (st 24)) F fs14 b14_eq (by decide +kernel) (by decide +kernel) (fun _ _ _ _ _ _ us hl => match us, hl with | [_, _, _], _ => rfl) (fun h => by cases h)
theorem fs15 : FnScope N15 (["n"] : List Str) (fScope (st 25)) := ⟨rfl, rfl, rfl, by decide +kernel, rfl, by decide +kernel, by decide +kernel⟩
theorem fg15 (S : He.SaysX fa fnA [] tf ex w h K) (E : ExK clsN iniN hs tf cons K) (TB : ∀ p ∈ tf.map (He.cT K), LamX.TabB base mg p.1 p.2) : FnG prog w K mg base (gr w K mg base) sc15 ((gr w K mg base).g.fa 15) ⟨1, 1, B15, false⟩ := by
  obtain ⟨fd, F⟩ := S.t.d.defs (inFnA 15 (d := topD 25) (by kernel_rfl))
  exact fng_of (x := "empty_position") (params := (topD 25).params) (body := fBody (st 25)) F fs15 b15_eq (by decide +kernel) (by decide +kernel) (fun _ _ _ _ _ _ us hl => match us, hl with | [_], _ => rfl) (fun h => by cases h)
theorem fs16 : FnScope N16 (["position"] : List Str) (fScope (st 26)) := ⟨rfl, rfl, rfl, by decide +kernel, rfl, by decide +kernel, by decide +kernel⟩
theorem fg16 (S : He.SaysX fa fnA [] tf ex w h K) (E : ExK clsN iniN hs tf cons K) (TB : ∀ p ∈ tf.map (He.cT K), LamX.TabB base mg p.1 p.2) : FnG prog w K mg base (gr w K mg base) sc16 ((gr w K mg base).g.fa 16) ⟨1, 1, B16, false⟩ := by
  obtain ⟨fd, F⟩ := S.t.d.defs (inFnA 16 (d := topD 26) (by kernel_rfl))
  exact fng_of (x := "playing") (params := (topD 26).params) (body := fBody (st 26)) F fs16 b16_eq (by decide +kernel) (by decide +kernel) (fun _ _ _ _ _ _ us hl => match us, hl with | [_], _ => rfl) (fun h => by cases h)
theorem fs17 : FnScope N17 (["position"] : List Str) (fScope (st 27)) := ⟨rfl, rfl, rfl, by decide +kernel, rfl, by decide +kernel, by decide +kernel⟩
theorem fg17 (S : He.SaysX fa fnA [] tf ex w h K) (E : ExK clsN iniN hs tf cons K) (TB : ∀ p ∈ tf.map (He.cT K), LamX.TabB base mg p.1 p.2) : FnG prog w K mg base (gr w K mg base) sc17 ((gr w K mg base).g.fa 17) ⟨1, 1, B17, false⟩ := by
  obtain ⟨fd, F⟩ := S.t.d.defs (inFnA 17 (d := topD 27) (by kernel_rfl))
  exact fng_of (x := "to_play") (params := (topD 27).params) (body := fBody (st 27)) F fs17 b17_eq (by decide +kernel) (by decide +kernel) (fun _ _ _ _ _ _ us hl => match us, hl with | [_], _ => rfl) (fun h => by cases h)
theorem fs18 : FnScope N18 (["position"] : List Str) (fScope (st 28)) := ⟨rfl, rfl, rfl, by decide +kernel, rfl, by decide +kernel, by decide +kernel⟩
theorem fg18 (S : He.SaysX fa fnA [] tf ex w h K) (E : ExK clsN iniN hs tf cons K) (TB : ∀ p ∈ tf.map (He.cT K), LamX.TabB base mg p.1 p.2) : FnG prog w K mg base (gr w K mg base) sc18 ((gr w K mg base).g.fa 18) ⟨3, 1, B18, false⟩ := by
  obtain ⟨fd, F⟩ := S.t.d.defs (inFnA 18 (d := topD 28) (by kernel_rfl))
  exact fng_of (x := "free_in") (params := (topD 28).params) (body := fBody (st 28)) F fs18 b18_eq (by decide +kernel) (by decide +kernel) (fun _ _ _ _ _ _ us hl => match us, hl with | [_], _ => rfl) (fun h => by cases h)
theorem fs19 : FnScope N19 (["position"] : List Str) (fScope (st 29)) := ⟨rfl, rfl, rfl, by decide +kernel, rfl, by decide +kernel, by decide +kernel⟩
theorem fg19 (S : He.SaysX fa fnA [] tf ex w h K) (E : ExK clsN iniN hs tf cons K) (TB : ∀ p ∈ tf.map (He.cT K), LamX.TabB base mg p.1 p.2) : FnG prog w K mg base (gr w K mg base) sc19 ((gr w K mg base).g.fa 19) ⟨1, 1, B19, false⟩ := by
  obtain ⟨fd, F⟩ := S.t.d.defs (inFnA 19 (d := topD 29) (by kernel_rfl))
  exact fng_of (x := "free_pairs") (params := (topD 29).params) (body := fBody (st 29)) F fs19 b19_eq (by decide +kernel) (by decide +kernel) (fun _ _ _ _ _ _ us hl => match us, hl with | [_], _ => rfl) (fun h => by cases h)
theorem fs20 : FnScope N20 (["position", "pair"] : List Str) (fScope (st 30)) := ⟨rfl, rfl, rfl, by decide +kernel, rfl, by decide +kernel, by decide +kernel⟩
theorem fg20 (S : He.SaysX fa fnA [] tf ex w h K) (E : ExK clsN iniN hs tf cons K) (TB : ∀ p ∈ tf.map (He.cT K), LamX.TabB base mg p.1 p.2) : FnG prog w K mg base (gr w K mg base) sc20 ((gr w K mg base).g.fa 20) ⟨3, 2, B20, false⟩ := by
  obtain ⟨fd, F⟩ := S.t.d.defs (inFnA 20 (d := topD 30) (by kernel_rfl))
  exact fng_of (x := "need_free") (params := (topD 30).params) (body := fBody (st 30)) F fs20 b20_eq (by decide +kernel) (by decide +kernel) (fun _ _ _ _ _ _ us hl => match us, hl with | [_, _], _ => rfl) (fun h => by cases h)
theorem fs21 : FnScope N21 (["position", "pair"] : List Str) (fScope (st 31)) := ⟨rfl, rfl, rfl, by decide +kernel, rfl, by decide +kernel, by decide +kernel⟩
theorem fg21 (S : He.SaysX fa fnA [] tf ex w h K) (E : ExK clsN iniN hs tf cons K) (TB : ∀ p ∈ tf.map (He.cT K), LamX.TabB base mg p.1 p.2) : FnG prog w K mg base (gr w K mg base) sc21 ((gr w K mg base).g.fa 21) ⟨6, 2, B21, false⟩ := by
  obtain ⟨fd, F⟩ := S.t.d.defs (inFnA 21 (d := topD 31) (by kernel_rfl))
  exact fng_of (x := "tied") (params := (topD 31).params) (body := fBody (st 31)) F fs21 b21_eq (by decide +kernel) (by decide +kernel) (fun _ _ _ _ _ _ us hl => match us, hl with | [_, _], _ => rfl) (fun h => by cases h)
theorem fs22 : FnScope N22 (["position", "pair"] : List Str) (fScope (st 32)) := ⟨rfl, rfl, rfl, by decide +kernel, rfl, by decide +kernel, by decide +kernel⟩
theorem fg22 (S : He.SaysX fa fnA [] tf ex w h K) (E : ExK clsN iniN hs tf cons K) (TB : ∀ p ∈ tf.map (He.cT K), LamX.TabB base mg p.1 p.2) : FnG prog w K mg base (gr w K mg base) sc22 ((gr w K mg base).g.fa 22) ⟨2, 2, B22, false⟩ := by
  obtain ⟨fd, F⟩ := S.t.d.defs (inFnA 22 (d := topD 32) (by kernel_rfl))
  exact fng_of (x := "after_tie") (params := (topD 32).params) (body := fBody (st 32)) F fs22 b22_eq (by decide +kernel) (by decide +kernel) (fun _ _ _ _ _ _ us hl => match us, hl with | [_, _], _ => rfl) (fun h => by cases h)
theorem fs23 : FnScope N23 (["position", "rule", "m"] : List Str) (fScope (st 33)) := ⟨rfl, rfl, rfl, by decide +kernel, rfl, by decide +kernel, by decide +kernel⟩
theorem fg23 (S : He.SaysX fa fnA [] tf ex w h K) (E : ExK clsN iniN hs tf cons K) (TB : ∀ p ∈ tf.map (He.cT K), LamX.TabB base mg p.1 p.2) : FnG prog w K mg base (gr w K mg base) sc23 ((gr w K mg base).g.fa 23) ⟨3, 3, B23, false⟩ := by
  obtain ⟨fd, F⟩ := S.t.d.defs (inFnA 23 (d := topD 33) (by kernel_rfl))
  exact fng_of (x := "over_in") (params := (topD 33).params) (body := fBody (st 33)) F fs23 b23_eq (by decide +kernel) (by decide +kernel) (fun _ _ _ _ _ _ us hl => match us, hl with | [_, _, _], _ => rfl) (fun h => by cases h)
theorem fs24 : FnScope N24 (["position", "rule", "m"] : List Str) (fScope (st 34)) := ⟨rfl, rfl, rfl, by decide +kernel, rfl, by decide +kernel, by decide +kernel⟩
theorem fg24 (S : He.SaysX fa fnA [] tf ex w h K) (E : ExK clsN iniN hs tf cons K) (TB : ∀ p ∈ tf.map (He.cT K), LamX.TabB base mg p.1 p.2) : FnG prog w K mg base (gr w K mg base) sc24 ((gr w K mg base).g.fa 24) ⟨3, 3, B24, false⟩ := by
  obtain ⟨fd, F⟩ := S.t.d.defs (inFnA 24 (d := topD 34) (by kernel_rfl))
  exact fng_of (x := "is_over") (params := (topD 34).params) (body := fBody (st 34)) F fs24 b24_eq (by decide +kernel) (by decide +kernel) (fun _ _ _ _ _ _ us hl => match us, hl with | [_, _, _], _ => rfl) (fun h => by cases h)
theorem fs25 : FnScope N25 (["position", "rule", "m"] : List Str) (fScope (st 35)) := ⟨rfl, rfl, rfl, by decide +kernel, rfl, by decide +kernel, by decide +kernel⟩
theorem fg25 (S : He.SaysX fa fnA [] tf ex w h K) (E : ExK clsN iniN hs tf cons K) (TB : ∀ p ∈ tf.map (He.cT K), LamX.TabB base mg p.1 p.2) : FnG prog w K mg base (gr w K mg base) sc25 ((gr w K mg base).g.fa 25) ⟨4, 3, B25, false⟩ := by
  obtain ⟨fd, F⟩ := S.t.d.defs (inFnA 25 (d := topD 35) (by kernel_rfl))
  exact fng_of (x := "winner_in") (params := (topD 35).params) (body := fBody (st 35)) F fs25 b25_eq (by decide +kernel) (by decide +kernel) (fun _ _ _ _ _ _ us hl => match us, hl with | [_, _, _], _ => rfl) (fun h => by cases h)
theorem fs26 : FnScope N26 (["position", "rule", "m"] : List Str) (fScope (st 36)) := ⟨rfl, rfl, rfl, by decide +kernel, rfl, by decide +kernel, by decide +kernel⟩
theorem fg26 (S : He.SaysX fa fnA [] tf ex w h K) (E : ExK clsN iniN hs tf cons K) (TB : ∀ p ∈ tf.map (He.cT K), LamX.TabB base mg p.1 p.2) : FnG prog w K mg base (gr w K mg base) sc26 ((gr w K mg base).g.fa 26) ⟨3, 3, B26, false⟩ := by
  obtain ⟨fd, F⟩ := S.t.d.defs (inFnA 26 (d := topD 36) (by kernel_rfl))
  exact fng_of (x := "winner") (params := (topD 36).params) (body := fBody (st 36)) F fs26 b26_eq (by decide +kernel) (by decide +kernel) (fun _ _ _ _ _ _ us hl => match us, hl with | [_, _, _], _ => rfl) (fun h => by cases h)
theorem fs27 : FnScope N27 (["position", "rule", "m"] : List Str) (fScope (st 38)) := ⟨rfl, rfl, rfl, by decide +kernel, rfl, by decide +kernel, by decide +kernel⟩
theorem fg27 (S : He.SaysX fa fnA [] tf ex w h K) (E : ExK clsN iniN hs tf cons K) (TB : ∀ p ∈ tf.map (He.cT K), LamX.TabB base mg p.1 p.2) : FnG prog w K mg base (gr w K mg base) sc27 ((gr w K mg base).g.fa 27) ⟨4, 3, B27, false⟩ := by
  obtain ⟨fd, F⟩ := S.t.d.defs (inFnA 27 (d := topD 38) (by kernel_rfl))
  exact fng_of (x := "game_value") (params := (topD 38).params) (body := fBody (st 38)) F fs27 b27_eq (by decide +kernel) (by decide +kernel) (fun _ _ _ _ _ _ us hl => match us, hl with | [_, _, _], _ => rfl) (fun h => by cases h)
theorem fs28 : FnScope N28 (["game", "position"] : List Str) (fScope (st 39)) := ⟨rfl, rfl, rfl, by decide +kernel, rfl, by decide +kernel, by decide +kernel⟩
theorem fg28 (S : He.SaysX fa fnA [] tf ex w h K) (E : ExK clsN iniN hs tf cons K) (TB : ∀ p ∈ tf.map (He.cT K), LamX.TabB base mg p.1 p.2) : FnG prog w K mg base (gr w K mg base) sc28 ((gr w K mg base).g.fa 28) ⟨4, 2, B28, false⟩ := by
  obtain ⟨fd, F⟩ := S.t.d.defs (inFnA 28 (d := topD 39) (by kernel_rfl))
  exact fng_of (x := "best_in") (params := (topD 39).params) (body := fBody (st 39)) F fs28 b28_eq (by decide +kernel) (by decide +kernel) (fun _ _ _ _ _ _ us hl => match us, hl with | [_, _], _ => rfl) (fun h => by cases h)
theorem fs29 : FnScope N29 (["position", "rule", "m"] : List Str) (fScope (st 40)) := ⟨rfl, rfl, rfl, by decide +kernel, rfl, by decide +kernel, by decide +kernel⟩
theorem fg29 (S : He.SaysX fa fnA [] tf ex w h K) (E : ExK clsN iniN hs tf cons K) (TB : ∀ p ∈ tf.map (He.cT K), LamX.TabB base mg p.1 p.2) : FnG prog w K mg base (gr w K mg base) sc29 ((gr w K mg base).g.fa 29) ⟨3, 3, B29, false⟩ := by
  obtain ⟨fd, F⟩ := S.t.d.defs (inFnA 29 (d := topD 40) (by kernel_rfl))
  exact fng_of (x := "best_ties") (params := (topD 40).params) (body := fBody (st 40)) F fs29 b29_eq (by decide +kernel) (by decide +kernel) (fun _ _ _ _ _ _ us hl => match us, hl with | [_, _, _], _ => rfl) (fun h => by cases h)
theorem fs30 : FnScope N30 (["position", "rule", "m"] : List Str) (fScope (st 41)) := ⟨rfl, rfl, rfl, by decide +kernel, rfl, by decide +kernel, by decide +kernel⟩
theorem fg30 (S : He.SaysX fa fnA [] tf ex w h K) (E : ExK clsN iniN hs tf cons K) (TB : ∀ p ∈ tf.map (He.cT K), LamX.TabB base mg p.1 p.2) : FnG prog w K mg base (gr w K mg base) sc30 ((gr w K mg base).g.fa 30) ⟨3, 3, B30, false⟩ := by
  obtain ⟨fd, F⟩ := S.t.d.defs (inFnA 30 (d := topD 41) (by kernel_rfl))
  exact fng_of (x := "form_number") (params := (topD 41).params) (body := fBody (st 41)) F fs30 b30_eq (by decide +kernel) (by decide +kernel) (fun _ _ _ _ _ _ us hl => match us, hl with | [_, _, _], _ => rfl) (fun h => by cases h)
theorem fs31 : FnScope N31 (["script"] : List Str) (fScope (st 43)) := ⟨rfl, rfl, rfl, by decide +kernel, rfl, by decide +kernel, by decide +kernel⟩
theorem fg31 (S : He.SaysX fa fnA [] tf ex w h K) (E : ExK clsN iniN hs tf cons K) (TB : ∀ p ∈ tf.map (He.cT K), LamX.TabB base mg p.1 p.2) : FnG prog w K mg base (gr w K mg base) sc31 ((gr w K mg base).g.fa 31) ⟨3, 1, B31, false⟩ := by
  obtain ⟨fd, F⟩ := S.t.d.defs (inFnA 31 (d := topD 43) (by kernel_rfl))
  exact fng_of (x := "_law_pen") (params := (topD 43).params) (body := fBody (st 43)) F fs31 b31_eq (by decide +kernel) (by decide +kernel) (fun _ _ _ _ _ _ us hl => match us, hl with | [_], _ => rfl) (fun h => by cases h)
theorem fs32 : FnScope N32 (["pen", "many"] : List Str) (fScope (st 44)) := ⟨rfl, rfl, rfl, by decide +kernel, rfl, by decide +kernel, by decide +kernel⟩
theorem fg32 (S : He.SaysX fa fnA [] tf ex w h K) (E : ExK clsN iniN hs tf cons K) (TB : ∀ p ∈ tf.map (He.cT K), LamX.TabB base mg p.1 p.2) : FnG prog w K mg base (gr w K mg base) sc32 ((gr w K mg base).g.fa 32) ⟨5, 2, B32, false⟩ := by
  obtain ⟨fd, F⟩ := S.t.d.defs (inFnA 32 (d := topD 44) (by kernel_rfl))
  exact fng_of (x := "_law_draw") (params := (topD 44).params) (body := fBody (st 44)) F fs32 b32_eq (by decide +kernel) (by decide +kernel) (fun _ _ _ _ _ _ us hl => match us, hl with | [_, _], _ => rfl) (fun h => by cases h)
theorem fs33 : FnScope N33 (["pen", "some"] : List Str) (fScope (st 45)) := ⟨rfl, rfl, rfl, by decide +kernel, rfl, by decide +kernel, by decide +kernel⟩
theorem fg33 (S : He.SaysX fa fnA [] tf ex w h K) (E : ExK clsN iniN hs tf cons K) (TB : ∀ p ∈ tf.map (He.cT K), LamX.TabB base mg p.1 p.2) : FnG prog w K mg base (gr w K mg base) sc33 ((gr w K mg base).g.fa 33) ⟨2, 2, B33, false⟩ := by
  obtain ⟨fd, F⟩ := S.t.d.defs (inFnA 33 (d := topD 45) (by kernel_rfl))
  exact fng_of (x := "_law_pick") (params := (topD 45).params) (body := fBody (st 45)) F fs33 b33_eq (by decide +kernel) (by decide +kernel) (fun _ _ _ _ _ _ us hl => match us, hl with | [_, _], _ => rfl) (fun h => by cases h)
theorem fs34 : FnScope N34 (["pen", "some"] : List Str) (fScope (st 46)) := ⟨rfl, rfl, rfl, by decide +kernel, rfl, by decide +kernel, by decide +kernel⟩
theorem fg34 (S : He.SaysX fa fnA [] tf ex w h K) (E : ExK clsN iniN hs tf cons K) (TB : ∀ p ∈ tf.map (He.cT K), LamX.TabB base mg p.1 p.2) : FnG prog w K mg base (gr w K mg base) sc34 ((gr w K mg base).g.fa 34) ⟨5, 2, B34, false⟩ := by
  obtain ⟨fd, F⟩ := S.t.d.defs (inFnA 34 (d := topD 46) (by kernel_rfl))
  exact fng_of (x := "_law_mixed") (params := (topD 46).params) (body := fBody (st 46)) F fs34 b34_eq (by decide +kernel) (by decide +kernel) (fun _ _ _ _ _ _ us hl => match us, hl with | [_, _], _ => rfl) (fun h => by cases h)
theorem fs35 : FnScope N35 (["n"] : List Str) (fScope (st 47)) := ⟨rfl, rfl, rfl, by decide +kernel, rfl, by decide +kernel, by decide +kernel⟩
theorem fg35 (S : He.SaysX fa fnA [] tf ex w h K) (E : ExK clsN iniN hs tf cons K) (TB : ∀ p ∈ tf.map (He.cT K), LamX.TabB base mg p.1 p.2) : FnG prog w K mg base (gr w K mg base) sc35 ((gr w K mg base).g.fa 35) ⟨4, 1, B35, false⟩ := by
  obtain ⟨fd, F⟩ := S.t.d.defs (inFnA 35 (d := topD 47) (by kernel_rfl))
  exact fng_of (x := "_law_pairs") (params := (topD 47).params) (body := fBody (st 47)) F fs35 b35_eq (by decide +kernel) (by decide +kernel) (fun _ _ _ _ _ _ us hl => match us, hl with | [_], _ => rfl) (fun h => by cases h)
theorem fs36 : FnScope N36 (["n", "many"] : List Str) (fScope (st 48)) := ⟨rfl, rfl, rfl, by decide +kernel, rfl, by decide +kernel, by decide +kernel⟩
theorem fg36 (S : He.SaysX fa fnA [] tf ex w h K) (E : ExK clsN iniN hs tf cons K) (TB : ∀ p ∈ tf.map (He.cT K), LamX.TabB base mg p.1 p.2) : FnG prog w K mg base (gr w K mg base) sc36 ((gr w K mg base).g.fa 36) ⟨8, 2, B36, false⟩ := by
  obtain ⟨fd, F⟩ := S.t.d.defs (inFnA 36 (d := topD 48) (by kernel_rfl))
  exact fng_of (x := "_law_lots") (params := (topD 48).params) (body := fBody (st 48)) F fs36 b36_eq (by decide +kernel) (by decide +kernel) (fun _ _ _ _ _ _ us hl => match us, hl with | [_, _], _ => rfl) (fun h => by cases h)
theorem fs37 : FnScope N37 (["row", "pairs", "lots", "hue"] : List Str) (fScope (st 49)) := ⟨rfl, rfl, rfl, by decide +kernel, rfl, by decide +kernel, by decide +kernel⟩
theorem fg37 (S : He.SaysX fa fnA [] tf ex w h K) (E : ExK clsN iniN hs tf cons K) (TB : ∀ p ∈ tf.map (He.cT K), LamX.TabB base mg p.1 p.2) : FnG prog w K mg base (gr w K mg base) sc37 ((gr w K mg base).g.fa 37) ⟨9, 4, B37, false⟩ := by
  obtain ⟨fd, F⟩ := S.t.d.defs (inFnA 37 (d := topD 49) (by kernel_rfl))
  exact fng_of (x := "_law_has") (params := (topD 49).params) (body := fBody (st 49)) F fs37 b37_eq (by decide +kernel) (by decide +kernel) (fun _ _ _ _ _ _ us hl => match us, hl with | [_, _, _, _], _ => rfl) (fun h => by cases h)
theorem fs38 : FnScope N38 (["row"] : List Str) (fScope (st 50)) := ⟨rfl, rfl, rfl, by decide +kernel, rfl, by decide +kernel, by decide +kernel⟩
theorem fg38 (S : He.SaysX fa fnA [] tf ex w h K) (E : ExK clsN iniN hs tf cons K) (TB : ∀ p ∈ tf.map (He.cT K), LamX.TabB base mg p.1 p.2) : FnG prog w K mg base (gr w K mg base) sc38 ((gr w K mg base).g.fa 38) ⟨2, 1, B38, false⟩ := by
  obtain ⟨fd, F⟩ := S.t.d.defs (inFnA 38 (d := topD 50) (by kernel_rfl))
  exact fng_of (x := "_law_turn") (params := (topD 50).params) (body := fBody (st 50)) F fs38 b38_eq (by decide +kernel) (by decide +kernel) (fun _ _ _ _ _ _ us hl => match us, hl with | [_], _ => rfl) (fun h => by cases h)
theorem fs39 : FnScope N39 (["pen", "n", "many"] : List Str) (fScope (st 51)) := ⟨rfl, rfl, rfl, by decide +kernel, rfl, by decide +kernel, by decide +kernel⟩
theorem fg39 (S : He.SaysX fa fnA [] tf ex w h K) (E : ExK clsN iniN hs tf cons K) (TB : ∀ p ∈ tf.map (He.cT K), LamX.TabB base mg p.1 p.2) : FnG prog w K mg base (gr w K mg base) sc39 ((gr w K mg base).g.fa 39) ⟨6, 3, B39, false⟩ := by
  obtain ⟨fd, F⟩ := S.t.d.defs (inFnA 39 (d := topD 51) (by kernel_rfl))
  exact fng_of (x := "_law_play") (params := (topD 51).params) (body := fBody (st 51)) F fs39 b39_eq (by decide +kernel) (by decide +kernel) (fun _ _ _ _ _ _ us hl => match us, hl with | [_, _, _], _ => rfl) (fun h => by cases h)
theorem fs40 : FnScope N40 (["row", "n", "rule", "m"] : List Str) (fScope (st 52)) := ⟨rfl, rfl, rfl, by decide +kernel, rfl, by decide +kernel, by decide +kernel⟩
theorem fg40 (S : He.SaysX fa fnA [] tf ex w h K) (E : ExK clsN iniN hs tf cons K) (TB : ∀ p ∈ tf.map (He.cT K), LamX.TabB base mg p.1 p.2) : FnG prog w K mg base (gr w K mg base) sc40 ((gr w K mg base).g.fa 40) ⟨9, 4, B40, false⟩ := by
  obtain ⟨fd, F⟩ := S.t.d.defs (inFnA 40 (d := topD 52) (by kernel_rfl))
  exact fng_of (x := "_law_end") (params := (topD 52).params) (body := fBody (st 52)) F fs40 b40_eq (by decide +kernel) (by decide +kernel) (fun _ _ _ _ _ _ us hl => match us, hl with | [_, _, _, _], _ => rfl) (fun h => by cases h)
theorem fs41 : FnScope N41 (["row", "n", "rule", "m"] : List Str) (fScope (st 53)) := ⟨rfl, rfl, rfl, by decide +kernel, rfl, by decide +kernel, by decide +kernel⟩
theorem fg41 (S : He.SaysX fa fnA [] tf ex w h K) (E : ExK clsN iniN hs tf cons K) (TB : ∀ p ∈ tf.map (He.cT K), LamX.TabB base mg p.1 p.2) : FnG prog w K mg base (gr w K mg base) sc41 ((gr w K mg base).g.fa 41) ⟨6, 4, B41, false⟩ := by
  obtain ⟨fd, F⟩ := S.t.d.defs (inFnA 41 (d := topD 53) (by kernel_rfl))
  exact fng_of (x := "_law_is_both") (params := (topD 53).params) (body := fBody (st 53)) F fs41 b41_eq (by decide +kernel) (by decide +kernel) (fun _ _ _ _ _ _ us hl => match us, hl with | [_, _, _, _], _ => rfl) (fun h => by cases h)
theorem fs42 : FnScope N42 (["call"] : List Str) (fScope (st 54)) := ⟨rfl, rfl, rfl, by decide +kernel, rfl, by decide +kernel, by decide +kernel⟩
theorem fs43 : FnScope N43 ([] : List Str) (fScope (st 55)) := ⟨rfl, rfl, rfl, by decide +kernel, rfl, by decide +kernel, by decide +kernel⟩
theorem fg43 (S : He.SaysX fa fnA [] tf ex w h K) (E : ExK clsN iniN hs tf cons K) (TB : ∀ p ∈ tf.map (He.cT K), LamX.TabB base mg p.1 p.2) : FnG prog w K mg base (gr w K mg base) sc43 ((gr w K mg base).g.fa 43) ⟨1, 0, B43, false⟩ := by
  obtain ⟨fd, F⟩ := S.t.d.defs (inFnA 43 (d := topD 55) (by kernel_rfl))
  exact fng_of (x := "_law_no_positions") (params := (topD 55).params) (body := fBody (st 55)) F fs43 b43_eq (by decide +kernel) (by decide +kernel) (fun _ _ _ _ _ _ us hl => match us, hl with | [], _ => rfl) (fun h => by cases h)
theorem fs44 : FnScope N44 (["pen", "n", "row"] : List Str) (fScope (st 56)) := ⟨rfl, rfl, rfl, by decide +kernel, rfl, by decide +kernel, by decide +kernel⟩
theorem fg44 (S : He.SaysX fa fnA [] tf ex w h K) (E : ExK clsN iniN hs tf cons K) (TB : ∀ p ∈ tf.map (He.cT K), LamX.TabB base mg p.1 p.2) : FnG prog w K mg base (gr w K mg base) sc44 ((gr w K mg base).g.fa 44) ⟨16, 3, B44, false⟩ := by
  obtain ⟨fd, F⟩ := S.t.d.defs (inFnA 44 (d := topD 56) (by kernel_rfl))
  exact fng_of (x := "_law_ties_right") (params := (topD 56).params) (body := fBody (st 56)) F fs44 b44_eq (by decide +kernel) (by decide +kernel) (fun _ _ _ _ _ _ us hl => match us, hl with | [_, _, _], _ => rfl) (fun _ => lam_of S TB fd (p := ("_law_ties_right", none)) (by decide +kernel) F (fun _ _ _ _ => rfl))
theorem fs45 : FnScope N45 (["n", "row"] : List Str) (fScope (st 57)) := ⟨rfl, rfl, rfl, by decide +kernel, rfl, by decide +kernel, by decide +kernel⟩
theorem fg45 (S : He.SaysX fa fnA [] tf ex w h K) (E : ExK clsN iniN hs tf cons K) (TB : ∀ p ∈ tf.map (He.cT K), LamX.TabB base mg p.1 p.2) : FnG prog w K mg base (gr w K mg base) sc45 ((gr w K mg base).g.fa 45) ⟨8, 2, B45, false⟩ := by
  obtain ⟨fd, F⟩ := S.t.d.defs (inFnA 45 (d := topD 57) (by kernel_rfl))
  exact fng_of (x := "_law_ends_right") (params := (topD 57).params) (body := fBody (st 57)) F fs45 b45_eq (by decide +kernel) (by decide +kernel) (fun _ _ _ _ _ _ us hl => match us, hl with | [_, _], _ => rfl) (fun _ => lam_of S TB fd (p := ("_law_ends_right", none)) (by decide +kernel) F (fun _ _ _ _ => rfl))
theorem fs46 : FnScope N46 (["pen", "n", "row"] : List Str) (fScope (st 58)) := ⟨rfl, rfl, rfl, by decide +kernel, rfl, by decide +kernel, by decide +kernel⟩
theorem fg46 (S : He.SaysX fa fnA [] tf ex w h K) (E : ExK clsN iniN hs tf cons K) (TB : ∀ p ∈ tf.map (He.cT K), LamX.TabB base mg p.1 p.2) : FnG prog w K mg base (gr w K mg base) sc46 ((gr w K mg base).g.fa 46) ⟨9, 3, B46, false⟩ := by
  obtain ⟨fd, F⟩ := S.t.d.defs (inFnA 46 (d := topD 58) (by kernel_rfl))
  exact fng_of (x := "_law_errors_right") (params := (topD 58).params) (body := fBody (st 58)) F fs46 b46_eq (by decide +kernel) (by decide +kernel) (fun _ _ _ _ _ _ us hl => match us, hl with | [_, _, _], _ => rfl) (fun _ => lam_of S TB fd (p := ("_law_errors_right", none)) (by decide +kernel) F (fun _ _ _ _ => rfl))
theorem fs47 : FnScope N47 (["script"] : List Str) (fScope (st 59)) := ⟨rfl, rfl, rfl, by decide +kernel, rfl, by decide +kernel, by decide +kernel⟩
theorem fg47 (S : He.SaysX fa fnA [] tf ex w h K) (E : ExK clsN iniN hs tf cons K) (TB : ∀ p ∈ tf.map (He.cT K), LamX.TabB base mg p.1 p.2) : FnG prog w K mg base (gr w K mg base) sc47 ((gr w K mg base).g.fa 47) ⟨5, 1, B47, false⟩ := by
  obtain ⟨fd, F⟩ := S.t.d.defs (inFnA 47 (d := topD 59) (by kernel_rfl))
  exact fng_of (x := "law") (params := (topD 59).params) (body := fBody (st 59)) F fs47 b47_eq (by decide +kernel) (by decide +kernel) (fun _ _ _ _ _ _ us hl => match us, hl with | [_], _ => rfl) (fun h => by cases h)
end
end LW
namespace LW
open PySem PySem.Spec PyProof.Rows L2 VM
theorem look_memN {β : Type} {x : Nat} {r : β} : ∀ {l : List (Nat × β)}, l.lookup x = some r → (x, r) ∈ l
  | [], h => by cases h
  | (b, u) :: l, h => by
    rw [List.lookup_cons] at h
    cases q : (x == b) with
    | true =>
      rw [q] at h
      have e : u = r := Option.some.inj h
      rw [eq_of_beq q, e]
      exact List.mem_cons_self
    | false =>
      rw [q] at h
      exact List.mem_cons_of_mem _ (look_memN h)
theorem gl_name {x : Str} {i : Nat} (h : gl.lookup x = some (.fn i)) : fnN[i]? = some x := of_decide_eq_true (List.all_eq_true.mp (show gl.all (nameB fnN clsN freeN) = true by decide +kernel) _ (look_mem h))
def ownB (p : Str × GR) : Bool := match p.2 with
  | .cls i => [1, 2, 3, 4].contains i
  | _ => true
theorem gl_cls {x : Str} {i : Nat} (h : gl.lookup x = some (.cls i)) : i ∈ ([1, 2, 3, 4] : List Nat) := List.contains_iff_mem.mp (List.all_eq_true.mp (show gl.all ownB = true by decide +kernel) _ (look_mem h))
end LW

namespace LW
open PySem PySem.Spec PyProof.Rows L2 VM
section
variable {w : World} {K : PySem.W.Frag} {h base : Heap} {mg : Str → Option Value}
def noD : He.DefD := ⟨("", none), "", "", ⟨[], [], none, [], [], none, []⟩, [], ⟨.function, [], false, false, []⟩, [], []⟩
def iD (i : Nat) : He.DefD := fnA.getD i noD
theorem cl1 (S : He.SaysX fa fnA [] tf ex w h K) (E : ExK clsN iniN hs tf cons K) : ClsE prog w K mg base 1 ((gr w K mg base).g.ca 1) (flds 1) :=
  clsE_of (C := "BadNumber") (d := iD 48) S.t.d (E.ox _ (by decide +kernel)).1 (E.no ("BadNumber", flds 1) (by decide +kernel)) (inMeth (by decide +kernel)) (inFnA 48 (by kernel_rfl)) (by kernel_rfl) (by kernel_rfl) (by kernel_rfl) (by kernel_rfl) (by kernel_rfl) (fun _ _ _ _ _ _ us hl => match us, hl with | [_, _, _], _ => rfl)
theorem cl2 (S : He.SaysX fa fnA [] tf ex w h K) (E : ExK clsN iniN hs tf cons K) : ClsE prog w K mg base 1 ((gr w K mg base).g.ca 2) (flds 2) :=
  clsE_of (C := "BadName") (d := iD 49) S.t.d (E.ox _ (by decide +kernel)).1 (E.no ("BadName", flds 2) (by decide +kernel)) (inMeth (by decide +kernel)) (inFnA 49 (by kernel_rfl)) (by kernel_rfl) (by kernel_rfl) (by kernel_rfl) (by kernel_rfl) (by kernel_rfl) (fun _ _ _ _ _ _ us hl => match us, hl with | [_, _], _ => rfl)
theorem cl3 (S : He.SaysX fa fnA [] tf ex w h K) (E : ExK clsN iniN hs tf cons K) : ClsE prog w K mg base 1 ((gr w K mg base).g.ca 3) (flds 3) :=
  clsE_of (C := "BadHueing") (d := iD 50) S.t.d (E.ox _ (by decide +kernel)).1 (E.no ("BadHueing", flds 3) (by decide +kernel)) (inMeth (by decide +kernel)) (inFnA 50 (by kernel_rfl)) (by kernel_rfl) (by kernel_rfl) (by kernel_rfl) (by kernel_rfl) (by kernel_rfl) (fun _ _ _ _ _ _ us hl => match us, hl with | [_, _], _ => rfl)
theorem cl4 (S : He.SaysX fa fnA [] tf ex w h K) (E : ExK clsN iniN hs tf cons K) : ClsE prog w K mg base 1 ((gr w K mg base).g.ca 4) (flds 4) :=
  clsE_of (C := "NotKept") (d := iD 51) S.t.d (E.ox _ (by decide +kernel)).1 (E.no ("NotKept", flds 4) (by decide +kernel)) (inMeth (by decide +kernel)) (inFnA 51 (by kernel_rfl)) (by kernel_rfl) (by kernel_rfl) (by kernel_rfl) (by kernel_rfl) (by kernel_rfl) (fun _ _ _ _ _ _ us hl => match us, hl with | [_, _, _], _ => rfl)
theorem me42 (S : He.SaysX fa fnA [] tf ex w h K) (E : ExK clsN iniN hs tf cons K) (X : K.In h) (G : h.Ns mainGlobals mg) : MetOk prog w K mg (gr w K mg base).g clsN.length ((gr w K mg base).g.fa 42) "_law_met" [([3], ("BadHueing" : Str), ["hueing"]), ([2], ("BadName" : Str), ["name"]), ([1], ("BadNumber" : Str), ["what", "number"]), ([4], ("NotKept" : Str), ["promise", "witness"])] :=
  metOk_of (a := "call") (Ng := N42) (d := topD 54) (h₀ := hdl (topD 54).body 0) (hds := [hdl (topD 54).body 1, hdl (topD 54).body 2, hdl (topD 54).body 3]) S.t.d (inFnA 42 (by kernel_rfl)) (by kernel_rfl) (by kernel_rfl) (by kernel_rfl) (by kernel_rfl) (by kernel_rfl) fs42 rfl (.inl (by kernel_rfl)) (by kernel_rfl) (by kernel_rfl) (.cons (hdOk_of (eh := hdl (topD 54).body 0) (x := "BadHueing") (n := "e") (cE := 3) (i := 1) E X G S.t.d (fun _ z => inCls z) (by decide +kernel) (by kernel_rfl) (by kernel_rfl) (by kernel_rfl) (by kernel_rfl) (by kernel_rfl) (by kernel_rfl) (by kernel_rfl) (by decide +kernel)) (.cons (hdOk_of (eh := hdl (topD 54).body 1) (x := "BadName") (n := "e") (cE := 2) (i := 1) E X G S.t.d (fun _ z => inCls z) (by decide +kernel) (by kernel_rfl) (by kernel_rfl) (by kernel_rfl) (by kernel_rfl) (by kernel_rfl) (by kernel_rfl) (by kernel_rfl) (by decide +kernel)) (.cons (hdOk_of (eh := hdl (topD 54).body 2) (x := "BadNumber") (n := "e") (cE := 1) (i := 1) E X G S.t.d (fun _ z => inCls z) (by decide +kernel) (by kernel_rfl) (by kernel_rfl) (by kernel_rfl) (by kernel_rfl) (by kernel_rfl) (by kernel_rfl) (by kernel_rfl) (by decide +kernel)) (.cons (hdOk_of (eh := hdl (topD 54).body 3) (x := "NotKept") (n := "e") (cE := 4) (i := 1) E X G S.t.d (fun _ z => inCls z) (by decide +kernel) (by kernel_rfl) (by kernel_rfl) (by kernel_rfl) (by kernel_rfl) (by kernel_rfl) (by kernel_rfl) (by kernel_rfl) (by decide +kernel)) (.nil))))) (fun _ _ _ _ _ _ us hl => match us, hl with | [_], _ => rfl)
/-- the ground of the law -/
theorem grd (S : He.SaysX fa fnA [] tf ex w h K) (X : K.In h) (G : h.Ns mainGlobals mg) : Grd prog w K mg base (gr w K mg base) flds gl ng mt := by
  have E := exK_ok (show exK clsN iniN hs tf cons K = true from S.more)
  refine ⟨rfl, rfl, rfl, rfl, gok_all X G S.t.d (fun _ z => inFn z) (fun _ z => inCls z) (fun _ z => inFree z) (by decide +kernel) (fun _ _ z => E.con _ (List.mem_filterMap.mpr ⟨_, look_mem z, rfl⟩)), fun x i hs2 h1 h2 => ?_, fun x i h1 => ?_⟩
  · have m := look_memN h2
    have g := gl_name h1
    unfold mt at m
    simp only [List.mem_cons, Prod.mk.injEq, List.mem_nil_iff, or_false] at m
    obtain ⟨rfl, rfl⟩ := m
    have e : x = "_law_met" := Option.some.inj (g.symm.trans (by kernel_rfl))
    subst e
    exact ⟨_, me42 S E X G⟩
  · have g := gl_cls h1
    simp only [List.mem_cons, List.mem_nil_iff, or_false] at g
    rcases g with rfl | rfl | rfl | rfl
    · exact cl1 S E
    · exact cl2 S E
    · exact cl3 S E
    · exact cl4 S E
/-- the defs of the law -/
theorem fgs (S : He.SaysX fa fnA [] tf ex w h K) (TB : ∀ p ∈ tf.map (He.cT K), LamX.TabB base mg p.1 p.2) : ∀ i, i < 48 → mt.lookup i = none → ∃ c fe, tab[i]? = some fe ∧ c.gl = gl ∧ c.ng = ng ∧ c.mt = mt ∧ c.ib = none ∧ c.gd = (!ng.contains i) ∧ FnG prog w K mg base (gr w K mg base) c ((gr w K mg base).g.fa i) fe
  | 0, _, _ => ⟨sc0, _, rfl, rfl, rfl, rfl, rfl, rfl, fg0 S (exK_ok S.more) TB⟩
  | 1, _, _ => ⟨sc1, _, rfl, rfl, rfl, rfl, rfl, rfl, fg1 S (exK_ok S.more) TB⟩
  | 2, _, _ => ⟨sc2, _, rfl, rfl, rfl, rfl, rfl, rfl, fg2 S (exK_ok S.more) TB⟩
  | 3, _, _ => ⟨sc3, _, rfl, rfl, rfl, rfl, rfl, rfl, fg3 S (exK_ok S.more) TB⟩
  | 4, _, _ => ⟨sc4, _, rfl, rfl, rfl, rfl, rfl, rfl, fg4 S (exK_ok S.more) TB⟩
  | 5, _, _ => ⟨sc5, _, rfl, rfl, rfl, rfl, rfl, rfl, fg5 S (exK_ok S.more) TB⟩
  | 6, _, _ => ⟨sc6, _, rfl, rfl, rfl, rfl, rfl, rfl, fg6 S (exK_ok S.more) TB⟩
  | 7, _, _ => ⟨sc7, _, rfl, rfl, rfl, rfl, rfl, rfl, fg7 S (exK_ok S.more) TB⟩
  | 8, _, _ => ⟨sc8, _, rfl, rfl, rfl, rfl, rfl, rfl, fg8 S (exK_ok S.more) TB⟩
  | 9, _, _ => ⟨sc9, _, rfl, rfl, rfl, rfl, rfl, rfl, fg9 S (exK_ok S.more) TB⟩
  | 10, _, _ => ⟨sc10, _, rfl, rfl, rfl, rfl, rfl, rfl, fg10 S (exK_ok S.more) TB⟩
  | 11, _, _ => ⟨sc11, _, rfl, rfl, rfl, rfl, rfl, rfl, fg11 S (exK_ok S.more) TB⟩
  | 12, _, _ => ⟨sc12, _, rfl, rfl, rfl, rfl, rfl, rfl, fg12 S (exK_ok S.more) TB⟩
  | 13, _, _ => ⟨sc13, _, rfl, rfl, rfl, rfl, rfl, rfl, fg13 S (exK_ok S.more) TB⟩
  | 14, _, _ => ⟨sc14, _, rfl, rfl, rfl, rfl, rfl, rfl, fg14 S (exK_ok S.more) TB⟩
  | 15, _, _ => ⟨sc15, _, rfl, rfl, rfl, rfl, rfl, rfl, fg15 S (exK_ok S.more) TB⟩
  | 16, _, _ => ⟨sc16, _, rfl, rfl, rfl, rfl, rfl, rfl, fg16 S (exK_ok S.more) TB⟩
  | 17, _, _ => ⟨sc17, _, rfl, rfl, rfl, rfl, rfl, rfl, fg17 S (exK_ok S.more) TB⟩
  | 18, _, _ => ⟨sc18, _, rfl, rfl, rfl, rfl, rfl, rfl, fg18 S (exK_ok S.more) TB⟩
  | 19, _, _ => ⟨sc19, _, rfl, rfl, rfl, rfl, rfl, rfl, fg19 S (exK_ok S.more) TB⟩
  | 20, _, _ => ⟨sc20, _, rfl, rfl, rfl, rfl, rfl, rfl, fg20 S (exK_ok S.more) TB⟩
  | 21, _, _ => ⟨sc21, _, rfl, rfl, rfl, rfl, rfl, rfl, fg21 S (exK_ok S.more) TB⟩
  | 22, _, _ => ⟨sc22, _, rfl, rfl, rfl, rfl, rfl, rfl, fg22 S (exK_ok S.more) TB⟩
  | 23, _, _ => ⟨sc23, _, rfl, rfl, rfl, rfl, rfl, rfl, fg23 S (exK_ok S.more) TB⟩
  | 24, _, _ => ⟨sc24, _, rfl, rfl, rfl, rfl, rfl, rfl, fg24 S (exK_ok S.more) TB⟩
  | 25, _, _ => ⟨sc25, _, rfl, rfl, rfl, rfl, rfl, rfl, fg25 S (exK_ok S.more) TB⟩
  | 26, _, _ => ⟨sc26, _, rfl, rfl, rfl, rfl, rfl, rfl, fg26 S (exK_ok S.more) TB⟩
  | 27, _, _ => ⟨sc27, _, rfl, rfl, rfl, rfl, rfl, rfl, fg27 S (exK_ok S.more) TB⟩
  | 28, _, _ => ⟨sc28, _, rfl, rfl, rfl, rfl, rfl, rfl, fg28 S (exK_ok S.more) TB⟩
  | 29, _, _ => ⟨sc29, _, rfl, rfl, rfl, rfl, rfl, rfl, fg29 S (exK_ok S.more) TB⟩
  | 30, _, _ => ⟨sc30, _, rfl, rfl, rfl, rfl, rfl, rfl, fg30 S (exK_ok S.more) TB⟩
  | 31, _, _ => ⟨sc31, _, rfl, rfl, rfl, rfl, rfl, rfl, fg31 S (exK_ok S.more) TB⟩
  | 32, _, _ => ⟨sc32, _, rfl, rfl, rfl, rfl, rfl, rfl, fg32 S (exK_ok S.more) TB⟩
  | 33, _, _ => ⟨sc33, _, rfl, rfl, rfl, rfl, rfl, rfl, fg33 S (exK_ok S.more) TB⟩
  | 34, _, _ => ⟨sc34, _, rfl, rfl, rfl, rfl, rfl, rfl, fg34 S (exK_ok S.more) TB⟩
  | 35, _, _ => ⟨sc35, _, rfl, rfl, rfl, rfl, rfl, rfl, fg35 S (exK_ok S.more) TB⟩
  | 36, _, _ => ⟨sc36, _, rfl, rfl, rfl, rfl, rfl, rfl, fg36 S (exK_ok S.more) TB⟩
  | 37, _, _ => ⟨sc37, _, rfl, rfl, rfl, rfl, rfl, rfl, fg37 S (exK_ok S.more) TB⟩
  | 38, _, _ => ⟨sc38, _, rfl, rfl, rfl, rfl, rfl, rfl, fg38 S (exK_ok S.more) TB⟩
  | 39, _, _ => ⟨sc39, _, rfl, rfl, rfl, rfl, rfl, rfl, fg39 S (exK_ok S.more) TB⟩
  | 40, _, _ => ⟨sc40, _, rfl, rfl, rfl, rfl, rfl, rfl, fg40 S (exK_ok S.more) TB⟩
  | 41, _, _ => ⟨sc41, _, rfl, rfl, rfl, rfl, rfl, rfl, fg41 S (exK_ok S.more) TB⟩
  | 42, _, z => absurd z (by decide +kernel)
  | 43, _, _ => ⟨sc43, _, rfl, rfl, rfl, rfl, rfl, rfl, fg43 S (exK_ok S.more) TB⟩
  | 44, _, _ => ⟨sc44, _, rfl, rfl, rfl, rfl, rfl, rfl, fg44 S (exK_ok S.more) TB⟩
  | 45, _, _ => ⟨sc45, _, rfl, rfl, rfl, rfl, rfl, rfl, fg45 S (exK_ok S.more) TB⟩
  | 46, _, _ => ⟨sc46, _, rfl, rfl, rfl, rfl, rfl, rfl, fg46 S (exK_ok S.more) TB⟩
  | 47, _, _ => ⟨sc47, _, rfl, rfl, rfl, rfl, rfl, rfl, fg47 S (exK_ok S.more) TB⟩
  | n + 48, z, _ => absurd z (by omega)
theorem lt_fn {x : Str} {i : Nat} (h1 : gl.lookup x = some (.fn i)) : i < 48 := by
  have := (List.getElem?_eq_some_iff.mp (gl_name h1)).1
  have e : fnN.length = 48 := by decide +kernel
  omega
/-- the law's def keeps what the evaluator says -/
theorem fnvm (S : He.SaysX fa fnA [] tf ex w h K) (X : K.In h) (G : h.Ns mainGlobals mg) (TB : ∀ p ∈ tf.map (He.cT K), LamX.TabB base mg p.1 p.2) : FnVM prog w K mg base (gr w K mg base) (!ng.contains 47) (3 * 30 + 6) (He.ga K "law") (callN tab flds exm 30 47) :=
  fnvm_all (e := gr w K mg base) (exm := exm) (grd S X G) (fun x i h1 h2 => fgs S TB i (lt_fn h1) h2) 30 "law" 47 (by kernel_rfl) (by decide +kernel)
end
theorem law_g {w : World} {K : PySem.W.Frag} {h : Heap} {mg : Str → Option Value} {n : Nat} (S : He.SaysX fa fnA [] tf ex w h K) (X : K.In h) (G : h.Ns mainGlobals mg)
    (hlaw : ∀ ns : List Int, ns.length ≤ n → (∀ z ∈ ns, Builtin.Int.intBits z ≤ 1048576) → ∃ om', callN tab flds exm 30 47 [.sh (.rol (ns.map D.int))] [] = .ok (.sh (.bl true)) om') :
    LawG PySem.Challenge.rw_surehues_k96_whole_ties_by_turns w (3 * 30 + 6) n mg (He.ga K "law") h := by
  refine ⟨K, tf.map (He.cT K), X, fun p hp => ?_, fun p hp => ?_, fun p hp => ?_, fun base X2 G2 TB => ⟨gr w K mg base, _, _, rfl, fun q hq => ?_, fnvm S X G TB, hlaw⟩⟩
  · obtain ⟨q, hq, rfl⟩ := List.mem_map.mp hp
    exact S.empty q hq
  · obtain ⟨q, hq, rfl⟩ := List.mem_map.mp hp
    exact S.out q hq
  · obtain ⟨q, hq, rfl⟩ := List.mem_map.mp hp
    exact PySem.W.codeHd_of_K X (S.hd q hq)
  · obtain ⟨q2, hq2, rfl⟩ := List.mem_map.mp hq
    exact List.mem_map.mpr ⟨He.cT K q2, List.mem_map.mpr ⟨q2, hq2, rfl⟩, rfl⟩
end LW
namespace LW
open PySem PySem.W PySem.Calls PyProof.Rows HandSHeadRun
abbrev qv : Program := view R.prog [59]
abbrev dv := topDef R.prog 59
theorem hd1 : opening R.prog = plainProg R.prog.main.scope.names := by kernel_rfl
theorem hd2 (s : Shared) : fenceModules? R.prog s = some s := by kernel_rfl
theorem hd3 : defOf qv R.name = some (dv, []) := by kernel_rfl
theorem hd4 : R.prog.theDef R.name = some (dv.params, dv.body, dv.scope) := by kernel_rfl
theorem hd5 : kwWritten? dv.params.kwonlyargs dv.params.kw_defaults = some [] := by kernel_rfl
theorem hd6 : (!R.writes || R.records.isEmpty) = true := by rfl
theorem hd7 : R.wellSaid = true := by decide +kernel
theorem hd8 : (chainsOk qv && opensWell R.prog && (frees R.toRowW && R.within.isEmpty)) = true := by decide +kernel
theorem hd9 : R.prog.bare := ⟨rfl, rfl, rfl, rfl, rfl, by decide +kernel⟩
theorem hdw (hlaw : ∀ ns : List Int, ns.length ≤ 63 → (∀ z ∈ ns, Builtin.Int.intBits z ≤ 1048576) → ∃ om', VM.callN LW.tab LW.flds LW.exm 30 47 [.sh (.rol (ns.map VM.D.int))] [] = .ok (.sh (.bl true)) om') :
    WalkO qv nms (XL qv []) hk.says R.toRowW dv [] fun f vs => PySem.call f vs := by
  refine VM.walk_ofG (l := PySem.Challenge.rw_surehues_k96_whole_ties_by_turns) (n := 63) (k := 3 * 30 + 6) rfl (by decide) (by kernel_rfl) ⟨rfl, by decide, by decide⟩ ?F
  intro w mg fa h Y G hmg0
  obtain ⟨K, KX, c⟩ := Y
  have e1 := He.glo_ok KX G (c.t.d.facts (LW.inFn (x := "law") (by decide +kernel)))
  have hmg : mg ("law" : PySem.Str) = some (.ref fa) := by
    have e : dv.name = ("law" : PySem.Str) := by kernel_rfl
    rw [← e]
    exact hmg0
  rw [hmg] at e1
  have e2 : fa = He.ga K "law" := by injection e1 with e1; injection e1
  subst e2
  exact LW.law_g c KX G hlaw
end LW
open PySem PySem.W PySem.Calls PyProof.Rows in
/-- the row, if the evaluator says so of every script -/
theorem LW.holds_of (hlaw : ∀ ns : List Int, ns.length ≤ 63 → (∀ z ∈ ns, Builtin.Int.intBits z ≤ 1048576) → ∃ om', VM.callN LW.tab LW.flds LW.exm 30 47 [.sh (.rol (ns.map VM.D.int))] [] = .ok (.sh (.bl true)) om') : PySem.Challenge.rw_surehues_k96_whole_ties_by_turns.Holds := by
  w_on; o_law
  exact HandSHeadRun.head_any (r := LW.R) (q := LW.qv) (H := LW.hk) (ob := LW.ob) (M := 20000) (loose := LW.nms) (d := LW.dv) (kwd := []) LW.ob_eq LW.hd1 LW.hd2 LW.run LW.hd3 LW.hd4 LW.hd5 LW.hd6 LW.hd7 LW.hd8 LW.hd9 (by w_witness2) (LW.hdw hlaw)

set_option Elab.async false
set_option linter.all false
set_option maxRecDepth 100000
/-! VP00: running the evaluator by simp: combinators, congruences, loops -/
namespace VM
open PySem L2
/-! ### one thing behind another -/
/-- a type that names what it does not need: simp leaves what it names alone -/
abbrev DepT {α : Sort _} (β : Type) (_ : α) : Type := β
def SO.seq (o : SO) (k : S → SO) : SO := match o with
  | .nx s => k s
  | r => r
@[simp] theorem SO.seq_nx (s : S) (k : S → SO) : SO.seq (.nx s) k = k s := rfl
@[simp] theorem SO.seq_rt (c : C) (s : S) (k : S → SO) : SO.seq (.rt c s) k = .rt c s := rfl
@[simp] theorem SO.seq_exc (i : Nat) (fs : List (Str × D)) (s : S) (k : S → SO) : SO.seq (.exc i fs s) k = .exc i fs s := rfl
@[simp] theorem SO.seq_bk (s : S) (k : S → SO) : SO.seq (.bk s) k = .bk s := rfl
@[simp] theorem SO.seq_ct (s : S) (k : S → SO) : SO.seq (.ct s) k = .ct s := rfl
@[simp] theorem SO.seq_bad (k : S → SO) : SO.seq .bad k = .bad := rfl
/-- an expression behind another one -/
def Out.bnd {α β : Type} (o : Out α) (f : α → S → Out β) (_ : DepT Unit f := ()) : Out β := Out.bind o f
def SO.oo {α : Type} (o : Out α) (f : α → S → SO) (_ : DepT Unit f := ()) : SO := SO.ofOut o f
@[simp] theorem Out.bind_ok0 {α β : Type} (a : α) (s : S) (f : α → S → Out β) : Out.bind (.ok a s) f = f a s := rfl
@[simp] theorem Out.bind_ok {α β : Type} (a : α) (s : S) (f : α → S → Out β) (u : DepT Unit f) : Out.bnd (.ok a s) f u = f a s := rfl
@[simp] theorem Out.bind_exc {α β : Type} (k : Nat) (fs : List (Str × D)) (s : S) (f : α → S → Out β) (u : DepT Unit f) : Out.bnd (.exc k fs s) f u = .exc k fs s := rfl
@[simp] theorem Out.bind_bad {α β : Type} (f : α → S → Out β) (u : DepT Unit f) : Out.bnd .bad f u = .bad := rfl
@[simp] theorem SO.ofOut_ok {α : Type} (a : α) (s : S) (f : α → S → SO) (u : DepT Unit f) : SO.oo (.ok a s) f u = f a s := rfl
@[simp] theorem SO.ofOut_exc {α : Type} (k : Nat) (fs : List (Str × D)) (s : S) (f : α → S → SO) (u : DepT Unit f) : SO.oo (.exc k fs s) f u = .exc k fs s := rfl
@[simp] theorem SO.ofOut_bad {α : Type} (f : α → S → SO) (u : DepT Unit f) : SO.oo .bad f u = .bad := rfl
@[simp] theorem SO.ofO_some (s : S) : SO.ofO (some s) = .nx s := rfl
@[simp] theorem SO.ofO_none : SO.ofO none = .bad := rfl
@[simp] theorem Out.ofO_some {α : Type} (s : S) (a : α) : Out.ofO s (some a) = .ok a s := rfl
@[simp] theorem Out.ofO_none {α : Type} (s : S) : Out.ofO s (none : Option α) = .bad := rfl
/-- a way by a Bool -/
def iteB {α : Type} (b : Bool) (x y : α) (_ : DepT Unit (x, y) := ()) : α := match b with
  | true => x
  | false => y
@[simp] theorem iteB_true {α : Type} (x y : α) (u : DepT Unit (x, y)) : iteB true x y u = x := rfl
@[simp] theorem iteB_false {α : Type} (x y : α) (u : DepT Unit (x, y)) : iteB false x y u = y := rfl
/-- a value, if there is one -/
def optB {α : Type} (o : Option α) (f : α → SO) (_ : DepT Unit f := ()) : SO := match o with
  | some a => f a
  | none => .bad
@[simp] theorem optB_some {α : Type} (a : α) (f : α → SO) (u : DepT Unit f) : optB (some a) f u = f a := rfl
@[simp] theorem optB_none {α : Type} (f : α → SO) (u : DepT Unit f) : optB (none : Option α) f u = .bad := rfl
def optO {α β : Type} (o : Option α) (f : α → Out β) (_ : DepT Unit f := ()) : Out β := match o with
  | some a => f a
  | none => .bad
@[simp] theorem optO_some {α β : Type} (a : α) (f : α → Out β) (u : DepT Unit f) : optO (some a) f u = f a := rfl
@[simp] theorem optO_none {α β : Type} (f : α → Out β) (u : DepT Unit f) : optO (none : Option α) f u = .bad := rfl
/-! ### states -/
@[simp] theorem S.get_mk (sl : List C) (om : List D) (i : Nat) : S.get ⟨sl, om⟩ i = sl.getD i .un := rfl
@[simp] theorem S.put_mk (sl : List C) (om : List D) (i : Nat) (c : C) : S.put ⟨sl, om⟩ i c = ⟨sl.set i c, om⟩ := rfl
@[simp] theorem C.d_sh (d : D) : C.d? (.sh d) = some d := rfl
@[simp] theorem C.d_ow (d : D) : C.d? (.ow d) = some d := rfl
@[simp] theorem readSlot_mk (sl : List C) (om : List D) (i : Nat) : readSlot ⟨sl, om⟩ i = (match sl.getD i .un with
  | .sh d => .ok (.sh d) ⟨sl, om⟩
  | .ow d => .ok (.sh d) ⟨sl.set i (.sh d), om⟩
  | .clo l sn => .ok (.clo l sn) ⟨sl, om⟩
  | _ => .bad) := rfl
@[simp] theorem peekSlot_mk (sl : List C) (om : List D) (i : Nat) : peekSlot ⟨sl, om⟩ i = (match sl.getD i .un with
  | .sh d => .ok (lkV d) ⟨sl, om⟩
  | .ow _ => .ok (.slot i) ⟨sl, om⟩
  | .hd n => .ok (.hnd n) ⟨sl, om⟩
  | _ => .bad) := rfl
@[simp] theorem borrow_mk (sl : List C) (om : List D) (i : Nat) : borrow ⟨sl, om⟩ i = (match sl.getD i .un with
  | .hd n => .ok (.hd n) ⟨sl, om⟩
  | .ow d => .ok (.hd om.length) ⟨sl.set i (.hd om.length), om ++ [d]⟩
  | _ => .bad) := rfl
@[simp] theorem lkV_non : lkV .non = .val .non := rfl
@[simp] theorem lkV_bl (b : Bool) : lkV (.bl b) = .val (.bl b) := rfl
@[simp] theorem lkV_int (i : Int) : lkV (.int i) = .val (.int i) := rfl
@[simp] theorem lkV_str (x : Str) : lkV (.str x) = .val (.str x) := rfl
@[simp] theorem lkV_tup (xs : List D) : lkV (.tup xs) = .val (.tup xs) := rfl
@[simp] theorem lkV_lst (xs : List D) : lkV (.lst xs) = .val (.lst xs) := rfl
@[simp] theorem lkV_rol (xs : List D) : lkV (.rol xs) = .val (.rol xs) := rfl
@[simp] theorem lkV_dK (xs : List (Key × D)) : lkV (.dK xs) = .val (.dK xs) := rfl
@[simp] theorem lkV_dN0 (xs : List (NestedKey × D)) : lkV (.dN xs) = .val (.dN xs) := rfl
@[simp] theorem lkV_fn (i : Nat) : lkV (.fn i) = .val (.fn i) := rfl
@[simp] theorem lkV_hnd (i : Nat) : lkV (.hnd i) = .hnd i := rfl
@[simp] theorem PV.de_val (s : S) (d : D) : PV.de s (.val d) = some d := rfl
@[simp] theorem PV.de_slot (sl : List C) (om : List D) (i : Nat) : PV.de ⟨sl, om⟩ (.slot i) = (sl.getD i .un).d? := rfl
@[simp] theorem PV.de_hnd (sl : List C) (om : List D) (n : Nat) : PV.de ⟨sl, om⟩ (.hnd n) = om[n]? := rfl
@[simp] theorem PV.up_slot (sl : List C) (om : List D) (i : Nat) (d : D) : PV.up ⟨sl, om⟩ d (.slot i) = (match sl.getD i .un with
  | .ow _ => some ⟨sl.set i (.ow d), om⟩
  | _ => none) := rfl
@[simp] theorem PV.up_hnd (sl : List C) (om : List D) (n : Nat) (d : D) : PV.up ⟨sl, om⟩ d (.hnd n) = some ⟨sl, om.set n d⟩ := rfl
@[simp] theorem putC_sh (sl : List C) (om : List D) (i : Nat) (d : D) : putC ⟨sl, om⟩ i (.sh d) = if i < sl.length then some ⟨sl.set i (.sh d), om⟩ else none := rfl
@[simp] theorem putC_ow (sl : List C) (om : List D) (i : Nat) (d : D) : putC ⟨sl, om⟩ i (.ow d) = if i < sl.length then some ⟨sl.set i (.ow d), om⟩ else none := rfl
@[simp] theorem asgC_nm (i : Nat) (c : C) (s : S) : asgC (.nm i) c s = putC s i c := by rw [asgC] <;> rfl
@[simp] theorem asgC_tp (gs : List MG) (ds : List D) (s : S) : asgC (.tp gs) (.sh (.tup ds)) s = asgDs gs ds s := by rw [asgC] <;> rfl
@[simp] theorem asgC_prs (gs : List MG) (ds : List D) (s : S) : asgC (.tp gs) (.sh (.prs ds)) s = asgDs gs ds s := by rw [asgC] <;> rfl
@[simp] theorem asgDs_nil (s : S) : asgDs [] [] s = some s := by rw [asgDs] <;> rfl
@[simp] theorem asgDs_cons (g : MG) (gs : List MG) (d : D) (ds : List D) (s : S) : asgDs (g :: gs) (d :: ds) s = (asgC g (.sh d) s).bind (asgDs gs ds) := by rw [asgDs] <;> rfl
@[simp] theorem putAll_nil (s : S) : putAll s [] [] = some s := rfl
@[simp] theorem putAll_cons (s : S) (i : Nat) (is : List Nat) (c : C) (cs : List C) : putAll s (i :: is) (c :: cs) = (putC s i c).bind fun s => putAll s is cs := rfl
@[simp] theorem deAll_nil (s : S) : deAll s [] = some [] := rfl
@[simp] theorem deAll_cons (s : S) (x : PV) (xs : List PV) : deAll s (x :: xs) = (x.de s).bind fun d => (deAll s xs).map (d :: ·) := by
  rw [deAll]
  cases x.de s <;> rfl
@[simp] theorem fromRs_sh (sl : List C) (om om' : List D) (d : D) : fromRs ⟨sl, om⟩ (.ok (.sh d) om') = .ok (.sh d) ⟨sl, om'⟩ := rfl
@[simp] theorem fromRs_ow (sl : List C) (om om' : List D) (d : D) : fromRs ⟨sl, om⟩ (.ok (.ow d) om') = .ok (.ow d) ⟨sl, om'⟩ := rfl
@[simp] theorem fromRs_exc (sl : List C) (om om' : List D) (k : Nat) (fs : List (Str × D)) : fromRs ⟨sl, om⟩ (.exc k fs om') = .exc k fs ⟨sl, om'⟩ := rfl
@[simp] theorem finish_nx (s : S) : finish (.nx s) = .ok (.sh .non) s.om := rfl
@[simp] theorem finish_sh (d : D) (s : S) : finish (.rt (.sh d) s) = .ok (.sh d) s.om := rfl
@[simp] theorem finish_ow (d : D) (s : S) : finish (.rt (.ow d) s) = .ok (.ow d) s.om := rfl
@[simp] theorem finish_exc (c : Nat) (fs : List (Str × D)) (s : S) : finish (.exc c fs s) = .exc c fs s.om := rfl
@[simp] theorem noX_okk {α : Type} (a : α) (s : S) : noX (.ok a s) = .ok a s := rfl
@[simp] theorem shareAll_nil (s : S) : shareAll s [] = s := rfl
@[simp] theorem shareAll_cons (sl : List C) (om : List D) (v : Nat) (vs : List Nat) : shareAll ⟨sl, om⟩ (v :: vs) = (match sl.getD v .un with
  | .ow d => shareAll ⟨sl.set v (.sh d), om⟩ vs
  | _ => shareAll ⟨sl, om⟩ vs) := rfl
@[simp] theorem wipeC_nil (sl : List C) : wipeC sl [] = sl := rfl
@[simp] theorem wipeC_cons (sl : List C) (v : Nat) (vs : List Nat) : wipeC sl (v :: vs) = (wipeC sl vs).set v .un := rfl
@[simp] theorem backC_nil (sl old : List C) : backC sl old [] = sl := rfl
@[simp] theorem backC_cons (sl old : List C) (v : Nat) (vs : List Nat) : backC sl old (v :: vs) = (backC sl old vs).set v (old.getD v .un) := rfl
/-! ### values -/
@[simp] theorem Bn.d_eq (b : Bn) (s : S) : b.d s = (b.e s).bnd fun c s => optO c.d? fun d => .ok d s := by
  unfold Bn.d
  congr
  funext c s
  cases c <;> rfl
@[simp] theorem pOf_eq (f : S → Out C) (s : S) : pOf f s = (f s).bnd fun c s => optO c.d? fun d => .ok (lkV d) s := by
  unfold pOf
  congr
  funext c s
  cases c <;> rfl
@[simp] theorem tOf_eq (p : S → Out PV) (s : S) : tOf p s = (p s).bnd fun x s => Out.ofO s ((x.de s).bind truth) := rfl
@[simp] theorem Bn.of_e (f : S → Out C) (s : S) : (Bn.of f).e s = f s := rfl
@[simp] theorem Bn.of_p (f : S → Out C) (s : S) : (Bn.of f).p s = pOf f s := rfl
@[simp] theorem Bn.of_t (f : S → Out C) (s : S) : (Bn.of f).t s = tOf (pOf f) s := rfl
@[simp] theorem dsOf_nil (s : S) : dsOf [] s = .ok [] s := rfl
@[simp] theorem dsOf_cons (b : Bn) (bs : List Bn) (s : S) : dsOf (b :: bs) s = (b.d s).bnd fun x s => (dsOf bs s).bnd fun xs s => .ok (x :: xs) s := rfl
@[simp] theorem psOf_nil (s : S) : psOf [] s = .ok [] s := rfl
@[simp] theorem psOf_cons (b : Bn) (bs : List Bn) (s : S) : psOf (b :: bs) s = (b.p s).bnd fun x s => (psOf bs s).bnd fun xs s => .ok (x :: xs) s := rfl
@[simp] theorem csOf_nil (s : S) : csOf [] s = .ok [] s := rfl
@[simp] theorem csOf_cons (b : Bn) (bs : List Bn) (s : S) : csOf (b :: bs) s = (b.e s).bnd fun c s => match c with
    | .ow d => (csOf bs s).bnd fun cs s => .ok (.ow d :: cs) s
    | .sh d => (csOf bs s).bnd fun cs s => .ok (.sh d :: cs) s
    | _ => .bad := rfl
@[simp] theorem asOf_nil (s : S) : asOf [] s = .ok [] s := rfl
@[simp] theorem asOf_cons (b : Bn) (bs : List Bn) (s : S) : asOf (b :: bs) s = (b.e s).bnd fun c s => match c with
    | .ow d => (asOf bs s).bnd fun cs s => .ok (.sh d :: cs) s
    | .un => .bad
    | .ex _ => .bad
    | c => (asOf bs s).bnd fun cs s => .ok (c :: cs) s := rfl
@[simp] theorem ifsOf_nil (s : S) : ifsOf [] s = .ok true s := rfl
@[simp] theorem ifsOf_one (b : Bn) (s : S) : ifsOf [b] s = b.t s := rfl
@[simp] theorem intOf_none (s : S) : intOf none s = .ok none s := rfl
@[simp] theorem intOf_some (b : Bn) (s : S) : intOf (some b) s = (b.d s).bnd fun d s => match d with
    | .int i => .ok (some i) s
    | _ => .bad := rfl
theorem bind_ext {α β : Type} {o : Out α} {f g : α → S → Out β} (h : ∀ a s, f a s = g a s) : Out.bind o f = Out.bnd o g := by
  have e : f = g := funext fun a => funext fun s => h a s
  rw [e] <;> rfl
theorem ofOut_ext {α : Type} {o : Out α} {f g : α → S → SO} (h : ∀ a s, f a s = g a s) : SO.ofOut o f = SO.oo o g := by
  have e : f = g := funext fun a => funext fun s => h a s
  rw [e] <;> rfl
section
variable (cm : Cm)
@[simp] theorem ev_slot_e (i : Nat) (s : S) : (ev cm (.slot i)).e s = readSlot s i := by rw [ev] <;> rfl
@[simp] theorem ev_slot_t (i : Nat) (s : S) : (ev cm (.slot i)).t s = tOf (fun s => peekSlot s i) s := by rw [ev] <;> rfl
@[simp] theorem ev_slot_p (i : Nat) (s : S) : (ev cm (.slot i)).p s = peekSlot s i := by rw [ev] <;> rfl
@[simp] theorem ev_const (d : D) : ev cm (.const d) = .of fun s => .ok (.sh d) s := by rw [ev] <;> rfl
@[simp] theorem ev_glob (i : Nat) : ev cm (.glob i) = .of fun s => .ok (.sh (.fn i)) s := by rw [ev] <;> rfl
@[simp] theorem ev_brw (i : Nat) : ev cm (.brw i) = .of fun s => borrow s i := by rw [ev] <;> rfl
@[simp] theorem ev_bin (op : Operator) (a b : ME) : ev cm (.bin op a b) = .of fun s => ((ev cm a).p s).bnd fun x s => ((ev cm b).p s).bnd fun y s => Out.ofO s ((x.de s).bind fun d => (y.de s).bind fun e => binD op d e) := by rw [ev] <;> rfl
@[simp] theorem ev_neg (a : ME) : ev cm (.neg a) = .of fun s => ((ev cm a).p s).bnd fun x s => Out.ofO s ((x.de s).bind fun d => match d with
    | .int i => some (.sh (.int (-i)))
    | _ => none) := by rw [ev]; rfl
@[simp] theorem ev_not_e (a : ME) (s : S) : (ev cm (.not a)).e s = ((ev cm a).p s).bnd fun x s => Out.ofO s ((x.de s).bind fun d => (truthV d).map fun b => .sh (.bl (!b))) := by rw [ev] <;> rfl
@[simp] theorem ev_not_t (a : ME) (s : S) : (ev cm (.not a)).t s = ((ev cm a).t s).bnd fun b s => .ok (!b) s := by rw [ev] <;> rfl
@[simp] theorem ev_not_p (a : ME) (s : S) : (ev cm (.not a)).p s = pOf (fun s => (ev cm (.not a)).e s) s := by rw [ev] <;> rfl
@[simp] theorem ev_and_e (a b : ME) (s : S) : (ev cm (.and a b)).e s = ((ev cm a).p s).bnd fun x s => optO ((x.de s).bind truthV) fun c => iteB c ((ev cm b).e s) (keepV x s) := by
  rw [ev]
  refine bind_ext fun x s => ?_
  cases (x.de s).bind truthV with
  | none => rfl
  | some b => cases b <;> rfl
@[simp] theorem ev_and_t (a b : ME) (s : S) : (ev cm (.and a b)).t s = ((ev cm a).t s).bnd fun c s => iteB c ((ev cm b).t s) (.ok false s) := by
  rw [ev]
  refine bind_ext fun c s => ?_
  cases c <;> rfl
@[simp] theorem ev_and_p (a b : ME) (s : S) : (ev cm (.and a b)).p s = pOf (fun s => (ev cm (.and a b)).e s) s := by rw [ev] <;> rfl
@[simp] theorem ev_or_e (a b : ME) (s : S) : (ev cm (.or a b)).e s = ((ev cm a).p s).bnd fun x s => optO ((x.de s).bind truthV) fun c => iteB c (keepV x s) ((ev cm b).e s) := by
  rw [ev]
  refine bind_ext fun x s => ?_
  cases (x.de s).bind truthV with
  | none => rfl
  | some b => cases b <;> rfl
@[simp] theorem ev_or_t (a b : ME) (s : S) : (ev cm (.or a b)).t s = ((ev cm a).t s).bnd fun c s => iteB c (.ok true s) ((ev cm b).t s) := by
  rw [ev]
  refine bind_ext fun c s => ?_
  cases c <;> rfl
@[simp] theorem ev_or_p (a b : ME) (s : S) : (ev cm (.or a b)).p s = pOf (fun s => (ev cm (.or a b)).e s) s := by rw [ev] <;> rfl
@[simp] theorem keepV_val (d : D) (s : S) : keepV (.val d) s = .ok (.sh d) s := rfl
@[simp] theorem keepV_hnd (n : Nat) (s : S) : keepV (.hnd n) s = .ok (.sh (.hnd n)) s := rfl
@[simp] theorem ev_cmp (op : CmpOp) (a b : ME) : ev cm (.cmp op a b) = .of fun s => ((ev cm a).p s).bnd fun x s => ((ev cm b).p s).bnd fun y s => Out.ofO s ((x.de s).bind fun d => (y.de s).bind fun e => (cmpD op d e).map fun b => .sh (.bl b)) := by rw [ev] <;> rfl
def isNonD : D → Bool
  | .non => true
  | _ => false
@[simp] theorem ev_isN (a : ME) : ev cm (.isN a) = .of fun s => ((ev cm a).p s).bnd fun x s => Out.ofO s ((x.de s).map fun d => .sh (.bl (isNonD d))) := by rw [ev]; rfl
@[simp] theorem ev_notN (a : ME) : ev cm (.notN a) = .of fun s => ((ev cm a).p s).bnd fun x s => Out.ofO s ((x.de s).map fun d => .sh (.bl (!isNonD d))) := by
  rw [ev]
  congr
  funext s
  congr
  funext x s
  congr
  funext d
  cases d <;> rfl
@[simp] theorem isNonD_non : isNonD .non = true := rfl
@[simp] theorem isNonD_bl (b : Bool) : isNonD (.bl b) = false := rfl
@[simp] theorem isNonD_int (b : Int) : isNonD (.int b) = false := rfl
@[simp] theorem isNonD_str (b : Str) : isNonD (.str b) = false := rfl
@[simp] theorem isNonD_tup (b : List D) : isNonD (.tup b) = false := rfl
@[simp] theorem isNonD_lst (b : List D) : isNonD (.lst b) = false := rfl
@[simp] theorem ev_ife_e (t a b : ME) (s : S) : (ev cm (.ife t a b)).e s = ((ev cm t).t s).bnd fun c s => iteB c ((ev cm a).e s) ((ev cm b).e s) := by
  rw [ev]
  refine bind_ext fun c s => ?_
  cases c <;> rfl
@[simp] theorem ev_ife_t (t a b : ME) (s : S) : (ev cm (.ife t a b)).t s = ((ev cm t).t s).bnd fun c s => iteB c ((ev cm a).t s) ((ev cm b).t s) := by
  rw [ev]
  refine bind_ext fun c s => ?_
  cases c <;> rfl
@[simp] theorem ev_ife_p (t a b : ME) (s : S) : (ev cm (.ife t a b)).p s = pOf (fun s => (ev cm (.ife t a b)).e s) s := by rw [ev] <;> rfl
@[simp] theorem ev_idx (a i : ME) : ev cm (.idx a i) = .of fun s => ((ev cm a).p s).bnd fun x s => ((ev cm i).p s).bnd fun y s => Out.ofO s ((x.de s).bind fun d => (y.de s).bind fun e => (idxD d e).map .sh) := by rw [ev] <;> rfl
def slcV (d : D) (l u : Option Int) : Option C := match d with
  | .lst xs => some (.ow (.lst (cutD xs l u)))
  | .rol xs => some (.ow (.lst (cutD xs l u)))
  | .tup xs => some (.sh (.tup (cutD xs l u)))
  | _ => none
@[simp] theorem ev_slc (a : ME) (lo hi : Option ME) : ev cm (.slc a lo hi) = .of fun s => ((ev cm a).p s).bnd fun x s => (intOf (evO cm lo) s).bnd fun l s => (intOf (evO cm hi) s).bnd fun u s => Out.ofO s ((x.de s).bind fun d => slcV d l u) := by rw [ev]; rfl
@[simp] theorem slcV_lst (xs : List D) (l u : Option Int) : slcV (.lst xs) l u = some (.ow (.lst (cutD xs l u))) := rfl
@[simp] theorem slcV_tup (xs : List D) (l u : Option Int) : slcV (.tup xs) l u = some (.sh (.tup (cutD xs l u))) := rfl
def revV (d : D) : Option C := match d with
  | .lst xs => some (.ow (.lst xs.reverse))
  | .tup xs => some (.sh (.tup xs.reverse))
  | _ => none
@[simp] theorem revV_lst (xs : List D) : revV (.lst xs) = some (.ow (.lst xs.reverse)) := rfl
@[simp] theorem revV_tup (xs : List D) : revV (.tup xs) = some (.sh (.tup xs.reverse)) := rfl
@[simp] theorem ev_rev (a : ME) : ev cm (.rev a) = .of fun s => ((ev cm a).p s).bnd fun x s => Out.ofO s ((x.de s).bind revV) := by rw [ev]; rfl
@[simp] theorem ev_lst (es : List ME) : ev cm (.lst es) = .of fun s => (dsOf (evs cm es) s).bnd fun ds s => if ds.length ≤ sizeLine then .ok (.ow (.lst ds)) s else .bad := by rw [ev] <;> rfl
@[simp] theorem ev_tup (es : List ME) : ev cm (.tup es) = .of fun s => (dsOf (evs cm es) s).bnd fun ds s => if ds.length ≤ sizeLine then .ok (.sh (.tup ds)) s else .bad := by rw [ev] <;> rfl
@[simp] theorem ev_dnewT : ev cm (.dnew true) = .of fun s => .ok (.ow (.dN [])) s := by rw [ev]; rfl
@[simp] theorem ev_dnewK : ev cm (.dnew false) = .of fun s => .ok (.ow (.dK [])) s := by rw [ev]; rfl
@[simp] theorem ev_disp (ks : List Str) (es : List ME) : ev cm (.disp ks es) = .of fun s => (dsOf (evs cm es) s).bnd fun ds s => .ok (.ow (.dK ((ks.zip ds).foldl (fun r p => putD r (.inr p.1) p.2) []))) s := by rw [ev] <;> rfl
@[simp] theorem ev_call (f : Nat) (es : List ME) : ev cm (.call f es) = .of fun s => (asOf (evs cm es) s).bnd fun cs s => fromRs s (cm f cs s.om) := by rw [ev] <;> rfl
@[simp] theorem ev_bi (b : Bi) (es : List ME) : ev cm (.bi b es) = .of fun s => (psOf (evs cm es) s).bnd fun xs s => Out.ofO s ((deAll s xs).bind fun ds => biD b ds) := by rw [ev] <;> rfl
@[simp] theorem ev_isi (e : ME) (ty : Ty) : ev cm (.isi e ty) = .of fun s => ((ev cm e).p s).bnd fun x s => Out.ofO s ((x.de s).bind fun d => (tyD d ty).map fun b => .sh (.bl b)) := by rw [ev] <;> rfl
@[simp] theorem ev_meth (m : Me) (o : ME) (es : List ME) : ev cm (.meth m o es) = .of fun s => ((ev cm o).p s).bnd fun x s => iteB (isL (x.de s)) ((dsOf (evs cm es) s).bnd fun ds s => optO ((x.de s).bind fun d => meD m d ds) fun ad => optO (x.up s ad.2) fun s => .ok (.sh ad.1) s) .bad := by
  rw [ev]
  congr
  funext s
  congr
  funext x s
  cases isL (x.de s) with
  | false => rfl
  | true =>
    show Out.bind _ _ = Out.bind _ _
    congr
    funext ds s
    cases (x.de s).bind fun d => meD m d ds with
    | none => rfl
    | some ad =>
      obtain ⟨a, d'⟩ := ad
      show (match x.up s d' with | none => _ | some s => _) = optO (x.up s d') _
      cases x.up s d' <;> rfl
def lcRun (e : ME) (tg : MG) (it : MI) (ifs : List ME) (vs : List Nat) (s : S) : Out C := lcOf (ev cm e) tg (evIt cm it) (evs cm ifs) vs s
def lc2Run (e : ME) (tg : MG) (it : MI) (ifs : List ME) (tg1 : MG) (it1 : MI) (ifs1 : List ME) (vs vs1 : List Nat) (s : S) : Out C := lc2Of (ev cm e) tg (evIt cm it) (evs cm ifs) tg1 (evIt cm it1) (evs cm ifs1) vs vs1 s
@[simp] theorem ev_lc (e : ME) (tg : MG) (it : MI) (ifs : List ME) (vs : List Nat) : ev cm (.lc e tg it ifs vs) = .of fun s => lcRun cm e tg it ifs vs s := by rw [ev]; rfl
@[simp] theorem ev_lc2 (e : ME) (tg : MG) (it : MI) (ifs : List ME) (tg1 : MG) (it1 : MI) (ifs1 : List ME) (vs vs1 : List Nat) : ev cm (.lc2 e tg it ifs tg1 it1 ifs1 vs vs1) = .of fun s => lc2Run cm e tg it ifs tg1 it1 ifs1 vs vs1 s := by rw [ev]; rfl
@[simp] theorem ev_alc (a : ME) : ev cm (.alc a) = .of fun s => allocO ((ev cm a).e s) := by rw [ev] <;> rfl
@[simp] theorem alloc_ow (d : D) (sl : List C) (om : List D) : allocO (.ok (.ow d) ⟨sl, om⟩) = .ok (.sh (.hnd om.length)) ⟨sl, om ++ [d]⟩ := rfl
@[simp] theorem ev_met (hs : List (List Nat × Str × List Str)) (a : ME) : ev cm (.met hs a) = .of fun s => metOf hs ((ev cm a).e s) := by rw [ev] <;> rfl
@[simp] theorem evs_nil : evs cm [] = [] := by rw [evs] <;> rfl
@[simp] theorem evs_cons (e : ME) (es : List ME) : evs cm (e :: es) = ev cm e :: evs cm es := by rw [evs] <;> rfl
@[simp] theorem evO_none : evO cm none = none := by rw [evO] <;> rfl
@[simp] theorem evO_some (e : ME) : evO cm (some e) = some (ev cm e) := by rw [evO] <;> rfl
@[simp] theorem evIt_seq (e : ME) (s : S) : evIt cm (.seq e) s = ((ev cm e).d s).bnd fun d s => Out.ofO s (itemsD d) := by rw [evIt] <;> rfl
def rng1D (d : D) : Option (List D) := match d with
  | .int n => if inRng n then some (rngD 0 n) else none
  | _ => none
def rng2D (d e : D) : Option (List D) := match d, e with
  | .int i, .int j => if inRng i && inRng j then some (rngD i j) else none
  | _, _ => none
@[simp] theorem rng1D_int (n : Int) : rng1D (.int n) = if inRng n then some (rngD 0 n) else none := rfl
@[simp] theorem rng2D_int (i j : Int) : rng2D (.int i) (.int j) = if inRng i && inRng j then some (rngD i j) else none := rfl
@[simp] theorem evIt_rng1 (e : ME) (s : S) : evIt cm (.rng1 e) s = ((ev cm e).d s).bnd fun d s => Out.ofO s (rng1D d) := by
  rw [evIt]
  congr
  funext d s
  cases d with
  | int n =>
    show (if inRng n = true then _ else _) = Out.ofO s (if inRng n = true then some (rngD 0 n) else none)
    by_cases h : inRng n = true <;> simp [h]
  | _ => rfl
@[simp] theorem evIt_rng2 (a b : ME) (s : S) : evIt cm (.rng2 a b) s = ((ev cm a).d s).bnd fun d s => ((ev cm b).d s).bnd fun e s => Out.ofO s (rng2D d e) := by
  rw [evIt]
  congr
  funext d s
  show Out.bind _ _ = Out.bind _ _
  congr
  funext e s
  cases d with
  | int i =>
    cases e with
    | int j =>
      show (if (inRng i && inRng j) = true then _ else _) = Out.ofO s (if (inRng i && inRng j) = true then some (rngD i j) else none)
      by_cases h : (inRng i && inRng j) = true
      · rw [if_pos h, if_pos h] <;> rfl
      · rw [if_neg h, if_neg h] <;> rfl
    | _ => rfl
  | _ => cases e <;> rfl
@[simp] theorem zipDD_ll (xs ys : List D) : zipDD (.lst xs) (.lst ys) = some (zipD xs ys) := rfl
@[simp] theorem zipDD_tt (xs ys : List D) : zipDD (.tup xs) (.tup ys) = some (zipD xs ys) := rfl
@[simp] theorem zipDD_lt (xs ys : List D) : zipDD (.lst xs) (.tup ys) = some (zipD xs ys) := rfl
@[simp] theorem zipDD_tl (xs ys : List D) : zipDD (.tup xs) (.lst ys) = some (zipD xs ys) := rfl
@[simp] theorem enumDD_lst (xs : List D) : enumDD (.lst xs) = some (enumD 0 xs) := rfl
@[simp] theorem enumDD_tup (xs : List D) : enumDD (.tup xs) = some (enumD 0 xs) := rfl
@[simp] theorem evIt_zip (a b : ME) (s : S) : evIt cm (.zip a b) s = ((ev cm a).d s).bnd fun d s => ((ev cm b).d s).bnd fun e s => Out.ofO s (zipDD d e) := by rw [evIt] <;> rfl
@[simp] theorem evIt_enum (e : ME) (s : S) : evIt cm (.enum e) s = ((ev cm e).d s).bnd fun d s => Out.ofO s (enumDD d) := by rw [evIt] <;> rfl
@[simp] theorem ev_callv (i : Nat) (ok : List Nat) (es : List ME) : ev cm (.callv i ok es) = .of fun s => optO (fnAt ok (s.get i)) fun f => (asOf (evs cm es) s).bnd fun cs s => fromRs s (cm f cs s.om) := by
  rw [ev]
  congr
  funext s
  cases fnAt ok (s.get i) <;> rfl
@[simp] theorem ev_lm (m : Lm) (o : ME) (es : List ME) : ev cm (.lm m o es) = .of (lmF m (ev cm o).p (dsOf (evs cm es))) := by rw [ev] <;> rfl
variable (flds : Nat → List Str) (exm : Nat → Nat → Bool)
@[simp] theorem exSs_nil (s : S) : exSs cm flds exm [] s = .nx s := by rw [exSs] <;> rfl
/-- the rest of a body -/
def SO.thn (o : SO) (ms : List MS) : SO := SO.seq o fun s => exSs cm flds exm ms s
@[simp] theorem SO.thn_nx (s : S) (ms : List MS) : SO.thn cm flds exm (.nx s) ms = exSs cm flds exm ms s := rfl
@[simp] theorem SO.thn_rt (c : C) (s : S) (ms : List MS) : SO.thn cm flds exm (.rt c s) ms = .rt c s := rfl
@[simp] theorem SO.thn_exc (i : Nat) (fs : List (Str × D)) (s : S) (ms : List MS) : SO.thn cm flds exm (.exc i fs s) ms = .exc i fs s := rfl
@[simp] theorem SO.thn_bk (s : S) (ms : List MS) : SO.thn cm flds exm (.bk s) ms = .bk s := rfl
@[simp] theorem SO.thn_ct (s : S) (ms : List MS) : SO.thn cm flds exm (.ct s) ms = .ct s := rfl
@[simp] theorem SO.thn_bad (ms : List MS) : SO.thn cm flds exm .bad ms = .bad := rfl
@[simp] theorem exSs_cons (m : MS) (ms : List MS) (s : S) : exSs cm flds exm (m :: ms) s = SO.thn cm flds exm (exS cm flds exm m s) ms := by
  rw [exSs]
  cases exS cm flds exm m s <;> rfl
/-- a for, a while: what is walked, the text -/
def forRun (g : MG) (b : List MS) (ds : List D) (s : S) : SO := forLoop (fun d s => asgC g (.sh d) s) (fun s => exSs cm flds exm b s) ds s
def whlRun (t : ME) (b : List MS) (n : Nat) (s : S) : SO := whlLoop (fun s => (ev cm t).t s) (fun s => exSs cm flds exm b s) n s
@[simp] theorem exS_asg (g : MG) (e : ME) (s : S) : exS cm flds exm (.asg g e) s = SO.oo ((ev cm e).e s) fun c s => SO.ofO (asgC g c s) := by rw [exS] <;> rfl
@[simp] theorem exS_par (is : List Nat) (es : List ME) (s : S) : exS cm flds exm (.par is es) s = SO.oo (csOf (evs cm es) s) fun cs s => SO.ofO (putAll s is cs) := by rw [exS] <;> rfl
@[simp] theorem exS_setI (o i e : ME) (s : S) : exS cm flds exm (.setI o i e) s = SO.oo ((ev cm e).d s) fun v s => SO.oo ((ev cm o).p s) fun x s => SO.oo ((ev cm i).d s) fun k s => optB ((x.de s).bind fun d => setD d k v) fun d => SO.ofO (x.up s d) := by
  rw [exS]
  congr
  funext v s
  show SO.oo _ _ = SO.oo _ _
  congr
  funext x s
  show SO.oo _ _ = SO.oo _ _
  congr
  funext k s
  cases (x.de s).bind fun d => setD d k v <;> rfl
@[simp] theorem exS_aug (i : Nat) (op : Operator) (e : ME) (s : S) : exS cm flds exm (.aug i op e) s = (match s.get i with
    | .sh d => SO.oo ((ev cm e).d s) fun e s => optB (augD op d e) fun c => SO.ofO (putC s i c)
    | _ => .bad) := by
  rw [exS]
  cases s.get i with
  | sh d =>
    show SO.oo _ _ = SO.oo _ _
    congr
    funext e s
    cases augD op d e <;> rfl
  | _ => rfl
@[simp] theorem exS_expr (e : ME) (s : S) : exS cm flds exm (.expr e) s = SO.oo ((ev cm e).e s) fun _ s => .nx s := by rw [exS] <;> rfl
@[simp] theorem exS_ife (t : ME) (a b : List MS) (s : S) : exS cm flds exm (.ife t a b) s = SO.oo ((ev cm t).t s) fun c s => iteB c (exSs cm flds exm a s) (exSs cm flds exm b s) := by
  rw [exS]
  refine ofOut_ext fun c s => ?_
  cases c <;> rfl
@[simp] theorem exS_for (g : MG) (it : MI) (b : List MS) (s : S) : exS cm flds exm (.for g it b) s = SO.oo (evIt cm it s) fun ds s => forRun cm flds exm g b ds s := by rw [exS]; rfl
@[simp] theorem exS_whl (t : ME) (b : List MS) (s : S) : exS cm flds exm (.whl t b) s = whlRun cm flds exm t b WF s := by rw [exS]; rfl
@[simp] theorem exS_ret (e : ME) (s : S) : exS cm flds exm (.ret e) s = SO.oo ((ev cm e).e s) fun c s => .rt c s := by rw [exS] <;> rfl
@[simp] theorem exS_retN (s : S) : exS cm flds exm .retN s = .rt (.sh .non) s := by rw [exS] <;> rfl
@[simp] theorem exS_raise (c : Nat) (es : List ME) (s : S) : exS cm flds exm (.raise c es) s = SO.oo (dsOf (evs cm es) s) fun ds s => if (flds c).length = ds.length then .exc c ((flds c).zip ds) s else .bad := by rw [exS] <;> rfl
@[simp] theorem exS_brk (s : S) : exS cm flds exm .brk s = .bk s := by rw [exS] <;> rfl
@[simp] theorem exS_cont (s : S) : exS cm flds exm .cont s = .ct s := by rw [exS] <;> rfl
@[simp] theorem exS_bad (s : S) : exS cm flds exm .bad s = .bad := by rw [exS] <;> rfl
@[simp] theorem exS_pass (s : S) : exS cm flds exm .pass s = .nx s := by rw [exS] <;> rfl
end
/-! ### loops -/
/-- what a run's end is -/
def Done (o : SO) (r : Rs) : Prop := finish o = r
theorem done_of {o : SO} {r : Rs} (h : Done o r) : finish o = r := h
@[simp] theorem done_rt  (d : D) (s : S) (r : Rs) : Done (.rt (.sh d) s) r = (Rs.ok (.sh d) s.om = r) := rfl
@[simp] theorem done_ow  (d : D) (s : S) (r : Rs) : Done (.rt (.ow d) s) r = (Rs.ok (.ow d) s.om = r) := rfl
@[simp] theorem done_nx  (s : S) (r : Rs) : Done (.nx s) r = (Rs.ok (.sh .non) s.om = r) := rfl
@[simp] theorem done_exc (c : Nat) (fs : List (Str × D)) (s : S) (r : Rs) : Done (.exc c fs s) r = (Rs.exc c fs s.om = r) := rfl
/-- where a turn may end -/
def StepQ (o : SO) (Q B : S → Prop) (X : C → S → Prop) : Prop := match o with
  | .nx s => Q s
  | .ct s => Q s
  | .bk s => B s
  | .rt c s => X c s
  | _ => False
@[simp] theorem stepQ_nx (s : S) (Q B : S → Prop) (X : C → S → Prop) : StepQ (.nx s) Q B X = Q s := rfl
@[simp] theorem stepQ_ct (s : S) (Q B : S → Prop) (X : C → S → Prop) : StepQ (.ct s) Q B X = Q s := rfl
@[simp] theorem stepQ_bk (s : S) (Q B : S → Prop) (X : C → S → Prop) : StepQ (.bk s) Q B X = B s := rfl
@[simp] theorem stepQ_rt (c : C) (s : S) (Q B : S → Prop) (X : C → S → Prop) : StepQ (.rt c s) Q B X = X c s := rfl
def OptP {α : Type} (o : Option α) (f : α → Prop) : Prop := match o with
  | some a => f a
  | none => False
@[simp] theorem optP_some {α : Type} (a : α) (f : α → Prop) : OptP (some a) f = f a := rfl
def OutQ (o : Out Bool) (F T : S → Prop) : Prop := match o with
  | .ok true s => T s
  | .ok false s => F s
  | _ => False
@[simp] theorem outQ_true (s : S) (F T : S → Prop) : OutQ (.ok true s) F T = T s := rfl
@[simp] theorem outQ_false (s : S) (F T : S → Prop) : OutQ (.ok false s) F T = F s := rfl
section
variable (cm : Cm) (flds : Nat → List Str) (exm : Nat → Nat → Bool)
/-- one turn of a for -/
def ForStep (g : MG) (b : List MS) (d : D) (s : S) (Q B : S → Prop) (X : C → S → Prop) : Prop := OptP (asgC g (.sh d) s) fun s1 => StepQ (exSs cm flds exm b s1) Q B X
@[simp] theorem forStep_eq (g : MG) (b : List MS) (d : D) (s : S) (Q B : S → Prop) (X : C → S → Prop) : ForStep cm flds exm g b d s Q B X = OptP (asgC g (.sh d) s) fun s1 => StepQ (exSs cm flds exm b s1) Q B X := rfl
/-- one turn of a while -/
def WhlStep (t : ME) (b : List MS) (s : S) (R Q B : S → Prop) (X : C → S → Prop) : Prop := OutQ ((ev cm t).t s) R fun s1 => StepQ (exSs cm flds exm b s1) Q B X
@[simp] theorem whlStep_eq (t : ME) (b : List MS) (s : S) (R Q B : S → Prop) (X : C → S → Prop) : WhlStep cm flds exm t b s R Q B X = OutQ ((ev cm t).t s) R fun s1 => StepQ (exSs cm flds exm b s1) Q B X := rfl
end
def noB : S → Prop := fun _ => False
def noX' : C → S → Prop := fun _ _ => False
section
variable {cm : Cm} {flds : Nat → List Str} {exm : Nat → Nat → Bool}
/-- a for: it ends, is left, or comes back -/
theorem forRun_all {g : MG} {b : List MS} : ∀ {ds : List D} (P : Nat → S → Prop) (B : S → Prop) (X : C → S → Prop) {s : S}, P 0 s →
    (∀ k (hk : k < ds.length) s, P k s → ForStep cm flds exm g b ds[k] s (P (k + 1)) B X) → (∃ s', forRun cm flds exm g b ds s = .nx s' ∧ (P ds.length s' ∨ B s')) ∨ (∃ c s', forRun cm flds exm g b ds s = .rt c s' ∧ X c s')
  | [], P, B, X, s, h0, _ => .inl ⟨s, rfl, .inl h0⟩
  | d :: ds, P, B, X, s, h0, h => by
    have h1 := h 0 (by simp) s h0
    have h1 : OptP (asgC g (.sh d) s) fun s1 => StepQ (exSs cm flds exm b s1) (P (0 + 1)) B X := h1
    cases e1 : asgC g (.sh d) s with
    | none => rw [e1] at h1; exact h1.elim
    | some s1 =>
      rw [e1] at h1
      have h1 : StepQ (exSs cm flds exm b s1) (P (0 + 1)) B X := h1
      have go := fun s2 (h2 : P (0 + 1) s2) => forRun_all (ds := ds) (fun k => P (k + 1)) B X h2 fun k hk s hp => h (k + 1) (by simpa using hk) s hp
      have e3 : forRun cm flds exm g b (d :: ds) s = (match exSs cm flds exm b s1 with
        | .nx s => forRun cm flds exm g b ds s
        | .ct s => forRun cm flds exm g b ds s
        | .bk s => .nx s
        | .rt c s => .rt c s
        | .exc k fs s => .exc k fs s
        | .bad => .bad) := by
        unfold forRun
        rw [forLoop, e1] <;> rfl
      rw [e3]
      cases e2 : exSs cm flds exm b s1 with
      | nx s2 => rw [e2] at h1; exact go s2 h1
      | ct s2 => rw [e2] at h1; exact go s2 h1
      | bk s2 => rw [e2] at h1; exact .inl ⟨s2, rfl, .inr h1⟩
      | rt c s2 => rw [e2] at h1; exact .inr ⟨c, s2, rfl, h1⟩
      | exc k fs s2 => rw [e2] at h1; exact h1.elim
      | bad => rw [e2] at h1; exact h1.elim
theorem forRun_nx {g : MG} {b : List MS} {ds : List D} (P : Nat → S → Prop) {s : S} (h0 : P 0 s)
    (h : ∀ k (hk : k < ds.length) s, P k s → ForStep cm flds exm g b ds[k] s (P (k + 1)) noB noX') : ∃ s', forRun cm flds exm g b ds s = .nx s' ∧ P ds.length s' := by
  rcases forRun_all P noB noX' h0 h with ⟨s', e, z | z⟩ | ⟨_, _, _, z⟩
  · exact ⟨s', e, z⟩
  · exact z.elim
  · exact z.elim
/-- a for loop that ends, by what holds before each turn -/
theorem done_for {r : Rs} {g : MG} {b ms : List MS} {ds : List D} {s : S} (P : Nat → S → Prop) (h0 : P 0 s)
    (h : ∀ k (hk : k < ds.length) s, P k s → ForStep cm flds exm g b ds[k] s (P (k + 1)) noB noX') (hk : ∀ s', P ds.length s' → Done (exSs cm flds exm ms s') r) :
    Done (SO.thn cm flds exm (forRun cm flds exm g b ds s) ms) r := by
  obtain ⟨s', e, p⟩ := forRun_nx P h0 h
  rw [e]
  exact hk s' p
theorem whlRun_all {t : ME} {b : List MS} (P : Nat → S → Prop) (R : S → Prop) (X : C → S → Prop) (h : ∀ k s, P k s → WhlStep cm flds exm t b s R (fun s2 => ∃ k', k' < k ∧ P k' s2) R X) :
    ∀ (w k : Nat) (s : S), P k s → k < w → (∃ s', whlRun cm flds exm t b w s = .nx s' ∧ R s') ∨ (∃ c s', whlRun cm flds exm t b w s = .rt c s' ∧ X c s')
  | 0, k, s, _, hk => by omega
  | w + 1, k, s, hp, hk => by
    have h1 := h k s hp
    have h1 : OutQ ((ev cm t).t s) R fun s1 => StepQ (exSs cm flds exm b s1) (fun s2 => ∃ k', k' < k ∧ P k' s2) R X := h1
    unfold whlRun
    rw [whlLoop]
    cases e1 : (ev cm t).t s with
    | bad => rw [e1] at h1; exact h1.elim
    | exc k fs s1 => rw [e1] at h1; exact h1.elim
    | ok c s1 =>
      rw [e1] at h1
      cases c with
      | false => exact .inl ⟨s1, rfl, h1⟩
      | true =>
        have h1 : StepQ (exSs cm flds exm b s1) (fun s2 => ∃ k', k' < k ∧ P k' s2) R X := h1
        show (∃ s', (match exSs cm flds exm b s1 with
          | .nx s => whlLoop _ _ w s
          | .ct s => whlLoop _ _ w s
          | .bk s => .nx s
          | .rt c s => .rt c s
          | .exc k fs s => .exc k fs s
          | .bad => .bad) = SO.nx s' ∧ R s') ∨ (∃ c s', (match exSs cm flds exm b s1 with
          | .nx s => whlLoop _ _ w s
          | .ct s => whlLoop _ _ w s
          | .bk s => .nx s
          | .rt c s => .rt c s
          | .exc k fs s => .exc k fs s
          | .bad => .bad) = SO.rt c s' ∧ X c s')
        cases e2 : exSs cm flds exm b s1 with
        | nx s2 =>
          rw [e2] at h1
          obtain ⟨k', hlt, p2⟩ := h1
          exact whlRun_all P R X h w k' s2 p2 (by omega)
        | ct s2 =>
          rw [e2] at h1
          obtain ⟨k', hlt, p2⟩ := h1
          exact whlRun_all P R X h w k' s2 p2 (by omega)
        | bk s2 => rw [e2] at h1; exact .inl ⟨s2, rfl, h1⟩
        | rt c s2 => rw [e2] at h1; exact .inr ⟨c, s2, rfl, h1⟩
        | exc k fs s2 => rw [e2] at h1; exact h1.elim
        | bad => rw [e2] at h1; exact h1.elim
theorem whlRun_nx {t : ME} {b : List MS} {w m : Nat} {s : S} (P : Nat → S → Prop) (R : S → Prop) (h0 : P m s) (hm : m < w)
    (h : ∀ k s, P k s → WhlStep cm flds exm t b s R (fun s2 => ∃ k', k' < k ∧ P k' s2) R noX') : ∃ s', whlRun cm flds exm t b w s = .nx s' ∧ R s' := by
  rcases whlRun_all P R noX' h w m s h0 hm with z | ⟨_, _, _, z⟩
  · exact z
  · exact z.elim
theorem done_whl {r : Rs} {t : ME} {b ms : List MS} {w m : Nat} {s : S} (P : Nat → S → Prop) (R : S → Prop) (h0 : P m s) (hm : m < w)
    (h : ∀ k s, P k s → WhlStep cm flds exm t b s R (fun s2 => ∃ k', k' < k ∧ P k' s2) R noX') (hk : ∀ s', R s' → Done (exSs cm flds exm ms s') r) :
    Done (SO.thn cm flds exm (whlRun cm flds exm t b w s) ms) r := by
  obtain ⟨s', e, p⟩ := whlRun_nx P R h0 hm h
  rw [e]
  exact hk s' p
/-- a state's predicate, told by its name alone -/
theorem named {α : Sort _} (a : α) : ∃ b, b = a := ⟨a, rfl⟩
end
/-- what a comprehension's turn does where nothing else changes -/
def stepL (acc : List D) (s : S) : Option D → Out (List D)
  | none => .ok acc s
  | some v => .ok (acc ++ [v]) s
theorem lcLoop_pure {α : Type} {turn : D → List D → S → Out (List D)} {g : α → D} {f : α → Option D} {s : S} : ∀ {xs : List α} {acc : List D}, acc.length + xs.length ≤ sizeLine →
    (∀ x ∈ xs, ∀ acc : List D, acc.length < sizeLine → turn (g x) acc s = stepL acc s (f x)) → lcLoop turn (xs.map g) acc s = .ok (acc ++ xs.filterMap f) s
  | [], acc, _, _ => by simp [lcLoop]
  | x :: xs, acc, hl, h => by
    rw [List.map_cons, lcLoop, h x List.mem_cons_self acc (by simp at hl; omega)]
    cases e : f x with
    | none =>
      show lcLoop turn (xs.map g) acc s = _
      rw [lcLoop_pure (by simp at hl; omega) fun y hy => h y (List.mem_cons_of_mem _ hy), List.filterMap_cons, e]
    | some v =>
      show lcLoop turn (xs.map g) (acc ++ [v]) s = _
      rw [lcLoop_pure (by simp at hl ⊢; omega) fun y hy => h y (List.mem_cons_of_mem _ hy), List.filterMap_cons, e]
      simp
/-- a comprehension that changes nothing but its own names; s0: the state its turns start from -/
theorem lcRun_eq {α : Type} {cm : Cm} {e : ME} {tg : MG} {it : MI} {ifs : List ME} {vs : List Nat} {s s1 s0 : S} {g : α → D} {xs : List α} (f : α → Option D) (hit : evIt cm it s = .ok (xs.map g) s1) (h0 : ({ shareAll s1 vs with sl := wipeC (shareAll s1 vs).sl vs } : S) = s0) (hl : xs.length ≤ sizeLine)
    (h : ∀ x ∈ xs, ∀ acc : List D, acc.length < sizeLine → lcTurn (ev cm e) tg (evs cm ifs) vs (g x) acc s0 = stepL acc s0 (f x)) :
    lcRun cm e tg it ifs vs s = .ok (.ow (.lst (xs.filterMap f))) { s0 with sl := backC s0.sl (shareAll s1 vs).sl vs } := by
  unfold lcRun lcOf
  rw [hit]
  show Out.bind (noX (lcLoop (lcTurn (ev cm e) tg (evs cm ifs) vs) (xs.map g) [] { shareAll s1 vs with sl := wipeC (shareAll s1 vs).sl vs })) _ = _
  rw [h0, lcLoop_pure (by simpa using hl) h]
  simp
/-- a turn of a comprehension -/
theorem lcTurn_eq {e : Bn} {tg : MG} {ifs : List Bn} {vs : List Nat} {d : D} {acc : List D} {s s1 s0 : S} (b : Bool) (v : D) (ha : asgC tg (.sh d) s = some s1) (hi : ifsOf ifs s1 = .ok b s1) (he : b = true → e.d s1 = .ok v s1) (hw : ({ s1 with sl := wipeC s1.sl vs } : S) = s0) (hl : acc.length < sizeLine) :
    lcTurn e tg ifs vs d acc s = stepL acc s0 (if b then some v else none) := by
  unfold lcTurn
  rw [ha]
  show (ifsOf ifs s1).bind _ = _
  rw [hi]
  cases b with
  | false => exact congrArg (Out.ok acc) hw
  | true =>
    show (e.d s1).bind _ = _
    rw [he rfl]
    show (match pushD acc v with | none => _ | some acc => _) = _
    unfold pushD
    rw [if_pos hl]
    exact congrArg (Out.ok (acc ++ [v])) hw
end VM

set_option Elab.async false
set_option linter.all false
set_option maxRecDepth 100000
/-! VP01: data: numbers, rows of numbers, what repr and == say of them -/
namespace VM
open PySem L2
@[simp] theorem sizeLine_lit : sizeLine = 16777216 := rfl
abbrev nI (n : Nat) : D := .int (n : Int)
def ns (xs : List Nat) : List D := xs.map nI
@[simp] theorem ns_length (xs : List Nat) : (ns xs).length = xs.length := by simp [ns]
theorem ns_nil : ns [] = [] := rfl
theorem ns_cons (x : Nat) (xs : List Nat) : ns (x :: xs) = nI x :: ns xs := rfl
theorem ns_append (xs ys : List Nat) : ns (xs ++ ys) = ns xs ++ ns ys := by simp [ns]
theorem ns_get (xs : List Nat) (k : Nat) (h : k < (ns xs).length) : (ns xs)[k] = nI (xs[k]'(by simpa using h)) := by simp [ns]
theorem ns_get? (xs : List Nat) (k : Nat) : (ns xs)[k]? = xs[k]?.map nI := by simp [ns]
theorem rngD_nat (a b : Nat) : rngD (a : Int) (b : Int) = ns ((List.range (b - a)).map (a + ·)) := by
  unfold rngD ns
  rw [List.map_map]
  have : ((b : Int) - (a : Int)).toNat = b - a := by omega
  rw [this]
  apply List.map_congr_left
  intro x _
  simp
theorem rngD_zero (b : Nat) : rngD 0 (b : Int) = ns (List.range b) := by
  have := rngD_nat 0 b
  simpa using this
theorem inRng_nat {n : Nat} (h : n < 2 ^ 60) : inRng (n : Int) = true := by
  unfold inRng
  simp
  omega
theorem small_nat {n : Nat} (h : n < 2 ^ 63) : small (n : Int) = true := by
  unfold small
  simp
  omega
theorem sizeLine_big {n : Nat} (h : n ≤ 16777216) : n ≤ sizeLine := h
theorem sizeLine_gt {n : Nat} (h : n < 16777216) : n < sizeLine := h
/-! ### an index -/
theorem atI_nat {α : Type} (xs : List α) (k : Nat) : atI xs (k : Int) = xs[k]? := by
  unfold atI ixN
  by_cases h : k < xs.length
  · simp [h]
  · simp [h]
theorem idx_lst (xs : List D) (k : Nat) : idxD (.lst xs) (nI k) = xs[k]? := by
  show atI xs (k : Int) = _
  exact atI_nat xs k
theorem idx_tup (xs : List D) (k : Nat) : idxD (.tup xs) (nI k) = xs[k]? := by
  show atI xs (k : Int) = _
  exact atI_nat xs k
@[simp] theorem idx_tup0 (x : D) (xs : List D) : idxD (.tup (x :: xs)) (.int 0) = some x := idx_tup (x :: xs) 0
@[simp] theorem idx_tup1 (x y : D) (xs : List D) : idxD (.tup (x :: y :: xs)) (.int 1) = some y := idx_tup (x :: y :: xs) 1
@[simp] theorem idx_tup2 (x y z : D) (xs : List D) : idxD (.tup (x :: y :: z :: xs)) (.int 2) = some z := idx_tup (x :: y :: z :: xs) 2
@[simp] theorem idx_lst0 (x : D) (xs : List D) : idxD (.lst (x :: xs)) (.int 0) = some x := idx_lst (x :: xs) 0
/-! ### lists of numbers -/
theorem intsOf_map (xs : List Int) : intsOf (xs.map D.int) = some xs := by
  induction xs with
  | nil => rfl
  | cons x xs ih => simp [intsOf, ih]
theorem intsOf_ns (xs : List Nat) : intsOf (ns xs) = some (xs.map Int.ofNat) := by
  have : ns xs = (xs.map Int.ofNat).map D.int := by simp [ns, nI, Function.comp_def]
  rw [this, intsOf_map]
theorem boolsOf_map {α : Type} (f : α → Bool) (xs : List α) : boolsOf (xs.map fun x => D.bl (f x)) = some (xs.map f) := by
  induction xs with
  | nil => rfl
  | cons x xs ih => simp [boolsOf, ih]
/-- numbers put in order -/
def insN (x : Nat) : List Nat → List Nat
  | [] => [x]
  | y :: ys => if x ≤ y then x :: y :: ys else y :: insN x ys
def sortN : List Nat → List Nat
  | [] => []
  | x :: xs => insN x (sortN xs)
theorem insertI_nat (x : Nat) : ∀ xs : List Nat, insertI (Int.ofNat x) (xs.map Int.ofNat) = (insN x xs).map Int.ofNat
  | [] => rfl
  | y :: ys => by
    rw [List.map_cons, insertI, insN]
    by_cases h : x ≤ y
    · rw [if_pos h, if_pos (by simpa using h)] <;> rfl
    · rw [if_neg h, if_neg (by simpa using h), insertI_nat x ys] <;> rfl
theorem sortI_nat : ∀ xs : List Nat, sortI (xs.map Int.ofNat) = (sortN xs).map Int.ofNat
  | [] => rfl
  | x :: xs => by rw [List.map_cons, sortI, sortI_nat xs, insertI_nat, sortN]
theorem ns_ints (xs : List Nat) : (xs.map Int.ofNat).map D.int = ns xs := by simp [ns, nI, Function.comp_def]
theorem bi_sorted_lst (xs : List Nat) : biD .sorted [.lst (ns xs)] = some (.ow (.lst (ns (sortN xs)))) := by
  show sortD (ns xs) = _
  unfold sortD
  rw [intsOf_ns]
  show some (C.ow (.lst ((sortI (xs.map Int.ofNat)).map D.int))) = _
  rw [sortI_nat, ns_ints]
theorem bi_sorted_tup (xs : List Nat) : biD .sorted [.tup (ns xs)] = some (.ow (.lst (ns (sortN xs)))) := by
  show (intsOf (ns xs)).map _ = _
  rw [intsOf_ns, Option.map_some, sortI_nat, ns_ints]
theorem sumI_nat : ∀ xs : List Nat, sumI (xs.map Int.ofNat) = ((xs.sum : Nat) : Int)
  | [] => rfl
  | x :: xs => by
    rw [List.map_cons, sumI, sumI_nat xs, List.sum_cons]
    simp
theorem bi_sum_lst (xs : List Nat) : biD .sum [.lst (ns xs)] = some (.sh (nI xs.sum)) := by
  show (intsOf (ns xs)).map _ = _
  rw [intsOf_ns, Option.map_some, sumI_nat]
theorem bi_len_lst (xs : List D) : biD .len [.lst xs] = some (.sh (nI xs.length)) := rfl
theorem bi_len_tup (xs : List D) : biD .len [.tup xs] = some (.sh (nI xs.length)) := rfl
theorem bi_min2 (a b : Nat) : biD .min2 [nI a, nI b] = some (.sh (nI (min a b))) := by
  show some (C.sh (.int (if (b : Int) < a then b else a))) = _
  congr 3
  by_cases h : b < a
  · rw [if_pos (by omega), Nat.min_eq_right (by omega)]
  · rw [if_neg (by omega), Nat.min_eq_left (by omega)]
theorem bi_max2 (a b : Nat) : biD .max2 [nI a, nI b] = some (.sh (nI (max a b))) := by
  show some (C.sh (.int (if (b : Int) > a then b else a))) = _
  congr 3
  by_cases h : a < b
  · rw [if_pos (by omega), Nat.max_eq_right (by omega)]
  · rw [if_neg (by omega), Nat.max_eq_left (by omega)]
theorem bi_listR (n : Nat) (h : n ≤ 16777216) : biD .listR [nI n] = some (.ow (.lst (ns (List.range n)))) := by
  rw [show biD .listR [nI n] = (if inRng (n : Int) && decide ((n : Int) ≤ 16777216) then some (.ow (.lst (rngD 0 n))) else none) from rfl, inRng_nat (by omega), Bool.true_and, if_pos (decide_eq_true (by omega)), rngD_zero]
theorem bi_tupR (n : Nat) (h : n ≤ 16777216) : biD .tupR [nI n] = some (.sh (.tup (ns (List.range n)))) := by
  rw [show biD .tupR [nI n] = (if inRng (n : Int) && decide ((n : Int) ≤ 16777216) then some (.sh (.tup (rngD 0 n))) else none) from rfl, inRng_nat (by omega), Bool.true_and, if_pos (decide_eq_true (by omega)), rngD_zero]
theorem bi_all (bs : List Bool) : biD .all [.lst (bs.map D.bl)] = some (.sh (.bl (bs.all id))) := by
  show (boolsOf (bs.map D.bl)).map _ = _
  have e : boolsOf (bs.map D.bl) = some bs := (boolsOf_map id bs).trans (by rw [List.map_id])
  rw [e] <;> rfl
theorem bi_any (bs : List Bool) : biD .any [.lst (bs.map D.bl)] = some (.sh (.bl (bs.any id))) := by
  show (boolsOf (bs.map D.bl)).map _ = _
  have e : boolsOf (bs.map D.bl) = some bs := (boolsOf_map id bs).trans (by rw [List.map_id])
  rw [e] <;> rfl
/-! ### == -/
theorem toPs_ns (xs : List Nat) : toPs (ns xs) = some (xs.map fun n : Nat => PyData.int (n : Int)) := by
  induction xs with
  | nil => rfl
  | cons x xs ih => rw [ns_cons, toPs, toP]; rw [ih] <;> rfl
theorem depthAll_ints (xs : List Nat) : PyData.depthAll (xs.map fun n : Nat => PyData.int (n : Int)) = 0 := by
  induction xs with
  | nil => simp [PyData.depthAll]
  | cons x xs ih => simp [PyData.depthAll, PyData.depth, ih]
theorem canLay_ints (xs : List Nat) : PyData.canLayAll0 (xs.map fun n : Nat => PyData.int (n : Int)) = true := by
  induction xs with
  | nil => simp [PyData.canLayAll0]
  | cons x xs ih => simp [PyData.canLayAll0, PyData.canLay0, ih]
theorem eqvAll_ints : ∀ xs ys : List Nat, PyData.eqvAll (xs.map fun n : Nat => PyData.int (n : Int)) (ys.map fun n : Nat => PyData.int (n : Int)) = decide (xs = ys)
  | [], [] => by simp [PyData.eqvAll]
  | [], _ :: _ => by simp [PyData.eqvAll]
  | _ :: _, [] => by simp [PyData.eqvAll]
  | x :: xs, y :: ys => by
    rw [List.map_cons, List.map_cons, PyData.eqvAll, eqvAll_ints xs ys, PyData.eqv]
    simp [Int.ofNat_inj]
    by_cases h : x = y
    · simp [h]
    · have : ¬ (x : Int) = (y : Int) := by omega
      simp [h, this]
theorem shaped_lst (xs : List Nat) : SeqAt.shaped (.list (xs.map fun n : Nat => PyData.int (n : Int))) = true := by
  unfold SeqAt.shaped
  rw [PyData.canLay0, canLay_ints, PyData.depth, depthAll_ints] <;> rfl
theorem shaped_tup (xs : List Nat) : SeqAt.shaped (.tuple (xs.map fun n : Nat => PyData.int (n : Int))) = true := by
  unfold SeqAt.shaped
  rw [PyData.canLay0, canLay_ints, PyData.depth, depthAll_ints] <;> rfl
theorem shaped_int (i : Int) : SeqAt.shaped (.int i) = true := by
  unfold SeqAt.shaped
  rw [PyData.canLay0, PyData.depth] <;> rfl
theorem eqD_lst (xs ys : List Nat) : eqD (.lst (ns xs)) (.lst (ns ys)) = some (decide (xs = ys)) := by
  unfold eqD
  rw [toP, toPs_ns, toP, toPs_ns]
  show (if (SeqAt.shaped (.list _) && SeqAt.shaped (.list _)) = true then _ else _) = _
  rw [shaped_lst, shaped_lst, Bool.and_self, if_pos rfl, PyData.eqv, eqvAll_ints]
theorem eqD_tup (xs ys : List Nat) : eqD (.tup (ns xs)) (.tup (ns ys)) = some (decide (xs = ys)) := by
  unfold eqD
  rw [toP, toPs_ns, toP, toPs_ns]
  show (if (SeqAt.shaped (.tuple _) && SeqAt.shaped (.tuple _)) = true then _ else _) = _
  rw [shaped_tup, shaped_tup, Bool.and_self, if_pos rfl, PyData.eqv, eqvAll_ints]
theorem eqD_int (i j : Int) : eqD (.int i) (.int j) = some (decide (i = j)) := by
  unfold eqD
  rw [toP, toP]
  show (if (SeqAt.shaped (.int _) && SeqAt.shaped (.int _)) = true then _ else _) = _
  rw [shaped_int, shaped_int, Bool.and_self, if_pos rfl, PyData.eqv]
  by_cases h : i = j <;> simp [h]
theorem eqD_nat (i j : Nat) : eqD (nI i) (nI j) = some (decide (i = j)) := by
  rw [eqD_int]
  congr 1
  simp [Int.ofNat_inj]
/-- a text is itself -/
def strOk' (x : Str) : Bool := SeqAt.shaped (.str x)
theorem eqD_str {x : Str} (h : SeqAt.shaped (.str x) = true) : eqD (.str x) (.str x) = some true := by
  unfold eqD
  rw [toP]
  show (if (SeqAt.shaped (.str _) && SeqAt.shaped (.str _)) = true then _ else _) = _
  rw [h, Bool.and_self, if_pos rfl, PyData.eqv]
  simp
theorem strOk_eq : ∀ x : Str, SeqAt.shaped (.str x) = PyData.canLay0 (.str x) := fun x => by
  unfold SeqAt.shaped
  rw [PyData.depth]
  simp
/-! ### repr -/
def sOk (x : Str) : Prop := ∀ c ∈ x.cps.toList, c < 0x110000
theorem sOk_of (s : String) : sOk (Str.ofString s) := by
  intro c hc
  rw [Str.ofString_eq_toList] at hc
  have hc : c ∈ s.toList.map Char.toNat := by simpa using hc
  obtain ⟨a, _, rfl⟩ := List.mem_map.mp hc
  have := a.valid
  unfold UInt32.isValidChar Nat.isValidChar at this
  show a.val.toNat < _
  omega
theorem sOk_app {a b : Str} (h1 : sOk a) (h2 : sOk b) : sOk (a ++ b) := by
  intro c hc
  have e : (a ++ b).cps = a.cps ++ b.cps := rfl
  rw [e, Array.toList_append] at hc
  rcases List.mem_append.mp hc with h | h
  · exact h1 c h
  · exact h2 c h
theorem shaped_str {x : Str} (h : sOk x) : SeqAt.shaped (.str x) = true := by
  rw [strOk_eq, PyData.canLay0]
  unfold PyData.strOk
  rw [Array.all_eq_true_iff_forall_mem]
  intro c hc
  exact decide_eq_true (h c (by simpa using hc))
theorem cmp_str_eq {x : Str} (h : sOk x) : cmpD .Eq (.str x) (.str x) = some true := eqD_str (shaped_str h)
theorem cmp_str_ne {x : Str} (h : sOk x) : cmpD .NotEq (.str x) (.str x) = some false := by
  show (eqD _ _).map _ = _
  rw [eqD_str (shaped_str h)] <;> rfl
/-- shown in n letters at most -/
def Fit (n dep : Nat) (d : D) : Prop := ∃ p, toP d = some p ∧ p.showable = true ∧ p.shown.length ≤ n ∧ p.depth ≤ dep ∧ sOk p.shown
theorem Fit.mono {n n' dep dep' : Nat} {d : D} (h : Fit n dep d) (a : n ≤ n' := by omega) (b : dep ≤ dep' := by omega) : Fit n' dep' d := by
  obtain ⟨p, h1, h2, h3, h4, h5⟩ := h
  exact ⟨p, h1, h2, by omega, by omega, h5⟩
theorem fit_int {i : Int} (h : i.natAbs < 10 ^ 40) : Fit 41 0 (.int i) := by
  refine ⟨.int i, by rw [toP], ?_, ?_, by rw [PyData.depth]; omega, ?_⟩
  · rw [PyData.showable]
    refine decide_eq_true ?_
    by_cases h0 : i.natAbs = 0
    · rw [h0]; decide
    · have : i.natAbs < 2 ^ 140 := Nat.lt_of_lt_of_le h (by decide)
      have := (Nat.log2_lt h0).mpr this
      omega
  · rw [PyData.shown, ofString_length]
    exact int_text_length_le10 (by decide) h
  · rw [PyData.shown]
    exact sOk_of _
theorem fit_nat {i : Nat} (h : i < 10 ^ 40) : Fit 41 0 (nI i) := fit_int (by simpa using h)
theorem fit_non : Fit 4 0 .non := ⟨.none, by rw [toP], by rw [PyData.showable], by rw [PyData.shown]; decide, by rw [PyData.depth]; omega, by rw [PyData.shown]; exact sOk_of _⟩
theorem fit_bl (b : Bool) : Fit 5 0 (.bl b) := ⟨.bool b, by rw [toP], by rw [PyData.showable], by rw [PyData.shown]; cases b <;> decide, by rw [PyData.depth]; omega, by rw [PyData.shown]; cases b <;> exact sOk_of _⟩
theorem fit_str {x : Str} (h : ∀ c ∈ x.cps.toList, c < 16 ^ 8) (h2 : sOk (reprText x)) : Fit (10 * x.length + 2) 0 (.str x) :=
  ⟨.str x, by rw [toP], by rw [PyData.showable], by rw [PyData.shown]; exact StrLaws.reprText_len x h, by rw [PyData.depth]; omega, by rw [PyData.shown]; exact h2⟩
theorem textFrom_ok : ∀ (ts : List Str) (k : Nat) (acc : Str), sOk acc → (∀ t ∈ ts, sOk t) → sOk (textFrom k acc ts)
  | [], k, acc, h, _ => by rw [textFrom]; exact h
  | t :: ts, k, acc, h, h2 => by
    rw [textFrom]
    exact textFrom_ok ts (k + 1) _ (sOk_app (sOk_app h (sOk_of _)) (h2 t List.mem_cons_self)) fun u hu => h2 u (List.mem_cons_of_mem _ hu)
theorem textFrom_le (m : Nat) : ∀ (ts : List Str) (k : Nat) (acc : Str), (∀ t ∈ ts, t.length ≤ m) → (textFrom k acc ts).length ≤ acc.length + ts.length * (m + 2)
  | [], k, acc, _ => by rw [textFrom]; simp
  | t :: ts, k, acc, h => by
    rw [textFrom]
    have h1 := textFrom_le m ts (k + 1) (acc ++ (if k > 0 then ", " else "" : String) ++ t) fun u hu => h u (List.mem_cons_of_mem _ hu)
    have h2 := h t List.mem_cons_self
    have h3 : (acc ++ ((if k > 0 then ", " else "" : String) : Str) ++ t).length ≤ acc.length + 2 + t.length := by
      rw [Str.length_append, Str.length_append]
      have : ((if k > 0 then ", " else "" : String) : Str).length ≤ 2 := by split <;> decide
      omega
    rw [List.length_cons, Nat.add_mul]
    omega
theorem fits_all {n dep : Nat} : ∀ {ds : List D}, (∀ d ∈ ds, Fit n dep d) → ∃ ps, toPs ds = some ps ∧ PyData.showableAll ps = true ∧ (∀ t ∈ PyData.shownAll ps, t.length ≤ n) ∧ (PyData.shownAll ps).length = ds.length ∧ PyData.depthAll ps ≤ dep ∧ ∀ t ∈ PyData.shownAll ps, sOk t
  | [], _ => ⟨[], by rw [toPs], by rw [PyData.showableAll], by rw [PyData.shownAll]; simp, by rw [PyData.shownAll]; rfl, by rw [PyData.depthAll]; omega, by rw [PyData.shownAll]; simp⟩
  | d :: ds, h => by
    obtain ⟨p, a1, a2, a3, a4, a5⟩ := h d List.mem_cons_self
    obtain ⟨ps, b1, b2, b3, b4, b5, b6⟩ := fits_all (n := n) (dep := dep) fun e he => h e (List.mem_cons_of_mem _ he)
    refine ⟨p :: ps, ?_, ?_, ?_, ?_, ?_, ?_⟩
    · rw [toPs, a1]
      show (toPs ds).map _ = _
      rw [b1] <;> rfl
    · rw [PyData.showableAll, a2, b2] <;> rfl
    · rw [PyData.shownAll]
      intro t ht
      rcases List.mem_cons.mp ht with e | ht
      · rw [e]; exact a3
      · exact b3 t ht
    · rw [PyData.shownAll, List.length_cons, b4, List.length_cons]
    · rw [PyData.depthAll]
      omega
    · rw [PyData.shownAll]
      intro t ht
      rcases List.mem_cons.mp ht with e | ht
      · rw [e]; exact a5
      · exact b6 t ht
theorem fit_lst {n dep m : Nat} {ds : List D} (h : ∀ d ∈ ds, Fit n dep d) (hl : ds.length ≤ m) : Fit (m * (n + 2) + 2) (dep + 1) (.lst ds) := by
  obtain ⟨ps, b1, b2, b3, b4, b5, b6⟩ := fits_all h
  refine ⟨.list ps, by rw [toP, b1]; rfl, by rw [PyData.showable]; exact b2, ?_, by rw [PyData.depth]; omega, ?_⟩
  · rw [PyData.shown]
    unfold listText
    have h1 := textFrom_le n (PyData.shownAll ps) 0 "[" b3
    rw [Str.length_append]
    rw [b4] at h1
    have h2 : ("[" : Str).length = 1 := by decide
    have h3 : ("]" : Str).length = 1 := by decide
    rw [h3]
    have := Nat.mul_le_mul_right (n + 2) hl
    omega
  · rw [PyData.shown]
    exact sOk_app (textFrom_ok _ _ _ (sOk_of _) b6) (sOk_of _)
theorem join_ok : ∀ (ts : List Str), (∀ t ∈ ts, sOk t) → sOk ((", " : Str).join ts)
  | [], _ => by
    rw [Str.join]
    intro c hc
    have : c ∈ ([] : List Nat) := hc
    cases this
  | [t], h => by
    rw [Str.join]
    exact h t List.mem_cons_self
  | t :: u :: ts, h => by
    have e : (", " : Str).join (t :: u :: ts) = t ++ ", " ++ (", " : Str).join (u :: ts) := by rw [Str.join]; simp
    rw [e]
    exact sOk_app (sOk_app (h t List.mem_cons_self) (sOk_of _)) (join_ok (u :: ts) fun v hv => h v (List.mem_cons_of_mem _ hv))
theorem join_le (m : Nat) : ∀ (ts : List Str), (∀ t ∈ ts, t.length ≤ m) → ((", " : Str).join ts).length ≤ ts.length * (m + 2)
  | [], _ => by rw [Str.join]; exact Nat.zero_le _
  | [t], h => by
    rw [Str.join]
    have := h t List.mem_cons_self
    simp
    omega
  | t :: u :: ts, h => by
    have e : (", " : Str).join (t :: u :: ts) = t ++ ", " ++ (", " : Str).join (u :: ts) := by rw [Str.join]; simp
    rw [e, Str.length_append, Str.length_append]
    have h1 := join_le m (u :: ts) fun v hv => h v (List.mem_cons_of_mem _ hv)
    have h2 := h t List.mem_cons_self
    have h3 : (", " : Str).length = 2 := by decide
    rw [h3, List.length_cons (a := t), Nat.add_mul]
    omega
theorem fit_tup {n dep m : Nat} {ds : List D} (h : ∀ d ∈ ds, Fit n dep d) (hl : ds.length ≤ m) : Fit (m * (n + 2) + 3) (dep + 1) (.tup ds) := by
  obtain ⟨ps, b1, b2, b3, b4, b5, b6⟩ := fits_all h
  refine ⟨.tuple ps, by rw [toP, b1]; rfl, by rw [PyData.showable]; exact b2, ?_, by rw [PyData.depth]; omega, ?_⟩
  · rw [PyData.shown]
    unfold tupleText
    have h1 := join_le n (PyData.shownAll ps) b3
    rw [Str.length_append, Str.length_append]
    rw [b4] at h1
    have h2 : ("(" : Str).length = 1 := by decide
    have h3 : (Str.ofString (if ((PyData.shownAll ps).length == 1) = true then ",)" else ")")).length ≤ 2 := by split <;> decide
    rw [h2]
    have := Nat.mul_le_mul_right (n + 2) hl
    omega
  · rw [PyData.shown]
    exact sOk_app (sOk_app (sOk_of _) (join_ok _ b6)) (sOk_of _)
theorem reprD_fit {n dep : Nat} {d : D} (h : Fit n dep d) (hn : n ≤ 16777216) (hd : dep ≤ 32) : ∃ x, reprD d = some (.sh (.str x)) ∧ sOk x := by
  obtain ⟨p, h1, h2, h3, h4, h5⟩ := h
  refine ⟨p.shown, ?_, h5⟩
  unfold reprD
  rw [h1]
  show (if (p.showable && decide (p.shown.length ≤ sizeLine) && decide (p.depth ≤ 32)) = true then _ else _) = _
  rw [h2, decide_eq_true (sizeLine_big (by omega)), decide_eq_true (show p.depth ≤ 32 by omega), Bool.and_self, Bool.and_self, if_pos rfl]
theorem bi_repr_lst (xs : List D) : biD .repr [.lst xs] = reprD (.lst xs) := rfl
theorem bi_repr_tup (xs : List D) : biD .repr [.tup xs] = reprD (.tup xs) := rfl
theorem fit_ns {m : Nat} {xs : List Nat} (h : ∀ x ∈ xs, x < 10 ^ 40) (hl : xs.length ≤ m) : Fit (m * 43 + 3) 1 (.tup (ns xs)) ∧ Fit (m * 43 + 2) 1 (.lst (ns xs)) := by
  have h1 : ∀ d ∈ ns xs, Fit 41 0 d := fun d hd => by
    obtain ⟨x, hx, rfl⟩ := List.mem_map.mp hd
    exact fit_nat (h x hx)
  exact ⟨fit_tup h1 (by simpa using hl), fit_lst h1 (by simpa using hl)⟩
end VM

set_option Elab.async false
set_option linter.all false
set_option maxRecDepth 100000
set_option maxHeartbeats 2000000
/-! VP02: the pen: what is drawn -/
namespace VM
open PySem L2
/-! ### numbers -/
@[simp] theorem bin_add_int (i j : Int) : binD .Add (.int i) (.int j) = some (.sh (.int (i + j))) := rfl
@[simp] theorem bin_sub_int (i j : Int) : binD .Sub (.int i) (.int j) = some (.sh (.int (i - j))) := rfl
theorem bin_mul_l {i j : Int} (h : small i = true) : binD .Mult (.int i) (.int j) = some (.sh (.int (i * j))) := by
  show (if (small i || small j) = true then some (C.sh (.int (i * j))) else none) = _
  rw [h, Bool.true_or, if_pos rfl]
theorem bin_mul_r {i j : Int} (h : small j = true) : binD .Mult (.int i) (.int j) = some (.sh (.int (i * j))) := by
  show (if (small i || small j) = true then some (C.sh (.int (i * j))) else none) = _
  rw [h, Bool.or_true, if_pos rfl]
theorem bin_mod {i j : Int} (h : j ≠ 0) : binD .Mod (.int i) (.int j) = some (.sh (.int (i.fmod j))) := by
  show (if decide (j ≠ 0) = true then some (C.sh (.int (i.fmod j))) else none) = _
  rw [decide_eq_true h, if_pos rfl]
theorem bin_div {i j : Int} (h : j ≠ 0) (h2 : j.natAbs < 1073741824) : binD .FloorDiv (.int i) (.int j) = some (.sh (.int (i.fdiv j))) := by
  show (if (decide (j ≠ 0) && decide (j.natAbs < 1073741824)) = true then some (C.sh (.int (i.fdiv j))) else none) = _
  rw [decide_eq_true h, decide_eq_true h2, Bool.and_self, if_pos rfl]
theorem bin_pow {i : Int} {k : Nat} (h : k ≤ 1000000) (h2 : i.natAbs < 2 ^ 64) : binD .Pow (.int i) (.int (k : Int)) = some (.sh (.int (i ^ k))) := by
  show (if (decide ((0 : Int) ≤ (k : Int)) && decide ((k : Int) ≤ 1000000) && decide (i.natAbs < 2 ^ 64)) = true then some (C.sh (.int (i ^ (k : Int).toNat))) else none) = _
  rw [decide_eq_true (show (0 : Int) ≤ (k : Int) by omega), decide_eq_true (show (k : Int) ≤ 1000000 by omega), decide_eq_true h2, Bool.and_self, Bool.and_self, if_pos rfl]
  simp
@[simp] theorem cmp_lt_int (i j : Int) : cmpD .Lt (.int i) (.int j) = some (decide (i < j)) := rfl
@[simp] theorem cmp_gt_int (i j : Int) : cmpD .Gt (.int i) (.int j) = some (decide (j < i)) := rfl
@[simp] theorem cmp_le_int (i j : Int) : cmpD .LtE (.int i) (.int j) = some (decide (i ≤ j)) := rfl
@[simp] theorem cmp_ge_int (i j : Int) : cmpD .GtE (.int i) (.int j) = some (decide (j ≤ i)) := rfl
@[simp] theorem cmp_eq_int (i j : Int) : cmpD .Eq (.int i) (.int j) = some (decide (i = j)) := eqD_int i j
@[simp] theorem cmp_ne_int (i j : Int) : cmpD .NotEq (.int i) (.int j) = some (!decide (i = j)) := by
  show (eqD (.int i) (.int j)).map (!·) = _
  rw [eqD_int] <;> rfl
@[simp] theorem bi_int1 (i : Int) : biD .int1 [.int i] = some (.sh (.int i)) := rfl
@[simp] theorem bi_list1_lst (xs : List D) : biD .list1 [.lst xs] = some (.ow (.lst xs)) := rfl
@[simp] theorem bi_list1_rol (xs : List D) : biD .list1 [.rol xs] = some (.ow (.lst xs)) := rfl
@[simp] theorem bi_list1_tup (xs : List D) : biD .list1 [.tup xs] = some (.ow (.lst xs)) := rfl
@[simp] theorem bi_tuple1_lst (xs : List D) : biD .tuple1 [.lst xs] = some (.sh (.tup xs)) := rfl
@[simp] theorem bi_tuple1_tup (xs : List D) : biD .tuple1 [.tup xs] = some (.sh (.tup xs)) := rfl
@[simp] theorem truth_bl (b : Bool) : truth (.bl b) = some b := rfl
@[simp] theorem truth_int (i : Int) : truth (.int i) = some (i != 0) := rfl
@[simp] theorem truth_lst (xs : List D) : truth (.lst xs) = some (!xs.isEmpty) := rfl
@[simp] theorem truth_tup (xs : List D) : truth (.tup xs) = some (!xs.isEmpty) := rfl
@[simp] theorem truth_non : truth .non = some false := rfl
@[simp] theorem truthV_bl (b : Bool) : truthV (.bl b) = some b := rfl
@[simp] theorem truthV_int (i : Int) : truthV (.int i) = some (i != 0) := rfl
@[simp] theorem truthV_lst (xs : List D) : truthV (.lst xs) = some (!xs.isEmpty) := rfl
@[simp] theorem truthV_tup (xs : List D) : truthV (.tup xs) = some (!xs.isEmpty) := rfl
@[simp] theorem truthV_non : truthV .non = some false := rfl
@[simp] theorem isL_lst (xs : List D) : isL (some (.lst xs)) = true := rfl
@[simp] theorem itemsD_lst (xs : List D) : itemsD (.lst xs) = some xs := rfl
@[simp] theorem itemsD_tup (xs : List D) : itemsD (.tup xs) = some xs := rfl
@[simp] theorem itemsD_rol (xs : List D) : itemsD (.rol xs) = some xs := rfl
/-! ### the pen -/
abbrev kCells : Str := ⟨#[99, 101, 108, 108, 115]⟩
abbrev kAt : Str := ⟨#[97, 116]⟩
abbrev kDigits : Str := ⟨#[100, 105, 103, 105, 116, 115]⟩
abbrev kCount : Str := ⟨#[99, 111, 117, 110, 116]⟩
abbrev kFold : Str := ⟨#[102, 111, 108, 100]⟩
def penD (cs : List Int) (a g c f : Int) : D := .dK [(.inr kCells, .lst (cs.map .int)), (.inr kAt, .int a), (.inr kDigits, .int g), (.inr kCount, .int c), (.inr kFold, .int f)]
section
variable (cs : List Int) (a g c f v : Int)
theorem pen_cells : idxD (penD cs a g c f) (.str ⟨#[99, 101, 108, 108, 115]⟩) = some (.lst (cs.map .int)) := rfl
theorem pen_at : idxD (penD cs a g c f) (.str ⟨#[97, 116]⟩) = some (.int a) := rfl
theorem pen_digits : idxD (penD cs a g c f) (.str ⟨#[100, 105, 103, 105, 116, 115]⟩) = some (.int g) := rfl
theorem pen_count : idxD (penD cs a g c f) (.str ⟨#[99, 111, 117, 110, 116]⟩) = some (.int c) := rfl
theorem pen_fold : idxD (penD cs a g c f) (.str ⟨#[102, 111, 108, 100]⟩) = some (.int f) := rfl
theorem pen_set_at : setD (penD cs a g c f) (.str ⟨#[97, 116]⟩) (.int v) = some (penD cs v g c f) := rfl
theorem pen_set_digits : setD (penD cs a g c f) (.str ⟨#[100, 105, 103, 105, 116, 115]⟩) (.int v) = some (penD cs a v c f) := rfl
theorem pen_set_count : setD (penD cs a g c f) (.str ⟨#[99, 111, 117, 110, 116]⟩) (.int v) = some (penD cs a g v f) := rfl
theorem pen_set_fold : setD (penD cs a g c f) (.str ⟨#[102, 111, 108, 100]⟩) (.int v) = some (penD cs a g c v) := rfl
end
@[simp] theorem lkV_pen (cs : List Int) (a g c f : Int) : lkV (penD cs a g c f) = .val (penD cs a g c f) := rfl
/-- a pen that has drawn c times at most -/
def Pen (c : Nat) (d : D) : Prop := ∃ (cs : List Int) (a : Nat) (g ct f : Int), d = penD cs a g ct f ∧ 0 ≤ g ∧ 0 ≤ ct ∧ ct ≤ c ∧ 0 ≤ f ∧ f < 2147483549
theorem Pen.mono {c c' : Nat} {d : D} (h : Pen c d) (a : c ≤ c' := by omega) : Pen c' d := by
  obtain ⟨cs, a, g, ct, f, e, h1, h2, h3, h4, h5⟩ := h
  exact ⟨cs, a, g, ct, f, e, h1, h2, by omega, h4, h5⟩
def bPen : List MS := [.asg (.nm 1) (.const (.int 0)), .for (.nm 2) (.seq (.slot 0)) [.asg (.nm 1) (.bin .Mod (.bi .int1 [(.bin .Add (.bin .Mult (.slot 1) (.const (.int 67))) (.slot 2))]) (.const (.int 1000000087)))], .ret (.disp [⟨#[99, 101, 108, 108, 115]⟩, ⟨#[97, 116]⟩, ⟨#[100, 105, 103, 105, 116, 115]⟩, ⟨#[99, 111, 117, 110, 116]⟩, ⟨#[102, 111, 108, 100]⟩] [(.bi .list1 [(.slot 0)]), (.const (.int 0)), (.const (.int 0)), (.const (.int 0)), (.slot 1)])]
def bDraw : List MS := [.setI (.slot 0) (.const (.str ⟨#[99, 111, 117, 110, 116]⟩)) (.bin .Add (.idx (.slot 0) (.const (.str ⟨#[99, 111, 117, 110, 116]⟩))) (.const (.int 1))), .ife (.and (.cmp .Eq (.idx (.slot 0) (.const (.str ⟨#[100, 105, 103, 105, 116, 115]⟩))) (.const (.int 0))) (.cmp .Lt (.idx (.slot 0) (.const (.str ⟨#[97, 116]⟩))) (.bi .len [(.idx (.slot 0) (.const (.str ⟨#[99, 101, 108, 108, 115]⟩)))]))) [.asg (.nm 2) (.idx (.idx (.slot 0) (.const (.str ⟨#[99, 101, 108, 108, 115]⟩))) (.idx (.slot 0) (.const (.str ⟨#[97, 116]⟩)))), .setI (.slot 0) (.const (.str ⟨#[97, 116]⟩)) (.bin .Add (.idx (.slot 0) (.const (.str ⟨#[97, 116]⟩))) (.const (.int 1))), .ife (.cmp .GtE (.slot 2) (.bin .Pow (.const (.int 10)) (.const (.int 18)))) [.setI (.slot 0) (.const (.str ⟨#[100, 105, 103, 105, 116, 115]⟩)) (.bin .Sub (.slot 2) (.bin .Pow (.const (.int 10)) (.const (.int 18))))] [.setI (.slot 0) (.const (.str ⟨#[102, 111, 108, 100]⟩)) (.bin .Mod (.bi .int1 [(.bin .Add (.bin .Mult (.idx (.slot 0) (.const (.str ⟨#[102, 111, 108, 100]⟩))) (.const (.int 65539))) (.slot 2))]) (.const (.int 2147483549)))]] [], .ife (.cmp .Gt (.idx (.slot 0) (.const (.str ⟨#[100, 105, 103, 105, 116, 115]⟩))) (.const (.int 0))) [.asg (.nm 3) (.bin .Mod (.bi .int1 [(.idx (.slot 0) (.const (.str ⟨#[100, 105, 103, 105, 116, 115]⟩)))]) (.slot 1)), .setI (.slot 0) (.const (.str ⟨#[100, 105, 103, 105, 116, 115]⟩)) (.bin .FloorDiv (.idx (.slot 0) (.const (.str ⟨#[100, 105, 103, 105, 116, 115]⟩))) (.slot 1)), .ret (.slot 3)] [], .asg (.nm 4) (.bin .Add (.bin .Add (.idx (.slot 0) (.const (.str ⟨#[102, 111, 108, 100]⟩))) (.bin .Mult (.idx (.slot 0) (.const (.str ⟨#[99, 111, 117, 110, 116]⟩))) (.const (.int 8311)))) (.const (.int 43))), .ret (.bin .Mod (.bin .FloorDiv (.bi .int1 [(.bin .Mod (.bin .Pow (.slot 4) (.const (.int 13))) (.const (.int 2305843009213693951)))]) (.const (.int 256))) (.slot 1))]
def bPick (f : Nat) : List MS := [.ret (.idx (.slot 1) (.call f [(.brw 0), (.bi .len [(.slot 1)])]))]
def bMixed (f : Nat) : List MS := [.par [2, 3] [(.bi .list1 [(.slot 1)]), (.lst [])], .for (.nm 4) (.rng1 (.bi .len [(.slot 1)])) [.expr (.meth .append (.slot 3) [(.meth .pop1 (.slot 2) [(.call f [(.brw 0), (.bi .len [(.slot 2)])])])])], .ret (.slot 3)]
section
variable {cm : Cm} {flds : Nat → List Str} {exm : Nat → Nat → Bool}
/-- the pen is made -/
theorem pen_made (cs : List Int) : ∃ p, finish (exSs cm flds exm bPen ⟨[.sh (.rol (cs.map .int)), .un, .un], []⟩) = .ok (.ow p) [] ∧ Pen 0 p := by
  have key : ∃ f : Int, (0 ≤ f ∧ f < 2147483549) ∧ finish (exSs cm flds exm bPen ⟨[.sh (.rol (cs.map .int)), .un, .un], []⟩) = .ok (.ow (penD cs 0 0 0 f)) [] := by
    unfold bPen
    rw [exSs_cons]
    simp -dsimp -implicitDefEqProofs [-exSs_cons]
    rw [exSs_cons]
    simp -dsimp -implicitDefEqProofs [-exSs_cons]
    obtain ⟨P, hP⟩ := named (fun (_ : Nat) (s : S) => ∃ (f : Int) (x : C), s = ⟨[.sh (.rol (cs.map .int)), .sh (.int f), x], []⟩ ∧ 0 ≤ f ∧ f < 2147483549)
    obtain ⟨s', e, hs⟩ := forRun_nx (cm := cm) (flds := flds) (exm := exm) (g := .nm 2) (b := [.asg (.nm 1) (.bin .Mod (.bi .int1 [(.bin .Add (.bin .Mult (.slot 1) (.const (.int 67))) (.slot 2))]) (.const (.int 1000000087)))])
      (ds := cs.map D.int) P (s := ⟨[.sh (.rol (cs.map .int)), .sh (.int 0), .un], []⟩) (by rw [hP]; exact ⟨0, .un, rfl, by omega, by omega⟩) (by
        intro k hk s hs
        rw [hP] at hs
        obtain ⟨f, x, rfl, h1, h2⟩ := hs
        have h67 : small 67 = true := by decide
        have hm : (1000000087 : Int) ≠ 0 := by omega
        simp -dsimp -implicitDefEqProofs [bin_mul_r h67, bin_mod hm]
        have b1 := Int.fmod_nonneg_of_pos (f * 67 + cs[k]'(by simpa using hk)) (show (0 : Int) < 1000000087 by omega)
        have b2 := Int.fmod_lt_of_pos (f * 67 + cs[k]'(by simpa using hk)) (show (0 : Int) < 1000000087 by omega)
        rw [hP]
        exact ⟨_, _, rfl, b1, by omega⟩)
    rw [hP] at hs
    obtain ⟨f, x, hs, hf⟩ := hs
    refine ⟨f, hf, ?_⟩
    rw [e, hs]
    simp -dsimp -implicitDefEqProofs
    rfl
  obtain ⟨f, hf, e⟩ := key
  exact ⟨_, e, cs, 0, 0, 0, f, rfl, by omega, by omega, by omega, hf.1, hf.2⟩

theorem at_cells (cs : List Int) (a : Nat) (h : a < cs.length) : idxD (.lst (cs.map .int)) (.int (a : Int)) = some (.int cs[a]) := by
  have := idx_lst (cs.map D.int) a
  simpa [h] using this
theorem pow18 : binD .Pow (.int 10) (.int 18) = some (.sh (.int 1000000000000000000)) := by
  have := bin_pow (i := 10) (k := 18) (by omega) (by decide)
  exact this
/-- the second half of a draw -/
theorem draw_tail {c many : Nat} {cs : List Int} {a : Nat} {g ct f : Int} {x : C} {n : Nat} (h0 : 0 < many) (h1 : many < 1073741824) (hc : c ≤ 1000000000) (hg : 0 ≤ g) (hct : 0 ≤ ct) (hct2 : ct ≤ c) (hf : 0 ≤ f) (hf2 : f < 2147483549) :
    ∃ v p, v < many ∧ Pen c p ∧ finish (exSs cm flds exm [.ife (.cmp .Gt (.idx (.slot 0) (.const (.str ⟨#[100, 105, 103, 105, 116, 115]⟩))) (.const (.int 0))) [.asg (.nm 3) (.bin .Mod (.bi .int1 [(.idx (.slot 0) (.const (.str ⟨#[100, 105, 103, 105, 116, 115]⟩)))]) (.slot 1)), .setI (.slot 0) (.const (.str ⟨#[100, 105, 103, 105, 116, 115]⟩)) (.bin .FloorDiv (.idx (.slot 0) (.const (.str ⟨#[100, 105, 103, 105, 116, 115]⟩))) (.slot 1)), .ret (.slot 3)] [], .asg (.nm 4) (.bin .Add (.bin .Add (.idx (.slot 0) (.const (.str ⟨#[102, 111, 108, 100]⟩))) (.bin .Mult (.idx (.slot 0) (.const (.str ⟨#[99, 111, 117, 110, 116]⟩))) (.const (.int 8311)))) (.const (.int 43))), .ret (.bin .Mod (.bin .FloorDiv (.bi .int1 [(.bin .Mod (.bin .Pow (.slot 4) (.const (.int 13))) (.const (.int 2305843009213693951)))]) (.const (.int 256))) (.slot 1))]
      ⟨[.hd 0, .sh (nI many), x, .un, .un], [penD cs a g ct f]⟩) = .ok (.sh (nI v)) [p] := by
  have hm : (many : Int) ≠ 0 := by omega
  have hm2 : (many : Int).natAbs < 1073741824 := by omega
  by_cases q : 0 < g
  · have b1 := Int.fmod_nonneg_of_pos g (show (0 : Int) < many by omega)
    have b2 := Int.fmod_lt_of_pos g (show (0 : Int) < many by omega)
    have b3 := Int.fdiv_nonneg hg (show (0 : Int) ≤ many by omega)
    refine ⟨(g.fmod many).toNat, penD cs a (g.fdiv many) ct f, by omega, ⟨cs, a, _, _, _, rfl, b3, hct, hct2, hf, hf2⟩, ?_⟩
    have e : nI (g.fmod many).toNat = .int (g.fmod many) := by
      show D.int _ = _
      congr 1
      omega
    rw [e]
    simp -dsimp -implicitDefEqProofs [pen_digits, pen_set_digits, q, bin_mod hm, bin_div hm hm2]
  · have h8 : small 8311 = true := by decide
    have hb : (f + ct * 8311 + 43).natAbs < 2 ^ 64 := by omega
    have hp : binD .Pow (.int (f + ct * 8311 + 43)) (.int 13) = some (.sh (.int ((f + ct * 8311 + 43) ^ 13))) := bin_pow (k := 13) (by omega) hb
    have hM : (2305843009213693951 : Int) ≠ 0 := by omega
    have h256 : (256 : Int) ≠ 0 := by omega
    have h256b : (256 : Int).natAbs < 1073741824 := by decide
    have b1 := Int.fmod_nonneg_of_pos ((((f + ct * 8311 + 43) ^ 13).fmod 2305843009213693951).fdiv 256) (show (0 : Int) < many by omega)
    have b2 := Int.fmod_lt_of_pos ((((f + ct * 8311 + 43) ^ 13).fmod 2305843009213693951).fdiv 256) (show (0 : Int) < many by omega)
    refine ⟨(((((f + ct * 8311 + 43) ^ 13).fmod 2305843009213693951).fdiv 256).fmod many).toNat, penD cs a g ct f, by omega, ⟨cs, a, _, _, _, rfl, hg, hct, hct2, hf, hf2⟩, ?_⟩
    have e : nI (((((f + ct * 8311 + 43) ^ 13).fmod 2305843009213693951).fdiv 256).fmod many).toNat = .int (((((f + ct * 8311 + 43) ^ 13).fmod 2305843009213693951).fdiv 256).fmod many) := by
      show D.int _ = _
      congr 1
      omega
    rw [e]
    simp -dsimp -implicitDefEqProofs [pen_digits, pen_fold, pen_count, q, bin_mul_r h8, hp, bin_mod hM, bin_div h256 h256b, bin_mod hm]
/-- a draw's end -/
def DrawE (c many : Nat) (o : SO) : Prop := ∃ v p', v < many ∧ Pen c p' ∧ finish o = .ok (.sh (nI v)) [p']
/-- a number is drawn -/
theorem draw_ok {c many : Nat} {p : D} (P : Pen c p) (h0 : 0 < many) (h1 : many < 1073741824) (hc : c < 1000000000) :
    DrawE (c + 1) many (exSs cm flds exm bDraw ⟨[.hd 0, .sh (nI many), .un, .un, .un], [p]⟩) := by
  obtain ⟨cs, a, g, ct, f, rfl, hg, hct, hct2, hf, hf2⟩ := P
  unfold bDraw
  rw [exSs_cons]
  simp -dsimp -implicitDefEqProofs [-exSs_cons, pen_count, pen_set_count]
  rw [exSs_cons]
  simp -dsimp -implicitDefEqProofs [-exSs_cons, pen_digits, pen_at, pen_cells, bi_len_lst]
  by_cases q : g = 0
  · by_cases q2 : a < cs.length
    · have q3 : (a : Int) < (cs.length : Int) := by omega
      have h65 : small 65539 = true := by decide
      have hM : (2147483549 : Int) ≠ 0 := by omega
      by_cases q4 : 1000000000000000000 ≤ cs[a]
      · simp -dsimp -implicitDefEqProofs [-exSs_cons, q, q2, q3, pen_digits, pen_at, pen_cells, bi_len_lst]
        rw [exSs_cons]
        simp -dsimp -implicitDefEqProofs [-exSs_cons, pen_cells, pen_at, at_cells cs a q2]
        rw [exSs_cons]
        simp -dsimp -implicitDefEqProofs [-exSs_cons, pen_at, pen_set_at]
        rw [exSs_cons]
        simp -dsimp -implicitDefEqProofs [-exSs_cons, pow18, q4]
        rw [exSs_cons]
        simp -dsimp -implicitDefEqProofs [-exSs_cons, pow18, pen_set_digits]
        exact draw_tail (c := c + 1) (a := a + 1) (n := 0) h0 h1 (by omega) (by omega) (by omega) (by omega) hf hf2
      · have b1 := Int.fmod_nonneg_of_pos (f * 65539 + cs[a]) (show (0 : Int) < 2147483549 by omega)
        have b2 := Int.fmod_lt_of_pos (f * 65539 + cs[a]) (show (0 : Int) < 2147483549 by omega)
        simp -dsimp -implicitDefEqProofs [-exSs_cons, q, q2, q3, pen_digits, pen_at, pen_cells, bi_len_lst]
        rw [exSs_cons]
        simp -dsimp -implicitDefEqProofs [-exSs_cons, pen_cells, pen_at, at_cells cs a q2]
        rw [exSs_cons]
        simp -dsimp -implicitDefEqProofs [-exSs_cons, pen_at, pen_set_at]
        rw [exSs_cons]
        simp -dsimp -implicitDefEqProofs [-exSs_cons, pow18, q4]
        rw [exSs_cons]
        simp -dsimp -implicitDefEqProofs [-exSs_cons, pen_fold, bin_mul_r h65, bin_mod hM, pen_set_fold]
        exact draw_tail (c := c + 1) (a := a + 1) (n := 0) h0 h1 (by omega) (by omega) (by omega) (by omega) b1 b2
    · have q3 : ¬ (a : Int) < (cs.length : Int) := by omega
      simp -dsimp -implicitDefEqProofs [-exSs_cons, q, q2, q3, pen_digits, pen_at, pen_cells, bi_len_lst]
      exact draw_tail (c := c + 1) (a := a) (n := 0) h0 h1 (by omega) (by omega) (by omega) (by omega) hf hf2
  · simp -dsimp -implicitDefEqProofs [-exSs_cons, q]
    exact draw_tail (c := c + 1) (a := a) (n := 0) h0 h1 (by omega) (by omega) (by omega) (by omega) hf hf2

/-- a def that draws -/
def Draws (cm : Cm) (f : Nat) : Prop := ∀ (c many : Nat) (p : D), Pen c p → 0 < many → many < 1073741824 → c < 1000000000 → ∃ v p', v < many ∧ Pen (c + 1) p' ∧ cm f [.hd 0, .sh (nI many)] [p] = .ok (.sh (nI v)) [p']
theorem pick_lst {f : Nat} (h : Draws cm f) {c : Nat} {p : D} (P : Pen c p) {xs : List D} (h0 : xs ≠ []) (h1 : xs.length < 1073741824) (hc : c < 1000000000) :
    ∃ v p', ∃ hv : v < xs.length, Pen (c + 1) p' ∧ finish (exSs cm flds exm (bPick f) ⟨[.hd 0, .sh (.lst xs)], [p]⟩) = .ok (.sh xs[v]) [p'] := by
  obtain ⟨v, p', hv, P', e⟩ := h c xs.length p P (List.length_pos_iff.mpr h0) h1 hc
  refine ⟨v, p', hv, P', ?_⟩
  unfold bPick
  simp -dsimp -implicitDefEqProofs [bi_len_lst, e, idx_lst, hv]
theorem pick_str {f : Nat} (h : Draws cm f) {c : Nat} {p : D} (P : Pen c p) {x : Str} (h0 : 0 < x.length) (h1 : x.length ≤ sizeLine) (hc : c < 1000000000) :
    ∃ v p', ∃ hv : v < x.cps.size, Pen (c + 1) p' ∧ finish (exSs cm flds exm (bPick f) ⟨[.hd 0, .sh (.str x)], [p]⟩) = .ok (.sh (.str ⟨#[x.cps[v]]⟩)) [p'] := by
  have h2 : x.length < 1073741824 := Nat.lt_of_le_of_lt h1 (by decide)
  obtain ⟨v, p', hv, P', e⟩ := h c x.length p P h0 h2 hc
  refine ⟨v, p', hv, P', ?_⟩
  have el : biD .len [.str x] = some (.sh (nI x.length)) := by
    show (lenD (.str x)).map _ = _
    rw [show lenD (.str x) = some x.length from if_pos h1] <;> rfl
  have ei : idxD (.str x) (nI v) = some (.str ⟨#[x.cps[v]'hv]⟩) := by
    rw [show idxD (.str x) (nI v) = (if x.length ≤ sizeLine then (atI x.cps.toList (v : Int)).map (fun c => D.str ⟨#[c]⟩) else none) from rfl, if_pos h1, atI_nat, show x.cps.toList[v]? = some (x.cps[v]'hv) by rw [Array.getElem?_toList]; exact Array.getElem?_eq_getElem hv] <;> rfl
  unfold bPick
  simp -dsimp -implicitDefEqProofs [el, e, ei]
theorem cons_erase : ∀ (xs : List D) (k : Nat) (h : k < xs.length), (xs[k] :: xs.eraseIdx k).Perm xs
  | x :: xs, 0, h => List.Perm.refl _
  | x :: xs, k + 1, h => by
    have := cons_erase xs k (by simpa using h)
    exact (List.Perm.swap x (xs[k]'(by simpa using h)) (xs.eraseIdx k)).trans (this.cons x)
theorem me_append (xs : List D) (a : D) (h : xs.length < 16777216) : meD .append (.lst xs) [a] = some (.non, .lst (xs ++ [a])) := if_pos (sizeLine_gt h)
theorem me_pop1 (xs : List D) (k : Nat) (h : k < xs.length) (h2 : xs.length ≤ 16777216) : meD .pop1 (.lst xs) [nI k] = some (xs[k], .lst (xs.eraseIdx k)) := by
  have hk : (decide (-(2 ^ 63) ≤ (k : Int)) && decide ((k : Int) < 2 ^ 63)) = true := by
    rw [Bool.and_eq_true]
    exact ⟨decide_eq_true (by omega), decide_eq_true (by omega)⟩
  unfold meD
  simp only []
  have e : seqIndex? (k : Int) xs.length = some k := by
    unfold seqIndex?
    simp
    omega
  rw [if_pos hk, e]
  simp [h]
theorem mixed_ok {f : Nat} (h : Draws cm f) {c : Nat} {p : D} (P : Pen c p) {src : D} {xs : List D} (hs : src = .lst xs ∨ src = .tup xs) (h1 : xs.length < 1000000) (hc : c < 900000000) :
    ∃ ys p', ys.Perm xs ∧ Pen (c + xs.length) p' ∧ finish (exSs cm flds exm (bMixed f) ⟨[.hd 0, .sh src, .un, .un, .un], [p]⟩) = .ok (.sh (.lst ys)) [p'] := by
  have e1 : biD .list1 [src] = some (.ow (.lst xs)) := by rcases hs with rfl | rfl <;> rfl
  have e2 : biD .len [src] = some (.sh (nI xs.length)) := by rcases hs with rfl | rfl <;> rfl
  have e3 : lkV src = .val src := by rcases hs with rfl | rfl <;> rfl
  obtain ⟨P0, hP0⟩ := named (fun (k : Nat) (s : S) => ∃ left found x p', s = ⟨[.hd 0, .sh src, .ow (.lst left), .ow (.lst found), x], [p']⟩ ∧ left.length + k = xs.length ∧ (found ++ left).Perm xs ∧ Pen (c + k) p')
  have run := forRun_nx (cm := cm) (flds := flds) (exm := exm) (g := .nm 4) (b := [.expr (.meth .append (.slot 3) [(.meth .pop1 (.slot 2) [(.call f [(.brw 0), (.bi .len [(.slot 2)])])])])]) (ds := ns (List.range xs.length)) P0 (s := ⟨[.hd 0, .sh src, .ow (.lst xs), .ow (.lst []), .un], [p]⟩)
    (by rw [hP0]; exact ⟨xs, [], .un, p, rfl, by simp, by simp, P⟩) (by
    intro k hk s hs
    rw [hP0] at hs
    obtain ⟨left, found, x, p', rfl, hl, hp, hP⟩ := hs
    have hk : k < xs.length := by simpa using hk
    obtain ⟨v, p2, hv, P2, e⟩ := h (c + k) left.length p' hP (by omega) (by omega) (by omega)
    have hfl : found.length < 16777216 := by
      have := hp.length_eq
      simp at this
      omega
    simp -dsimp -implicitDefEqProofs [bi_len_lst, e, me_pop1 left v hv (by omega), me_append _ _ hfl]
    rw [hP0]
    refine ⟨_, _, _, _, rfl, by rw [List.length_eraseIdx_of_lt hv]; omega, ?_, P2⟩
    refine List.Perm.trans ?_ hp
    rw [List.append_assoc]
    exact List.Perm.append_left found (cons_erase left v hv))
  rw [hP0] at run
  obtain ⟨s', er, left, found, x, p', rfl, hl, hp, hP⟩ := run
  have hn : (ns (List.range xs.length)).length = xs.length := by simp
  rw [hn] at hl hP
  have : left = [] := List.length_eq_zero_iff.mp (by omega)
  subst this
  refine ⟨found, p', by simpa using hp, hP, ?_⟩
  unfold bMixed
  simp -dsimp -implicitDefEqProofs [e1, e2, e3, inRng_nat (show xs.length < 2 ^ 60 by omega), rngD_zero, er]
end
end VM

set_option Elab.async false
set_option linter.all false
set_option maxRecDepth 100000
set_option maxHeartbeats 2000000
/-! VP03: dicts, rows of numbers as keys -/
namespace VM
open PySem L2
/-- a row of numbers as a tuple -/
abbrev tN (t : List Nat) : D := .tup (ns t)
/-- rows of numbers, truths -/
def tNs (ts : List (List Nat)) : List D := ts.map tN
def bls (bs : List Bool) : List D := bs.map D.bl
@[simp] theorem tNs_length (ts : List (List Nat)) : (tNs ts).length = ts.length := by simp [tNs]
theorem tNs_append (xs ys : List (List Nat)) : tNs (xs ++ ys) = tNs xs ++ tNs ys := by simp [tNs]
theorem tNs_nil : tNs [] = [] := rfl
theorem tNs_cons (x : List Nat) (xs : List (List Nat)) : tNs (x :: xs) = tN x :: tNs xs := rfl
theorem tNs_get? (xs : List (List Nat)) (k : Nat) : (tNs xs)[k]? = xs[k]?.map tN := by simp [tNs]
theorem idx_tN0 (x : Nat) (t : List Nat) : idxD (tN (x :: t)) (.int 0) = some (nI x) := idx_tup (ns (x :: t)) 0
theorem idx_tN1 (x y : Nat) (t : List Nat) : idxD (tN (x :: y :: t)) (.int 1) = some (nI y) := idx_tup (ns (x :: y :: t)) 1
theorem tup1 (a : Nat) : D.tup [nI a] = tN [a] := rfl
theorem tup2 (a b : Nat) : D.tup [nI a, nI b] = tN [a, b] := rfl
theorem lst2 (a b : Nat) : D.lst [nI a, nI b] = .lst (ns [a, b]) := rfl
theorem asg_tN2 (g h : MG) (a b : Nat) (s : S) : asgDs [g, h] (ns [a, b]) s = (asgC g (.sh (nI a)) s).bind fun s => asgC h (.sh (nI b)) s := by
  show asgDs [g, h] [nI a, nI b] s = _
  rw [asgDs_cons]
  congr 1
  funext s
  rw [asgDs_cons]
  cases asgC h (.sh (nI b)) s <;> rfl
theorem ns_rev (p : List Nat) : (ns p).reverse = ns p.reverse := List.map_reverse.symm
theorem bls_all (bs : List Bool) : biD .all [.lst (bls bs)] = some (.sh (.bl (bs.all id))) := bi_all bs
theorem bls_any (bs : List Bool) : biD .any [.lst (bls bs)] = some (.sh (.bl (bs.any id))) := bi_any bs
def kNs (t : List Nat) : List NestedKey := t.map fun n : Nat => NestedKey.num (n : Int)
def kN (t : List Nat) : NestedKey := .tup (kNs t)
theorem kNs_inj : ∀ {a b : List Nat}, kNs a = kNs b → a = b
  | [], [], _ => rfl
  | [], _ :: _, h => by cases h
  | _ :: _, [], h => by cases h
  | x :: a, y :: b, h => by
    have h1 : NestedKey.num (x : Int) = .num (y : Int) := (List.cons.inj h).1
    have h2 : kNs a = kNs b := (List.cons.inj h).2
    have h3 : (x : Int) = (y : Int) := NestedKey.num.inj h1
    rw [kNs_inj h2, show x = y by omega]
theorem kN_inj {a b : List Nat} (h : kN a = kN b) : a = b := kNs_inj (NestedKey.tup.inj h)
theorem keyNs_ns : ∀ t : List Nat, keyNs (ns t) = some (kNs t)
  | [] => by rw [ns_nil, keyNs]; rfl
  | x :: t => by
    rw [ns_cons, keyNs, keyN, keyNs_ns t] <;> rfl
theorem depth_kNs : ∀ t : List Nat, NestedKey.depthAll (kNs t) = 0
  | [] => by show NestedKey.depthAll [] = 0; rw [NestedKey.depthAll]
  | x :: t => by
    show NestedKey.depthAll (.num (x : Int) :: kNs t) = 0
    rw [NestedKey.depthAll, depth_kNs t, NestedKey.depth] <;> rfl
theorem keyT_ns (t : List Nat) : keyT (tN t) = some (kN t) := by
  show (match keyNs (ns t) with
    | none => none
    | some ks => if NestedKey.depthAll ks < 8 then some (NestedKey.tup ks) else none) = _
  rw [keyNs_ns]
  show (if NestedKey.depthAll (kNs t) < 8 then some (NestedKey.tup (kNs t)) else none) = _
  rw [depth_kNs, if_pos (by decide)] <;> rfl
/-- what a row of pairs has at a key -/
def gA {α β : Type} [DecidableEq α] : List (α × β) → α → Option β
  | [], _ => none
  | (k, v) :: r, x => if k = x then some v else gA r x
def hA {α β : Type} [DecidableEq α] (l : List (α × β)) (x : α) : Bool := (gA l x).isSome
/-- a key is given a value -/
def pA {α β : Type} [DecidableEq α] : List (α × β) → α → β → List (α × β)
  | [], x, w => [(x, w)]
  | (k, v) :: r, x, w => if k = x then (k, w) :: r else (k, v) :: pA r x w
theorem pA_len {α β : Type} [DecidableEq α] (x : α) (w : β) : ∀ l : List (α × β), (pA l x w).length ≤ l.length + 1
  | [] => by simp [pA]
  | (k, v) :: r => by
    rw [pA]
    split
    · simp
    · have := pA_len x w r
      simp
      omega
/-- a dict's keys are unlike -/
def UnA {α β : Type} (l : List (α × β)) : Prop := (l.map (·.1)).Nodup
theorem pA_keys {α β : Type} [DecidableEq α] (x : α) (w : β) : ∀ l : List (α × β), (pA l x w).map (·.1) = l.map (·.1) ∨ (pA l x w).map (·.1) = l.map (·.1) ++ [x]
  | [] => .inr rfl
  | (k, v) :: r => by
    rw [pA]
    split
    · exact .inl rfl
    · rcases pA_keys x w r with h | h
      · exact .inl (by simp [h])
      · exact .inr (by simp [h])
theorem pA_mem {α β : Type} [DecidableEq α] (x : α) (w : β) : ∀ l : List (α × β), ∀ y, y ∈ (pA l x w).map (·.1) ↔ y ∈ l.map (·.1) ∨ y = x
  | [], y => by simp [pA]
  | (k, v) :: r, y => by
    rw [pA]
    split
    · rename_i h
      subst h
      simp only [List.map_cons, List.mem_cons]
      constructor
      · exact .inl
      · rintro (z | z)
        · exact z
        · exact .inl z
    · have := pA_mem x w r y
      simp only [List.map_cons, List.mem_cons, this, or_assoc]
theorem UnA.put {α β : Type} [DecidableEq α] (x : α) (w : β) : ∀ {l : List (α × β)}, UnA l → UnA (pA l x w)
  | [], _ => by simp [UnA, pA]
  | (k, v) :: r, h => by
    unfold UnA at h ⊢
    rw [pA]
    split
    · exact h
    · rename_i hk
      rw [List.map_cons, List.nodup_cons] at h ⊢
      refine ⟨fun m => ?_, UnA.put x w h.2⟩
      rcases (pA_mem x w r k).mp m with m | m
      · exact h.1 m
      · exact hk m
section
variable {β : Type} (val : β → D)
/-- a dict keyed by rows of numbers -/
def dN (l : List (List Nat × β)) : D := .dN (l.map fun kv => (kN kv.1, val kv.2))
theorem valD_N (x : List Nat) : ∀ l : List (List Nat × β), valD (l.map fun kv => (kN kv.1, val kv.2)) (kN x) = (gA l x).map val
  | [] => rfl
  | (k, v) :: r => by
    have ih := valD_N x r
    unfold valD at ih ⊢
    rw [List.map_cons, List.find?_cons, gA]
    by_cases h : k = x
    · subst h
      simp
    · have : ¬ kN k = kN x := fun z => h (kN_inj z)
      simp only [this, h, if_false, decide_false]
      exact ih
theorem any_N (x : List Nat) : ∀ l : List (List Nat × β), ((l.map fun kv => (kN kv.1, val kv.2)).any fun kv => decide (kv.1 = kN x)) = hA l x
  | [] => rfl
  | (k, v) :: r => by
    have ih := any_N x r
    rw [List.map_cons, List.any_cons, ih]
    unfold hA
    rw [gA]
    by_cases h : k = x
    · subst h
      simp
    · have : ¬ kN k = kN x := fun z => h (kN_inj z)
      simp [this, h]
theorem map_noN (x : List Nat) (w : D) : ∀ l : List (List Nat × β), x ∉ l.map (·.1) → (l.map fun kv => (kN kv.1, val kv.2)).map (fun kv => if kv.1 = kN x then (kv.1, w) else kv) = l.map fun kv => (kN kv.1, val kv.2)
  | [], _ => rfl
  | (k, v) :: r, h => by
    simp only [List.map_cons, List.mem_cons, not_or] at h ⊢
    have : ¬ kN k = kN x := fun z => h.1 (kN_inj z).symm
    rw [if_neg this, map_noN x w r h.2]
theorem putD_N (x : List Nat) (w : β) : ∀ l : List (List Nat × β), UnA l → putD (l.map fun kv => (kN kv.1, val kv.2)) (kN x) (val w) = (pA l x w).map fun kv => (kN kv.1, val kv.2)
  | [], _ => rfl
  | (k, v) :: r, hu => by
    unfold UnA at hu
    rw [List.map_cons, List.nodup_cons] at hu
    have ih := putD_N x w r hu.2
    unfold putD at ih ⊢
    rw [List.map_cons, List.any_cons, pA]
    by_cases h : k = x
    · subst h
      have e := map_noN val k (val w) r hu.1
      simp only [decide_true, Bool.true_or, if_true, List.map_cons]
      rw [e]
    · have hk : ¬ kN k = kN x := fun z => h (kN_inj z)
      simp only [decide_eq_false hk, Bool.false_or, if_neg h, List.map_cons, if_neg hk]
      rw [← ih]
      split <;> rfl
theorem get_N (x : List Nat) (l : List (List Nat × β)) : dictGet (dN val l) (tN x) = some ((gA l x).map val) := by
  show (keyT (tN x)).map _ = _
  rw [keyT_ns, Option.map_some, valD_N]
theorem in_N (x : List Nat) (l : List (List Nat × β)) : cmpD .In (tN x) (dN val l) = some (hA l x) := by
  show (dictGet (dN val l) (tN x)).map _ = _
  rw [get_N, Option.map_some]
  unfold hA
  cases gA l x <;> rfl
theorem notIn_N (x : List Nat) (l : List (List Nat × β)) : cmpD .NotIn (tN x) (dN val l) = some (!hA l x) := by
  show (dictGet (dN val l) (tN x)).map _ = _
  rw [get_N, Option.map_some]
  unfold hA
  cases gA l x <;> rfl
theorem idx_N (x : List Nat) (l : List (List Nat × β)) : idxD (dN val l) (tN x) = (gA l x).map val := by
  show (dictGet (dN val l) (tN x)).bind id = _
  rw [get_N] <;> rfl
theorem set_N (x : List Nat) (w : β) (l : List (List Nat × β)) (hu : UnA l) (hl : l.length < 16777216) : setD (dN val l) (tN x) (val w) = some (dN val (pA l x w)) := by
  have e : setD (dN val l) (tN x) (val w) = dictPut (dN val l) (tN x) (val w) := rfl
  rw [e]
  unfold dictPut dN
  simp only []
  rw [if_pos (by rw [List.length_map]; exact sizeLine_gt hl), keyT_ns, Option.map_some, putD_N val x w l hu]
theorem dN_nil : dN val [] = .dN [] := rfl
@[simp] theorem lkV_dN (l : List (List Nat × β)) : lkV (dN val l) = .val (dN val l) := rfl
theorem len_N (l : List (List Nat × β)) : biD .len [dN val l] = some (.sh (nI l.length)) := by
  have e : lenD (dN val l) = some l.length := congrArg some (List.length_map ..)
  unfold biD
  simp only [e, Option.map_some]
theorem kD_N : ∀ t : List Nat, nDs (kNs t) = ns t
  | [] => by show nDs [] = _; rw [nDs]; rfl
  | x :: t => by
    show nDs (.num (x : Int) :: kNs t) = _
    rw [nDs, nD, kD_N t] <;> rfl
theorem items_N (l : List (List Nat × β)) : itemsD (dN val l) = some (tNs (l.map (·.1))) := by
  unfold dN itemsD tNs
  simp only [List.map_map]
  congr 1
  apply List.map_congr_left
  intro kv _
  show nD (.tup (kNs kv.1)) = tN kv.1
  rw [nD, kD_N]
end
/-! ### tuples in rows of tuples -/
theorem eqD_tN (x y : List Nat) : cmpD .Eq (tN x) (tN y) = some (decide (x = y)) := eqD_tup x y
theorem neD_tN (x y : List Nat) : cmpD .NotEq (tN x) (tN y) = some (!decide (x = y)) := by
  show (eqD _ _).map _ = _
  rw [eqD_tup] <;> rfl
theorem eqD_lN (x y : List Nat) : cmpD .Eq (.lst (ns x)) (.lst (ns y)) = some (decide (x = y)) := eqD_lst x y
theorem neD_lN (x y : List Nat) : cmpD .NotEq (.lst (ns x)) (.lst (ns y)) = some (!decide (x = y)) := by
  show (eqD _ _).map _ = _
  rw [eqD_lst] <;> rfl
theorem inD_lst {d : D} {ds : List D} {p : PyData} {qs : List PyData} (h1 : toP d = some p) (h2 : toPs ds = some qs) (h3 : SeqAt.shaped p = true) (h4 : SeqAt.shaped (.list qs) = true) : inD d (.lst ds) = some (qs.any fun z => PyData.eqv z p) := by
  have e : inD d (.lst ds) = (match toP d, toPs ds with
    | some p, some qs => if (SeqAt.shaped p && SeqAt.shaped (.list qs)) = true then some (qs.any fun z => PyData.eqv z p) else none
    | _, _ => none) := rfl
  rw [e, h1, h2]
  show (if (SeqAt.shaped p && SeqAt.shaped (.list qs)) = true then _ else _) = _
  rw [h3, h4, Bool.and_self, if_pos rfl]
theorem inD_tup {d : D} {ds : List D} {p : PyData} {qs : List PyData} (h1 : toP d = some p) (h2 : toPs ds = some qs) (h3 : SeqAt.shaped p = true) (h4 : SeqAt.shaped (.list qs) = true) : inD d (.tup ds) = some (qs.any fun z => PyData.eqv z p) := inD_lst h1 h2 h3 h4
theorem toP_int (i : Int) : toP (.int i) = some (.int i) := by rw [toP]
theorem any_eqv (x : Nat) : ∀ ys : List Nat, ((ys.map fun n : Nat => PyData.int (n : Int)).any fun z => PyData.eqv z (.int x)) = ys.contains x
  | [] => rfl
  | y :: ys => by
    rw [List.map_cons, List.any_cons, any_eqv x ys, PyData.eqv, List.contains_cons]
    congr 1
    by_cases h : x = y
    · subst h
      exact (beq_self_eq_true _).trans (beq_self_eq_true _).symm
    · have : ¬ (y : Int) = (x : Int) := by omega
      exact (beq_eq_false_iff_ne.mpr this).trans (beq_eq_false_iff_ne.mpr h).symm
theorem in_ns (x : Nat) (ys : List Nat) : inD (nI x) (.lst (ns ys)) = some (ys.contains x) ∧ inD (nI x) (.tup (ns ys)) = some (ys.contains x) := by
  have h1 := inD_lst (toP_int x) (toPs_ns ys) (shaped_int x) (shaped_lst ys)
  rw [any_eqv] at h1
  exact ⟨h1, h1⟩
theorem in_lN (x : Nat) (ys : List Nat) : cmpD .In (nI x) (.lst (ns ys)) = some (ys.contains x) := (in_ns x ys).1
theorem in_tN (x : Nat) (ys : List Nat) : cmpD .In (nI x) (tN ys) = some (ys.contains x) := (in_ns x ys).2
theorem notIn_lN (x : Nat) (ys : List Nat) : cmpD .NotIn (nI x) (.lst (ns ys)) = some (!ys.contains x) := by
  show (inD _ _).map _ = _
  rw [(in_ns x ys).1] <;> rfl
theorem notIn_tN (x : Nat) (ys : List Nat) : cmpD .NotIn (nI x) (tN ys) = some (!ys.contains x) := by
  show (inD _ _).map _ = _
  rw [(in_ns x ys).2] <;> rfl
/-- rows of numbers among rows of numbers -/
def tP (t : List Nat) : PyData := .tuple (t.map fun n : Nat => PyData.int (n : Int))
theorem toP_tN (t : List Nat) : toP (tN t) = some (tP t) := by
  rw [toP, toPs_ns] <;> rfl
theorem toPs_tN : ∀ ts : List (List Nat), toPs (ts.map tN) = some (ts.map tP)
  | [] => rfl
  | t :: ts => by
    rw [List.map_cons, toPs, toP_tN]
    show (toPs (ts.map tN)).map _ = _
    rw [toPs_tN ts] <;> rfl
theorem canLay_tP : ∀ ts : List (List Nat), PyData.canLayAll0 (ts.map tP) = true
  | [] => by rw [List.map_nil, PyData.canLayAll0]
  | t :: ts => by
    rw [List.map_cons, PyData.canLayAll0, canLay_tP ts, tP, PyData.canLay0, canLay_ints] <;> rfl
theorem depth_tP : ∀ ts : List (List Nat), PyData.depthAll (ts.map tP) ≤ 1
  | [] => by rw [List.map_nil, PyData.depthAll]; omega
  | t :: ts => by
    have := depth_tP ts
    rw [List.map_cons, PyData.depthAll, tP, PyData.depth, depthAll_ints]
    omega
theorem shaped_tP (ts : List (List Nat)) : SeqAt.shaped (.list (ts.map tP)) = true := by
  unfold SeqAt.shaped
  rw [PyData.canLay0, canLay_tP, PyData.depth]
  have := depth_tP ts
  simp
  omega
theorem any_tP (x : List Nat) : ∀ ts : List (List Nat), ((ts.map tP).any fun z => PyData.eqv z (tP x)) = ts.contains x
  | [] => rfl
  | y :: ys => by
    rw [List.map_cons, List.any_cons, any_tP x ys, tP, tP, PyData.eqv, eqvAll_ints, List.contains_cons]
    congr 1
    by_cases h : x = y
    · subst h
      simp
    · have : ¬ y = x := fun z => h z.symm
      simp [this, h]
theorem in_tNs (x : List Nat) (ts : List (List Nat)) : inD (tN x) (.lst (ts.map tN)) = some (ts.contains x) ∧ inD (tN x) (.tup (ts.map tN)) = some (ts.contains x) := by
  have hx : SeqAt.shaped (tP x) = true := shaped_tup x
  have h1 := inD_lst (toP_tN x) (toPs_tN ts) hx (shaped_tP ts)
  rw [any_tP] at h1
  exact ⟨h1, h1⟩
theorem in_lTN (x : List Nat) (ts : List (List Nat)) : cmpD .In (tN x) (.lst (tNs ts)) = some (ts.contains x) := (in_tNs x ts).1
theorem notIn_lTN (x : List Nat) (ts : List (List Nat)) : cmpD .NotIn (tN x) (.lst (tNs ts)) = some (!ts.contains x) := by
  show (inD (tN x) (.lst (ts.map tN))).map _ = _
  rw [(in_tNs x ts).1] <;> rfl
theorem eqD_seq {d e : D} {p q : PyData} (h1 : toP d = some p) (h2 : toP e = some q) (h3 : SeqAt.shaped p = true) (h4 : SeqAt.shaped q = true) : eqD d e = some (PyData.eqv p q) := by
  have z : eqD d e = (match toP d, toP e with
    | some p, some q => if (SeqAt.shaped p && SeqAt.shaped q) = true then some (PyData.eqv p q) else none
    | _, _ => none) := rfl
  rw [z, h1, h2]
  show (if (SeqAt.shaped p && SeqAt.shaped q) = true then _ else _) = _
  rw [h3, h4, Bool.and_self, if_pos rfl]
theorem toP_tNs (ts : List (List Nat)) : toP (.lst (tNs ts)) = some (.list (ts.map tP)) := by
  rw [toP]
  show (toPs (ts.map tN)).map _ = _
  rw [toPs_tN] <;> rfl
theorem ne_nil_tNs (ts : List (List Nat)) : cmpD .NotEq (.lst (tNs ts)) (.lst []) = some (!ts.isEmpty) := by
  show (eqD (.lst (tNs ts)) (.lst (tNs []))).map _ = _
  rw [eqD_seq (toP_tNs ts) (toP_tNs []) (shaped_tP ts) (shaped_tP []), Option.map_some]
  cases ts with
  | nil => rw [List.map_nil, PyData.eqv, PyData.eqvAll] <;> rfl
  | cons t ts => rw [List.map_nil, List.map_cons, PyData.eqv, PyData.eqvAll] <;> first | rfl | simp
end VM

set_option Elab.async false
set_option linter.all false
set_option maxRecDepth 100000
set_option maxHeartbeats 2000000
/-! VP04: loops as folds that may fail, comprehensions as maps that may fail -/
namespace VM
open PySem L2
def foldO {α β : Type} (f : β → α → Option β) : β → List α → Option β
  | b, [] => some b
  | b, x :: xs => match f b x with
    | none => none
    | some b => foldO f b xs
theorem foldO_cons {α β : Type} {f : β → α → Option β} {b c : β} {x : α} {xs : List α} (h : foldO f b (x :: xs) = some c) : ∃ b', f b x = some b' ∧ foldO f b' xs = some c := by
  rw [foldO] at h
  cases e : f b x with
  | none => rw [e] at h; cases h
  | some b' => rw [e] at h; exact ⟨b', rfl, h⟩
theorem mapO_cons {α β : Type} {f : α → Option β} {x : α} {xs : List α} {ys : List β} (h : mapO f (x :: xs) = some ys) : ∃ y ys', f x = some y ∧ mapO f xs = some ys' ∧ ys = y :: ys' := by
  rw [mapO] at h
  cases e : f x with
  | none => rw [e] at h; cases h
  | some y =>
    rw [e] at h
    cases e2 : mapO f xs with
    | none => rw [e2] at h; cases h
    | some ys' =>
      rw [e2] at h
      exact ⟨y, ys', rfl, rfl, (Option.some.inj h).symm⟩
theorem mapO_len {α β : Type} {f : α → Option β} : ∀ {xs : List α} {ys : List β}, mapO f xs = some ys → ys.length = xs.length
  | [], ys, h => by cases h; rfl
  | x :: xs, ys, h => by
    obtain ⟨y, ys', _, h2, rfl⟩ := mapO_cons h
    rw [List.length_cons, List.length_cons, mapO_len h2]
theorem mapO_some {α β : Type} {f : α → Option β} {g : α → β} : ∀ {xs : List α}, (∀ x ∈ xs, f x = some (g x)) → mapO f xs = some (xs.map g)
  | [], _ => rfl
  | x :: xs, h => by
    rw [mapO, h x List.mem_cons_self]
    show (mapO f xs).map _ = _
    rw [mapO_some fun y hy => h y (List.mem_cons_of_mem _ hy)] <;> rfl
section
variable {cm : Cm} {flds : Nat → List Str} {exm : Nat → Nat → Bool}
/-- a for as a fold -/
theorem forRun_fold {α β : Type} {g : MG} {b : List MS} (gd : α → D) (step : β → α → Option β) (I : β → S → Prop) : ∀ {xs : List α} {a c : β} {s : S},
    (∀ x ∈ xs, ∀ a a' s, step a x = some a' → I a s → ForStep cm flds exm g b (gd x) s (I a') noB noX') → foldO step a xs = some c → I a s → ∃ s', forRun cm flds exm g b (xs.map gd) s = .nx s' ∧ I c s'
  | [], a, c, s, _, hf, hi => by cases hf; exact ⟨s, rfl, hi⟩
  | x :: xs, a, c, s, h, hf, hi => by
    obtain ⟨a', h1, h2⟩ := foldO_cons hf
    have h3 : OptP (asgC g (.sh (gd x)) s) fun s1 => StepQ (exSs cm flds exm b s1) (I a') noB noX' := h x List.mem_cons_self a a' s h1 hi
    cases e1 : asgC g (.sh (gd x)) s with
    | none => rw [e1] at h3; exact h3.elim
    | some s1 =>
      rw [e1] at h3
      have h3 : StepQ (exSs cm flds exm b s1) (I a') noB noX' := h3
      have go := fun s2 (hi2 : I a' s2) => forRun_fold gd step I (fun y hy => h y (List.mem_cons_of_mem _ hy)) h2 hi2
      have e3 : forRun cm flds exm g b ((x :: xs).map gd) s = (match exSs cm flds exm b s1 with
        | .nx s => forRun cm flds exm g b (xs.map gd) s
        | .ct s => forRun cm flds exm g b (xs.map gd) s
        | .bk s => .nx s
        | .rt c s => .rt c s
        | .exc k fs s => .exc k fs s
        | .bad => .bad) := by
        unfold forRun
        rw [List.map_cons, forLoop, e1] <;> rfl
      rw [e3]
      cases e2 : exSs cm flds exm b s1 with
      | nx s2 => rw [e2] at h3; exact go s2 h3
      | ct s2 => rw [e2] at h3; exact go s2 h3
      | bk s2 => rw [e2] at h3; exact h3.elim
      | rt c s2 => rw [e2] at h3; exact h3.elim
      | exc k fs s2 => rw [e2] at h3; exact h3.elim
      | bad => rw [e2] at h3; exact h3.elim
end
theorem lcLoop_M {α β : Type} {turn : D → List D → S → Out (List D)} {g : α → D} {f : α → Option β} {enc : β → D} {s : S} : ∀ {xs : List α} {ys : List β} {acc : List D}, mapO f xs = some ys → acc.length + xs.length ≤ sizeLine →
    (∀ x ∈ xs, ∀ y, f x = some y → ∀ acc : List D, acc.length < sizeLine → turn (g x) acc s = .ok (acc ++ [enc y]) s) → lcLoop turn (xs.map g) acc s = .ok (acc ++ ys.map enc) s
  | [], ys, acc, hm, _, _ => by cases hm; simp [lcLoop]
  | x :: xs, ys, acc, hm, hl, h => by
    obtain ⟨y, ys', h1, h2, rfl⟩ := mapO_cons hm
    rw [List.map_cons, lcLoop, h x List.mem_cons_self y h1 acc (by simp at hl ⊢; omega)]
    show lcLoop turn (xs.map g) (acc ++ [enc y]) s = _
    rw [lcLoop_M h2 (by simp at hl ⊢; omega) fun z hz => h z (List.mem_cons_of_mem _ hz)]
    simp
/-- a turn without a test -/
theorem lcTurn_okk {e : Bn} {tg : MG} {vs : List Nat} {d : D} {acc : List D} {s s1 s0 : S} (v : D) (ha : asgC tg (.sh d) s = some s1) (he : e.d s1 = .ok v s1) (hw : ({ s1 with sl := wipeC s1.sl vs } : S) = s0) (hl : acc.length < sizeLine) :
    lcTurn e tg [] vs d acc s = .ok (acc ++ [v]) s0 := by
  have := lcTurn_eq (e := e) (ifs := []) (acc := acc) true v ha rfl (fun _ => he) hw hl
  exact this
/-- a comprehension whose elements may fail -/
theorem lcRun_M {α β : Type} {cm : Cm} {e : ME} {tg : MG} {it : MI} {vs : List Nat} {s s1 s0 : S} {g : α → D} {xs : List α} {ys : List β} (f : α → Option β) (enc : β → D) (hm : mapO f xs = some ys) (hit : evIt cm it s = .ok (xs.map g) s1) (h0 : ({ shareAll s1 vs with sl := wipeC (shareAll s1 vs).sl vs } : S) = s0) (hl : xs.length ≤ sizeLine)
    (h : ∀ x ∈ xs, ∀ y, f x = some y → ∀ acc : List D, acc.length < sizeLine → lcTurn (ev cm e) tg [] vs (g x) acc s0 = .ok (acc ++ [enc y]) s0) :
    lcRun cm e tg it [] vs s = .ok (.ow (.lst (ys.map enc))) { s0 with sl := backC s0.sl (shareAll s1 vs).sl vs } := by
  unfold lcRun lcOf
  rw [hit, evs_nil]
  show Out.bind (noX (lcLoop (lcTurn (ev cm e) tg [] vs) (xs.map g) [] { shareAll s1 vs with sl := wipeC (shareAll s1 vs).sl vs })) _ = _
  rw [h0, lcLoop_M hm (by simpa using hl) h]
  simp
theorem filterMap_if {α β : Type} (p : α → Bool) (f : α → β) (xs : List α) : xs.filterMap (fun x => if p x = true then some (f x) else none) = (xs.filter p).map f := by
  induction xs with
  | nil => rfl
  | cons x xs ih =>
    rw [List.filterMap_cons, List.filter_cons]
    cases p x <;> simp [ih]
/-- a comprehension with one test, whose elements are their items -/
theorem lcRun_F {α : Type} {cm : Cm} {e : ME} {tg : MG} {it : MI} {ifs : List ME} {vs : List Nat} {s s1 s0 : S} {g : α → D} {xs : List α} (p : α → Bool) (v : α → D) (hit : evIt cm it s = .ok (xs.map g) s1) (h0 : ({ shareAll s1 vs with sl := wipeC (shareAll s1 vs).sl vs } : S) = s0) (hl : xs.length ≤ sizeLine)
    (h : ∀ x ∈ xs, ∀ acc : List D, acc.length < sizeLine → lcTurn (ev cm e) tg (evs cm ifs) vs (g x) acc s0 = stepL acc s0 (if p x then some (v x) else none)) :
    lcRun cm e tg it ifs vs s = .ok (.ow (.lst ((xs.filter p).map v))) { s0 with sl := backC s0.sl (shareAll s1 vs).sl vs } := by
  rw [lcRun_eq (fun x => if p x = true then some (v x) else none) hit h0 hl h, filterMap_if]
/-! ### numbers -/
theorem fdiv_nat (a b : Nat) : (a : Int).fdiv (b : Int) = ((a / b : Nat) : Int) := by
  rw [Int.fdiv_eq_ediv_of_nonneg _ (by omega)]
  exact (Int.natCast_ediv a b).symm
theorem bin_div_nat {a b : Nat} (h : 0 < b) (h2 : b < 1073741824) : binD .FloorDiv (nI a) (nI b) = some (.sh (nI (a / b))) := by
  rw [bin_div (by omega) (by omega), fdiv_nat]
theorem bin_mod_nat {a b : Nat} (h : 0 < b) : binD .Mod (nI a) (nI b) = some (.sh (nI (a % b))) := by
  rw [bin_mod (by omega), Int.fmod_eq_emod_of_nonneg _ (by omega)]
  congr 3
theorem bin_mul_nat {a b : Nat} (h : a < 2 ^ 63 ∨ b < 2 ^ 63) : binD .Mult (nI a) (nI b) = some (.sh (nI (a * b))) := by
  have e : nI (a * b) = .int ((a : Int) * (b : Int)) := by
    show D.int _ = _
    rw [Int.natCast_mul]
  rw [e]
  rcases h with h | h
  · exact bin_mul_l (small_nat h)
  · exact bin_mul_r (small_nat h)
theorem aug_mul_nat {a b : Nat} (h : a < 2 ^ 63 ∨ b < 2 ^ 63) : augD .Mult (nI a) (nI b) = some (.sh (nI (a * b))) := by
  have e : nI (a * b) = .int ((a : Int) * (b : Int)) := by
    show D.int _ = _
    rw [Int.natCast_mul]
  rw [e]
  show (if (small (a : Int) || small (b : Int)) = true then some (C.sh (.int ((a : Int) * (b : Int)))) else none) = _
  rcases h with h | h
  · rw [small_nat h, Bool.true_or, if_pos rfl]
  · rw [small_nat h, Bool.or_true, if_pos rfl]
theorem nI_succ (n : Nat) : D.int ((n : Int) + 1) = nI (n + 1) := rfl
theorem add_lst {xs ys : List D} (h : xs.length + ys.length ≤ 16777216) : binD .Add (.lst xs) (.lst ys) = some (.ow (.lst (xs ++ ys))) := if_pos (sizeLine_big h)
theorem add_tup {xs ys : List D} (h : xs.length + ys.length ≤ 16777216) : binD .Add (.tup xs) (.tup ys) = some (.sh (.tup (xs ++ ys))) := if_pos (sizeLine_big h)
theorem sort_two (a b : Nat) : sortN [a, b] = [min a b, max a b] := by
  show (if a ≤ b then [a, b] else [b, a]) = _
  by_cases h : a ≤ b
  · rw [if_pos h, Nat.min_eq_left h, Nat.max_eq_right h]
  · rw [if_neg h, Nat.min_eq_right (by omega), Nat.max_eq_left (by omega)]
end VM

set_option Elab.async false
set_option linter.all false
set_option maxRecDepth 100000
set_option maxHeartbeats 2000000
/-! VP05: written loops turn by turn; comprehensions of two fors -/
namespace VM
open PySem L2
section
variable (cm : Cm) (flds : Nat → List Str) (exm : Nat → Nat → Bool)
/-- behind a turn -/
def SO.lop (g : MG) (b : List MS) (ds : List D) (o : SO) : SO := match o with
  | .nx s => forRun cm flds exm g b ds s
  | .ct s => forRun cm flds exm g b ds s
  | .bk s => .nx s
  | r => r
@[simp] theorem SO.lop_nx (g : MG) (b : List MS) (ds : List D) (s : S) : SO.lop cm flds exm g b ds (.nx s) = forRun cm flds exm g b ds s := rfl
@[simp] theorem SO.lop_ct (g : MG) (b : List MS) (ds : List D) (s : S) : SO.lop cm flds exm g b ds (.ct s) = forRun cm flds exm g b ds s := rfl
@[simp] theorem SO.lop_bk (g : MG) (b : List MS) (ds : List D) (s : S) : SO.lop cm flds exm g b ds (.bk s) = .nx s := rfl
@[simp] theorem SO.lop_rt (g : MG) (b : List MS) (ds : List D) (c : C) (s : S) : SO.lop cm flds exm g b ds (.rt c s) = .rt c s := rfl
@[simp] theorem SO.lop_exc (g : MG) (b : List MS) (ds : List D) (k : Nat) (fs : List (Str × D)) (s : S) : SO.lop cm flds exm g b ds (.exc k fs s) = .exc k fs s := rfl
theorem forRun_nil (g : MG) (b : List MS) (s : S) : forRun cm flds exm g b [] s = .nx s := rfl
theorem forRun_cons (g : MG) (b : List MS) (d : D) (ds : List D) (s : S) : forRun cm flds exm g b (d :: ds) s = SO.lop cm flds exm g b ds (optB (asgC g (.sh d) s) fun s => exSs cm flds exm b s) := by
  unfold forRun
  rw [forLoop]
  cases asgC g (.sh d) s with
  | none => rfl
  | some s1 =>
    show (match exSs cm flds exm b s1 with | .nx s => _ | .ct s => _ | .bk s => _ | .rt c s => _ | .exc k fs s => _ | .bad => _) = SO.lop cm flds exm g b ds (exSs cm flds exm b s1)
    cases exSs cm flds exm b s1 <;> rfl
end
theorem lc2Loop_M {α γ β : Type} {cm : Cm} {e : ME} {tg tg1 : MG} {it1 : MI} {vs vs1 : List Nat} {s0 : S} {gx : α → D} {gy : γ → D} {f : α → γ → Option β} {enc : β → D} {ys : α → List γ} : ∀ {xs : List α} {zss : List (List β)} {acc : List D}, mapO (fun x => mapO (f x) (ys x)) xs = some zss →
    acc.length + (xs.map fun x => (ys x).length).sum ≤ 16777216 →
    (∀ x ∈ xs, ∃ sx, asgC tg (.sh (gx x)) s0 = some sx ∧ evIt cm it1 sx = .ok ((ys x).map gy) sx ∧ (∀ y ∈ ys x, ∀ z, f x y = some z → ∀ acc : List D, acc.length < sizeLine → lcTurn (ev cm e) tg1 [] vs1 (gy y) acc ({ sx with sl := wipeC sx.sl vs1 } : S) = .ok (acc ++ [enc z]) ({ sx with sl := wipeC sx.sl vs1 } : S)) ∧ ({ sx with sl := wipeC (wipeC sx.sl vs1) vs } : S) = s0) →
    lcLoop (lc2Turn (ev cm e) tg [] tg1 (evIt cm it1) [] vs vs1) (xs.map gx) acc s0 = .ok (acc ++ (zss.flatten).map enc) s0
  | [], zss, acc, hm, _, _ => by cases hm; simp [lcLoop]
  | x :: xs, zss, acc, hm, hl, h => by
    obtain ⟨zs, zss', h1, h2, rfl⟩ := mapO_cons hm
    obtain ⟨sx, a1, a2, a3, a4⟩ := h x List.mem_cons_self
    have hl2 : acc.length + ((ys x).length + (xs.map fun x => (ys x).length).sum) ≤ 16777216 := by simpa using hl
    have hz := mapO_len h1
    have e1 : lc2Turn (ev cm e) tg [] tg1 (evIt cm it1) [] vs vs1 (gx x) acc s0 = .ok (acc ++ zs.map enc) s0 := by
      unfold lc2Turn
      rw [a1]
      show (evIt cm it1 sx).bind _ = _
      rw [a2]
      show (lcLoop (lcTurn (ev cm e) tg1 [] vs1) ((ys x).map gy) acc ({ sx with sl := wipeC sx.sl vs1 } : S)).bind _ = _
      rw [lcLoop_M h1 (by simp; omega) a3]
      show Out.ok _ _ = _
      rw [a4]
    rw [List.map_cons, lcLoop, e1]
    show lcLoop _ (xs.map gx) (acc ++ zs.map enc) s0 = _
    rw [lc2Loop_M h2 (by simp; omega) fun y hy => h y (List.mem_cons_of_mem _ hy)]
    simp
theorem lc2Run_M {α γ β : Type} {cm : Cm} {e : ME} {tg tg1 : MG} {it it1 : MI} {vs vs1 : List Nat} {s s1 s0 : S} {gx : α → D} {xs : List α} (gy : γ → D) (ys : α → List γ) (f : α → γ → Option β) (enc : β → D) {zss : List (List β)} (hm : mapO (fun x => mapO (f x) (ys x)) xs = some zss)
    (hit : evIt cm it s = .ok (xs.map gx) s1) (h0 : ({ shareAll s1 vs with sl := wipeC (shareAll s1 vs).sl vs } : S) = s0) (hl : (xs.map fun x => (ys x).length).sum ≤ 16777216)
    (h : ∀ x ∈ xs, ∃ sx, asgC tg (.sh (gx x)) s0 = some sx ∧ evIt cm it1 sx = .ok ((ys x).map gy) sx ∧ (∀ y ∈ ys x, ∀ z, f x y = some z → ∀ acc : List D, acc.length < sizeLine → lcTurn (ev cm e) tg1 [] vs1 (gy y) acc ({ sx with sl := wipeC sx.sl vs1 } : S) = .ok (acc ++ [enc z]) ({ sx with sl := wipeC sx.sl vs1 } : S)) ∧ ({ sx with sl := wipeC (wipeC sx.sl vs1) vs } : S) = s0) :
    lc2Run cm e tg it [] tg1 it1 [] vs vs1 s = .ok (.ow (.lst (zss.flatten.map enc))) { s0 with sl := backC s0.sl (shareAll s1 vs).sl vs } := by
  unfold lc2Run lc2Of
  rw [hit, evs_nil]
  show Out.bind (noX (lcLoop (lc2Turn (ev cm e) tg [] tg1 (evIt cm it1) [] vs vs1) (xs.map gx) [] { shareAll s1 vs with sl := wipeC (shareAll s1 vs).sl vs })) _ = _
  rw [h0, lc2Loop_M hm (by simpa using hl) h]
  simp
end VM

set_option Elab.async false
set_option linter.all false
set_option maxRecDepth 100000
set_option maxHeartbeats 2000000
/-! VP06: all orders of a row -/
namespace VM
open PySem L2
def insA (x : Nat) : List Nat → List (List Nat)
  | [] => [[x]]
  | y :: ys => (x :: y :: ys) :: (insA x ys).map (y :: ·)
def perms : List Nat → List (List Nat)
  | [] => [[]]
  | x :: xs => (perms xs).flatMap (insA x)
theorem mem_insA (x : Nat) : ∀ (s t : List Nat), s ++ x :: t ∈ insA x (s ++ t)
  | [], [] => by simp [insA]
  | [], y :: t => by simp [insA]
  | z :: s, t => by
    have := mem_insA x s t
    simp only [List.cons_append, insA]
    exact List.mem_cons_of_mem _ (List.mem_map.mpr ⟨_, this, rfl⟩)
theorem mem_perms : ∀ {xs l : List Nat}, l.Perm xs → l ∈ perms xs
  | [], l, h => by
    have := h.eq_nil
    subst this
    simp [perms]
  | x :: xs, l, h => by
    have hx : x ∈ l := h.symm.subset List.mem_cons_self
    obtain ⟨s, t, rfl⟩ := List.append_of_mem hx
    have h2 : (s ++ t).Perm xs := by
      have : (x :: (s ++ t)).Perm (x :: xs) := (List.perm_middle.symm).trans h
      exact this.cons_inv
    rw [perms]
    exact List.mem_flatMap.mpr ⟨_, mem_perms h2, mem_insA x s t⟩
def unI : D → Nat
  | .int i => i.toNat
  | _ => 0
theorem unI_ns (xs : List Nat) : (ns xs).map unI = xs := by
  unfold ns
  rw [List.map_map]
  have : ∀ x ∈ xs, (unI ∘ nI) x = x := fun x _ => Int.toNat_natCast x
  rw [List.map_congr_left this, List.map_id']
theorem perm_ns {ys : List D} {xs : List Nat} (h : ys.Perm (ns xs)) : ∃ o, ys = ns o ∧ o.Perm xs := by
  refine ⟨ys.map unI, ?_, ?_⟩
  · have : ∀ y ∈ ys, nI (unI y) = y := fun y hy => by
      have := h.subset hy
      obtain ⟨x, _, rfl⟩ := List.mem_map.mp this
      show D.int _ = D.int _
      congr 1
    unfold ns
    rw [List.map_map]
    conv => lhs; rw [← List.map_id ys]
    exact (List.map_congr_left fun y hy => this y hy).symm
  · have := h.map unI
    rw [unI_ns] at this
    exact this
end VM

set_option Elab.async false
set_option linter.all false
set_option maxRecDepth 100000
set_option maxHeartbeats 2000000
/-! VP07: look-only methods, count, tuples times numbers -/
namespace VM
open PySem L2
@[simp] theorem lmF_eq (m : Lm) (fo : S → Out PV) (fs : S → Out (List D)) (s : S) : lmF m fo fs s = (fo s).bnd fun x s => iteB (hasM m (tagO (x.de s))) ((fs s).bnd fun a s' => Out.ofO s' ((x.de s').bind fun d => if tag d == tagO (x.de s) then lmD m d a else none)) .bad := by
  unfold lmF
  refine bind_ext fun x s => ?_
  cases hasM m (tagO (x.de s)) <;> rfl
@[simp] theorem hasM_count_tup (xs : List D) : hasM .count (tag (.tup xs)) = true := rfl
@[simp] theorem hasM_count_lst (xs : List D) : hasM .count (tag (.lst xs)) = true := rfl
@[simp] theorem tagO_eq (d : D) : tagO (some d) = tag d := rfl
theorem plain_ints (xs : List Nat) : PyData.plainAll (xs.map fun n : Nat => PyData.int (n : Int)) = true := by
  induction xs with
  | nil => rw [List.map_nil, PyData.plainAll]
  | cons x xs ih => rw [List.map_cons, PyData.plainAll, ih, PyData.plain] <;> rfl
theorem countP_ints (x : Nat) : ∀ ys : List Nat, (ys.map fun n : Nat => PyData.int (n : Int)).countP (fun y => PyData.eqv y (.int x)) = ys.count x
  | [] => rfl
  | y :: ys => by
    rw [List.map_cons, List.countP_cons, countP_ints x ys, PyData.eqv, List.count_cons]
    congr 1
    by_cases h : y = x
    · subst h
      simp
    · have : ¬ (y : Int) = (x : Int) := by omega
      simp [h, this]
theorem cnt_ns (xs : List Nat) (x : Nat) : cntL (ns xs) [nI x] = some (.sh (nI (xs.count x))) := by
  show (match toP (nI x), toPs (ns xs) with
    | some p, some qs => if (PyData.plainAll qs && p.plain && decide (PyData.depthAll qs ≤ 60)) = true then some (C.sh (.int ((qs.countP fun y => PyData.eqv y p : Nat) : Int))) else none
    | _, _ => none) = _
  rw [toPs_ns, toP_int]
  show (if (PyData.plainAll (xs.map fun n : Nat => PyData.int (n : Int)) && (PyData.int (x : Int)).plain && decide (PyData.depthAll (xs.map fun n : Nat => PyData.int (n : Int)) ≤ 60)) = true then some (C.sh (.int (((xs.map fun n : Nat => PyData.int (n : Int)).countP fun y => PyData.eqv y (.int x) : Nat) : Int))) else none) = _
  rw [plain_ints, depthAll_ints, countP_ints, PyData.plain] <;> rfl
theorem cnt_tN (xs : List Nat) (x : Nat) : lmD .count (tN xs) [nI x] = some (.sh (nI (xs.count x))) := cnt_ns xs x
theorem cnt_tN0 (xs : List Nat) : lmD .count (tN xs) [.int 0] = some (.sh (nI (xs.count 0))) := cnt_ns xs 0
theorem cnt_tN1 (xs : List Nat) : lmD .count (tN xs) [.int 1] = some (.sh (nI (xs.count 1))) := cnt_ns xs 1
theorem rep_one (d : D) : ∀ k, (List.replicate k [d]).flatten = List.replicate k d
  | 0 => rfl
  | k + 1 => by rw [List.replicate_succ, List.flatten_cons, rep_one d k, List.replicate_succ] <;> rfl
theorem mulG (k : Nat) {α : Type} (m : Nat) (x : α) (h : m * k ≤ 16777216) (h2 : k ≤ 16777216) : (if (decide (-(2 ^ 63) ≤ (k : Int)) && decide ((k : Int) < 2 ^ 63) && decide (m * (k : Int).toNat ≤ sizeLine)) = true then some x else none) = some x := by
  rw [Int.toNat_natCast]
  have h3 : m * k ≤ sizeLine := h
  have hk : (decide (-(2 ^ 63) ≤ (k : Int)) && decide ((k : Int) < 2 ^ 63) && decide (m * k ≤ sizeLine)) = true := by
    rw [Bool.and_eq_true, Bool.and_eq_true]
    exact ⟨⟨decide_eq_true (by omega), decide_eq_true (by omega)⟩, decide_eq_true h3⟩
  rw [if_pos hk]
theorem mul_tup1 (d : D) (k : Nat) (h : k ≤ 16777216) : binD .Mult (.tup [d]) (nI k) = some (.sh (.tup (List.replicate k d))) := by
  show mulD (.tup [d]) (nI k) = _
  unfold mulD
  have e := mulG k [d].length (C.sh (.tup (List.replicate (k : Int).toNat [d]).flatten)) (by simpa using h) h
  refine e.trans ?_
  rw [Int.toNat_natCast, rep_one]
theorem mul_lst1 (d : D) (k : Nat) (h : k ≤ 16777216) : binD .Mult (.lst [d]) (nI k) = some (.ow (.lst (List.replicate k d))) := by
  show mulD (.lst [d]) (nI k) = _
  unfold mulD
  have e := mulG k [d].length (C.ow (.lst (List.replicate (k : Int).toNat [d]).flatten)) (by simpa using h) h
  refine e.trans ?_
  rw [Int.toNat_natCast, rep_one]
theorem ns_replicate (k x : Nat) : List.replicate k (nI x) = ns (List.replicate k x) := by
  unfold ns
  rw [List.map_replicate]
theorem in_tN2 (ys : List Nat) : cmpD .In (.int 2) (tN ys) = some (ys.contains 2) := in_tN 2 ys
theorem notIn_tN2 (ys : List Nat) : cmpD .NotIn (.int 2) (tN ys) = some (!ys.contains 2) := notIn_tN 2 ys
theorem toPs_some {ds : List D} (h : ∀ d ∈ ds, ∃ p, toP d = some p) : ∃ ps, toPs ds = some ps := by
  induction ds with
  | nil => exact ⟨[], by rw [toPs]⟩
  | cons d ds ih =>
    obtain ⟨p, e⟩ := h d List.mem_cons_self
    obtain ⟨ps, e2⟩ := ih fun x hx => h x (List.mem_cons_of_mem _ hx)
    refine ⟨p :: ps, ?_⟩
    rw [toPs, e]
    show (toPs ds).map _ = _
    rw [e2] <;> rfl
end VM

set_option Elab.async false
set_option linter.all false
set_option maxRecDepth 100000
/-! LC: calls of the defs -/
namespace LW
open PySem L2 VM
@[irreducible] def cl (d : Nat) : Cm := callN tab flds exm d
theorem call0 (d : Nat) (cs : List C) (om : List D) : cl (d + 1) 0 cs om = if cs.length = 1 then finish (exSs (cl d) flds exm B0 ⟨cs ++ List.replicate 0 .un, om⟩) else .bad := by
  unfold cl
  rfl
theorem call1 (d : Nat) (cs : List C) (om : List D) : cl (d + 1) 1 cs om = if cs.length = 1 then finish (exSs (cl d) flds exm B1 ⟨cs ++ List.replicate 0 .un, om⟩) else .bad := by
  unfold cl
  rfl
theorem call2 (d : Nat) (cs : List C) (om : List D) : cl (d + 1) 2 cs om = if cs.length = 2 then finish (exSs (cl d) flds exm B2 ⟨cs ++ List.replicate 0 .un, om⟩) else .bad := by
  unfold cl
  rfl
theorem call3 (d : Nat) (cs : List C) (om : List D) : cl (d + 1) 3 cs om = if cs.length = 1 then finish (exSs (cl d) flds exm B3 ⟨cs ++ List.replicate 4 .un, om⟩) else .bad := by
  unfold cl
  rfl
theorem call4 (d : Nat) (cs : List C) (om : List D) : cl (d + 1) 4 cs om = if cs.length = 1 then finish (exSs (cl d) flds exm B4 ⟨cs ++ List.replicate 2 .un, om⟩) else .bad := by
  unfold cl
  rfl
theorem call5 (d : Nat) (cs : List C) (om : List D) : cl (d + 1) 5 cs om = purN (fun cs om => if cs.length = 2 then finish (exSs (cl d) flds exm B5 ⟨cs ++ List.replicate 6 .un, om⟩) else .bad) cs om := by
  unfold cl
  rfl
theorem call6 (d : Nat) (cs : List C) (om : List D) : cl (d + 1) 6 cs om = if cs.length = 1 then finish (exSs (cl d) flds exm B6 ⟨cs ++ List.replicate 4 .un, om⟩) else .bad := by
  unfold cl
  rfl
theorem call7 (d : Nat) (cs : List C) (om : List D) : cl (d + 1) 7 cs om = if cs.length = 2 then finish (exSs (cl d) flds exm B7 ⟨cs ++ List.replicate 5 .un, om⟩) else .bad := by
  unfold cl
  rfl
theorem call8 (d : Nat) (cs : List C) (om : List D) : cl (d + 1) 8 cs om = if cs.length = 2 then finish (exSs (cl d) flds exm B8 ⟨cs ++ List.replicate 2 .un, om⟩) else .bad := by
  unfold cl
  rfl
theorem call9 (d : Nat) (cs : List C) (om : List D) : cl (d + 1) 9 cs om = if cs.length = 1 then finish (exSs (cl d) flds exm B9 ⟨cs ++ List.replicate 0 .un, om⟩) else .bad := by
  unfold cl
  rfl
theorem call10 (d : Nat) (cs : List C) (om : List D) : cl (d + 1) 10 cs om = if cs.length = 1 then finish (exSs (cl d) flds exm B10 ⟨cs ++ List.replicate 0 .un, om⟩) else .bad := by
  unfold cl
  rfl
theorem call11 (d : Nat) (cs : List C) (om : List D) : cl (d + 1) 11 cs om = if cs.length = 1 then finish (exSs (cl d) flds exm B11 ⟨cs ++ List.replicate 0 .un, om⟩) else .bad := by
  unfold cl
  rfl
theorem call12 (d : Nat) (cs : List C) (om : List D) : cl (d + 1) 12 cs om = if cs.length = 3 then finish (exSs (cl d) flds exm B12 ⟨cs ++ List.replicate 0 .un, om⟩) else .bad := by
  unfold cl
  rfl
theorem call13 (d : Nat) (cs : List C) (om : List D) : cl (d + 1) 13 cs om = if cs.length = 3 then finish (exSs (cl d) flds exm B13 ⟨cs ++ List.replicate 0 .un, om⟩) else .bad := by
  unfold cl
  rfl
theorem call14 (d : Nat) (cs : List C) (om : List D) : cl (d + 1) 14 cs om = if cs.length = 3 then finish (exSs (cl d) flds exm B14 ⟨cs ++ List.replicate 0 .un, om⟩) else .bad := by
  unfold cl
  rfl
theorem call15 (d : Nat) (cs : List C) (om : List D) : cl (d + 1) 15 cs om = if cs.length = 1 then finish (exSs (cl d) flds exm B15 ⟨cs ++ List.replicate 0 .un, om⟩) else .bad := by
  unfold cl
  rfl
theorem call16 (d : Nat) (cs : List C) (om : List D) : cl (d + 1) 16 cs om = if cs.length = 1 then finish (exSs (cl d) flds exm B16 ⟨cs ++ List.replicate 0 .un, om⟩) else .bad := by
  unfold cl
  rfl
theorem call17 (d : Nat) (cs : List C) (om : List D) : cl (d + 1) 17 cs om = if cs.length = 1 then finish (exSs (cl d) flds exm B17 ⟨cs ++ List.replicate 0 .un, om⟩) else .bad := by
  unfold cl
  rfl
theorem call18 (d : Nat) (cs : List C) (om : List D) : cl (d + 1) 18 cs om = if cs.length = 1 then finish (exSs (cl d) flds exm B18 ⟨cs ++ List.replicate 2 .un, om⟩) else .bad := by
  unfold cl
  rfl
theorem call19 (d : Nat) (cs : List C) (om : List D) : cl (d + 1) 19 cs om = if cs.length = 1 then finish (exSs (cl d) flds exm B19 ⟨cs ++ List.replicate 0 .un, om⟩) else .bad := by
  unfold cl
  rfl
theorem call20 (d : Nat) (cs : List C) (om : List D) : cl (d + 1) 20 cs om = if cs.length = 2 then finish (exSs (cl d) flds exm B20 ⟨cs ++ List.replicate 1 .un, om⟩) else .bad := by
  unfold cl
  rfl
theorem call21 (d : Nat) (cs : List C) (om : List D) : cl (d + 1) 21 cs om = if cs.length = 2 then finish (exSs (cl d) flds exm B21 ⟨cs ++ List.replicate 4 .un, om⟩) else .bad := by
  unfold cl
  rfl
theorem call22 (d : Nat) (cs : List C) (om : List D) : cl (d + 1) 22 cs om = if cs.length = 2 then finish (exSs (cl d) flds exm B22 ⟨cs ++ List.replicate 0 .un, om⟩) else .bad := by
  unfold cl
  rfl
theorem call23 (d : Nat) (cs : List C) (om : List D) : cl (d + 1) 23 cs om = if cs.length = 3 then finish (exSs (cl d) flds exm B23 ⟨cs ++ List.replicate 0 .un, om⟩) else .bad := by
  unfold cl
  rfl
theorem call24 (d : Nat) (cs : List C) (om : List D) : cl (d + 1) 24 cs om = if cs.length = 3 then finish (exSs (cl d) flds exm B24 ⟨cs ++ List.replicate 0 .un, om⟩) else .bad := by
  unfold cl
  rfl
theorem call25 (d : Nat) (cs : List C) (om : List D) : cl (d + 1) 25 cs om = if cs.length = 3 then finish (exSs (cl d) flds exm B25 ⟨cs ++ List.replicate 1 .un, om⟩) else .bad := by
  unfold cl
  rfl
theorem call26 (d : Nat) (cs : List C) (om : List D) : cl (d + 1) 26 cs om = if cs.length = 3 then finish (exSs (cl d) flds exm B26 ⟨cs ++ List.replicate 0 .un, om⟩) else .bad := by
  unfold cl
  rfl
theorem call27 (d : Nat) (cs : List C) (om : List D) : cl (d + 1) 27 cs om = if cs.length = 3 then finish (exSs (cl d) flds exm B27 ⟨cs ++ List.replicate 1 .un, om⟩) else .bad := by
  unfold cl
  rfl
theorem call28 (d : Nat) (cs : List C) (om : List D) : cl (d + 1) 28 cs om = if cs.length = 2 then finish (exSs (cl d) flds exm B28 ⟨cs ++ List.replicate 2 .un, om⟩) else .bad := by
  unfold cl
  rfl
theorem call29 (d : Nat) (cs : List C) (om : List D) : cl (d + 1) 29 cs om = if cs.length = 3 then finish (exSs (cl d) flds exm B29 ⟨cs ++ List.replicate 0 .un, om⟩) else .bad := by
  unfold cl
  rfl
theorem call30 (d : Nat) (cs : List C) (om : List D) : cl (d + 1) 30 cs om = if cs.length = 3 then finish (exSs (cl d) flds exm B30 ⟨cs ++ List.replicate 0 .un, om⟩) else .bad := by
  unfold cl
  rfl
theorem call31 (d : Nat) (cs : List C) (om : List D) : cl (d + 1) 31 cs om = if cs.length = 1 then finish (exSs (cl d) flds exm B31 ⟨cs ++ List.replicate 2 .un, om⟩) else .bad := by
  unfold cl
  rfl
theorem call32 (d : Nat) (cs : List C) (om : List D) : cl (d + 1) 32 cs om = if cs.length = 2 then finish (exSs (cl d) flds exm B32 ⟨cs ++ List.replicate 3 .un, om⟩) else .bad := by
  unfold cl
  rfl
theorem call33 (d : Nat) (cs : List C) (om : List D) : cl (d + 1) 33 cs om = if cs.length = 2 then finish (exSs (cl d) flds exm B33 ⟨cs ++ List.replicate 0 .un, om⟩) else .bad := by
  unfold cl
  rfl
theorem call34 (d : Nat) (cs : List C) (om : List D) : cl (d + 1) 34 cs om = if cs.length = 2 then finish (exSs (cl d) flds exm B34 ⟨cs ++ List.replicate 3 .un, om⟩) else .bad := by
  unfold cl
  rfl
theorem call35 (d : Nat) (cs : List C) (om : List D) : cl (d + 1) 35 cs om = if cs.length = 1 then finish (exSs (cl d) flds exm B35 ⟨cs ++ List.replicate 3 .un, om⟩) else .bad := by
  unfold cl
  rfl
theorem call36 (d : Nat) (cs : List C) (om : List D) : cl (d + 1) 36 cs om = if cs.length = 2 then finish (exSs (cl d) flds exm B36 ⟨cs ++ List.replicate 6 .un, om⟩) else .bad := by
  unfold cl
  rfl
theorem call37 (d : Nat) (cs : List C) (om : List D) : cl (d + 1) 37 cs om = if cs.length = 4 then finish (exSs (cl d) flds exm B37 ⟨cs ++ List.replicate 5 .un, om⟩) else .bad := by
  unfold cl
  rfl
theorem call38 (d : Nat) (cs : List C) (om : List D) : cl (d + 1) 38 cs om = if cs.length = 1 then finish (exSs (cl d) flds exm B38 ⟨cs ++ List.replicate 1 .un, om⟩) else .bad := by
  unfold cl
  rfl
theorem call39 (d : Nat) (cs : List C) (om : List D) : cl (d + 1) 39 cs om = if cs.length = 3 then finish (exSs (cl d) flds exm B39 ⟨cs ++ List.replicate 3 .un, om⟩) else .bad := by
  unfold cl
  rfl
theorem call40 (d : Nat) (cs : List C) (om : List D) : cl (d + 1) 40 cs om = if cs.length = 4 then finish (exSs (cl d) flds exm B40 ⟨cs ++ List.replicate 5 .un, om⟩) else .bad := by
  unfold cl
  rfl
theorem call41 (d : Nat) (cs : List C) (om : List D) : cl (d + 1) 41 cs om = if cs.length = 4 then finish (exSs (cl d) flds exm B41 ⟨cs ++ List.replicate 2 .un, om⟩) else .bad := by
  unfold cl
  rfl
theorem call43 (d : Nat) (cs : List C) (om : List D) : cl (d + 1) 43 cs om = if cs.length = 0 then finish (exSs (cl d) flds exm B43 ⟨cs ++ List.replicate 1 .un, om⟩) else .bad := by
  unfold cl
  rfl
theorem call44 (d : Nat) (cs : List C) (om : List D) : cl (d + 1) 44 cs om = if cs.length = 3 then finish (exSs (cl d) flds exm B44 ⟨cs ++ List.replicate 13 .un, om⟩) else .bad := by
  unfold cl
  rfl
theorem call45 (d : Nat) (cs : List C) (om : List D) : cl (d + 1) 45 cs om = if cs.length = 2 then finish (exSs (cl d) flds exm B45 ⟨cs ++ List.replicate 6 .un, om⟩) else .bad := by
  unfold cl
  rfl
theorem call46 (d : Nat) (cs : List C) (om : List D) : cl (d + 1) 46 cs om = if cs.length = 3 then finish (exSs (cl d) flds exm B46 ⟨cs ++ List.replicate 6 .un, om⟩) else .bad := by
  unfold cl
  rfl
theorem call47 (d : Nat) (cs : List C) (om : List D) : cl (d + 1) 47 cs om = if cs.length = 1 then finish (exSs (cl d) flds exm B47 ⟨cs ++ List.replicate 4 .un, om⟩) else .bad := by
  unfold cl
  rfl
end LW

set_option Elab.async false
set_option linter.all false
set_option maxRecDepth 100000
set_option maxHeartbeats 2000000
/-! M0: k96 in plain: lots, neighbours, crowds -/
namespace LW
open PySem VM
def prs (n : Nat) : List (List Nat) := (List.range n).flatMap fun a => (List.range (n - (a + 1))).map fun b => [a, a + 1 + b]
def pz (n : Nat) : List (List Nat × Nat) := (prs n).zip (List.range (prs n).length)
def hueAt (n : Nat) (r : List Nat) (p : List Nat) : Nat := match gA (pz n) p with
  | some k => r.getD k 9
  | none => 9
theorem mem_prs {n : Nat} {p : List Nat} : p ∈ prs n ↔ ∃ a b, p = [a, b] ∧ a < b ∧ b < n := by
  unfold prs
  simp only [List.mem_flatMap, List.mem_range, List.mem_map]
  constructor
  · rintro ⟨a, ha, b, hb, rfl⟩
    exact ⟨a, a + 1 + b, rfl, by omega, by omega⟩
  · rintro ⟨a, b, rfl, h1, h2⟩
    exact ⟨a, by omega, b - (a + 1), by omega, by rw [show a + 1 + (b - (a + 1)) = b by omega]⟩
theorem prs_len : ∀ n, n < 8 → (prs n).length = n * (n - 1) / 2 := by decide
theorem prs_le : ∀ n, n < 8 → (prs n).length ≤ 21 := by decide
theorem pz_at : ∀ n, n < 8 → ∀ i, i < (prs n).length → gA (pz n) ((prs n).getD i []) = some i := by decide +kernel
theorem mem_zip {n : Nat} (hn : n < 8) {r : List Nat} (hr : r.length = (prs n).length) {p : List Nat} {h : Nat} : (p, h) ∈ (prs n).zip r ↔ p ∈ prs n ∧ hueAt n r p = h := by
  constructor
  · intro z
    obtain ⟨i, e⟩ := List.mem_iff_getElem?.mp z
    rw [List.getElem?_zip_eq_some] at e
    obtain ⟨e1, e2⟩ := e
    have hi := (List.getElem?_eq_some_iff.mp e1).1
    have g := pz_at n hn i hi
    rw [List.getD_eq_getElem?_getD, e1] at g
    refine ⟨List.mem_of_getElem? e1, ?_⟩
    unfold hueAt
    rw [show gA (pz n) p = some i from g]
    show r.getD i 9 = h
    rw [List.getD_eq_getElem?_getD, e2] <;> rfl
  · rintro ⟨z, rfl⟩
    obtain ⟨i, e1⟩ := List.mem_iff_getElem?.mp z
    have hi := (List.getElem?_eq_some_iff.mp e1).1
    have g := pz_at n hn i hi
    rw [List.getD_eq_getElem?_getD, e1] at g
    refine List.mem_iff_getElem?.mpr ⟨i, ?_⟩
    rw [List.getElem?_zip_eq_some]
    refine ⟨e1, ?_⟩
    unfold hueAt
    rw [show gA (pz n) p = some i from g]
    show r[i]? = some (r.getD i 9)
    rw [List.getD_eq_getElem?_getD, List.getElem?_eq_getElem (by omega)] <;> rfl
/-! ### neighbours -/
def napp (f : List (List Nat)) (a b : Nat) : Option (List (List Nat)) := match f[a]? with
  | some l => if l.length < 1000 then some (f.set a (l ++ [b])) else none
  | none => none
def nstep (hue : Nat) (f : List (List Nat)) (x : List Nat × Nat) : Option (List (List Nat)) := match x.1 with
  | [a, b] => if x.2 = hue then (napp f a b).bind fun f => napp f b a else some f
  | _ => none
theorem napp_ok {f : List (List Nat)} {a b B : Nat} (ha : a < f.length) (hB : ∀ l ∈ f, l.length ≤ B) (hB2 : B < 1000) : ∃ f', napp f a b = some f' ∧ f'.length = f.length ∧ (∀ l ∈ f', l.length ≤ B + 1) ∧ ∀ i j, j ∈ f'.getD i [] ↔ j ∈ f.getD i [] ∨ (i = a ∧ j = b) := by
  refine ⟨f.set a (f[a] ++ [b]), ?_, by simp, fun l hl => ?_, fun i j => ?_⟩
  · unfold napp
    rw [List.getElem?_eq_getElem ha]
    have := hB _ (List.getElem_mem ha)
    show (if f[a].length < 1000 then _ else _) = _
    rw [if_pos (by omega)]
  · rcases List.mem_or_eq_of_mem_set hl with h | h
    · have := hB l h
      omega
    · rw [h]
      have := hB _ (List.getElem_mem ha)
      simp
      omega
  · rw [List.getD_eq_getElem?_getD, List.getD_eq_getElem?_getD, List.getElem?_set]
    by_cases h : a = i
    · subst h
      rw [if_pos rfl, if_pos ha, List.getElem?_eq_getElem ha]
      simp
    · rw [if_neg h]
      constructor
      · exact .inl
      · rintro (z | ⟨z, _⟩)
        · exact z
        · exact absurd z.symm h
theorem near_fold (hue : Nat) : ∀ {zr : List (List Nat × Nat)} {f : List (List Nat)} {B : Nat}, (∀ x ∈ zr, ∃ a b, x.1 = [a, b] ∧ a < f.length ∧ b < f.length) → (∀ l ∈ f, l.length ≤ B) → B + 2 * zr.length < 1000 →
    ∃ f', foldO (nstep hue) f zr = some f' ∧ f'.length = f.length ∧ ∀ i j, j ∈ f'.getD i [] ↔ j ∈ f.getD i [] ∨ ∃ a b, ([a, b], hue) ∈ zr ∧ ((i = a ∧ j = b) ∨ (i = b ∧ j = a))
  | [], f, B, _, _, _ => ⟨f, rfl, rfl, fun i j => by simp⟩
  | (p, h) :: zr, f, B, h1, h2, h3 => by
    obtain ⟨a, b, e, ha, hb⟩ := h1 _ List.mem_cons_self
    have e : p = [a, b] := e
    subst e
    simp only [List.length_cons] at h3
    by_cases q : h = hue
    · obtain ⟨f1, a1, a2, a3, a4⟩ := napp_ok (b := b) ha h2 (by omega)
      obtain ⟨f2, b1, b2, b3, b4⟩ := napp_ok (b := a) (show b < f1.length by omega) a3 (by omega)
      have es : nstep hue f ([a, b], h) = some f2 := by
        show (if h = hue then (napp f a b).bind fun f => napp f b a else some f) = _
        rw [if_pos q, a1]
        exact b1
      obtain ⟨f', c1, c2, c3⟩ := near_fold hue (zr := zr) (f := f2) (fun x hx => by rw [b2, a2]; exact h1 x (List.mem_cons_of_mem _ hx)) b3 (by omega)
      refine ⟨f', by rw [foldO, es]; exact c1, by omega, fun i j => ?_⟩
      rw [c3, b4, a4]
      constructor
      · rintro (((z | z) | z) | ⟨a', b', z, w⟩)
        · exact .inl z
        · exact .inr ⟨a, b, by rw [q]; exact List.mem_cons_self, .inl z⟩
        · exact .inr ⟨a, b, by rw [q]; exact List.mem_cons_self, .inr z⟩
        · exact .inr ⟨a', b', List.mem_cons_of_mem _ z, w⟩
      · rintro (z | ⟨a', b', z, w⟩)
        · exact .inl (.inl (.inl z))
        · rcases List.mem_cons.mp z with z | z
          · injection z with z1 z2
            injection z1 with z1 z3
            injection z3 with z3 _
            subst z1 z3
            rcases w with w | w
            · exact .inl (.inl (.inr w))
            · exact .inl (.inr w)
          · exact .inr ⟨a', b', z, w⟩
    · have es : nstep hue f ([a, b], h) = some f := by
        show (if h = hue then (napp f a b).bind fun f => napp f b a else some f) = _
        rw [if_neg q]
      obtain ⟨f', c1, c2, c3⟩ := near_fold hue (zr := zr) (f := f) (fun x hx => h1 x (List.mem_cons_of_mem _ hx)) h2 (by omega)
      refine ⟨f', by rw [foldO, es]; exact c1, c2, fun i j => ?_⟩
      rw [c3]
      constructor
      · rintro (z | ⟨a', b', z, w⟩)
        · exact .inl z
        · exact .inr ⟨a', b', List.mem_cons_of_mem _ z, w⟩
      · rintro (z | ⟨a', b', z, w⟩)
        · exact .inl z
        · rcases List.mem_cons.mp z with z | z
          · injection z with z1 z2
            exact absurd z2.symm q
          · exact .inr ⟨a', b', z, w⟩
theorem insN_mem (x y : Nat) : ∀ l, y ∈ insN x l ↔ y = x ∨ y ∈ l
  | [] => by simp [insN]
  | z :: l => by
    rw [insN]
    split
    · simp
    · simp only [List.mem_cons, insN_mem x y l]
      constructor
      · rintro (h | h | h) <;> simp [h]
      · rintro (h | h | h) <;> simp [h]
theorem sortN_mem (y : Nat) : ∀ l, y ∈ sortN l ↔ y ∈ l
  | [] => by simp [sortN]
  | x :: l => by rw [sortN, insN_mem, sortN_mem y l, List.mem_cons]
/-- for each place those that are tied to it -/
structure Near (n : Nat) (r : List Nat) (hue : Nat) (f : List (List Nat)) : Prop where
  len : f.length = n
  run : foldO (nstep hue) (List.replicate n []) ((prs n).zip r) = some f
  adj : ∀ i j, i < j → j < n → (j ∈ f.getD i [] ↔ hueAt n r [i, j] = hue)
theorem near_ex {n : Nat} (hn : n < 8) {r : List Nat} (hr : r.length = (prs n).length) (hue : Nat) : ∃ f, Near n r hue f := by
  obtain ⟨f, h1, h2, h3⟩ := near_fold hue (zr := (prs n).zip r) (f := List.replicate n []) (B := 0) (fun x hx => by
    obtain ⟨p, h⟩ := x
    obtain ⟨a, b, e, z1, z2⟩ := mem_prs.mp ((mem_zip hn hr).mp hx).1
    refine ⟨a, b, e, ?_, ?_⟩ <;> (rw [List.length_replicate]; omega)) (fun l hl => by rw [(List.mem_replicate.mp hl).2]; simp) (by
    have := prs_le n hn
    rw [List.length_zip]
    omega)
  refine ⟨f, by rw [h2, List.length_replicate], h1, fun i j hij hj => ?_⟩
  rw [h3]
  constructor
  · rintro (z | ⟨a, b, z, w⟩)
    · rw [List.getD_eq_getElem?_getD] at z
      rw [List.getElem?_replicate] at z
      split at z <;> simp at z
    · obtain ⟨z1, z2⟩ := (mem_zip hn hr).mp z
      obtain ⟨a', b', e, c1, c2⟩ := mem_prs.mp z1
      injection e with e1 e2
      injection e2 with e2 _
      rcases w with ⟨w1, w2⟩ | ⟨w1, w2⟩
      · rw [w1, w2]; exact z2
      · omega
  · intro z
    exact .inr ⟨i, j, (mem_zip hn hr).mpr ⟨mem_prs.mpr ⟨i, j, rfl, hij, hj⟩, z⟩, .inl ⟨rfl, rfl⟩⟩
/-! ### crowds -/
def beg (lot : List Nat) : Nat := match lot.getLast? with
  | some x => x + 1
  | none => 0
def isC (near : List (List Nat)) (lot : List Nat) (two : Nat) : Bool := lot.all fun one => (near.getD one []).contains two
def longs (near : List (List Nat)) (n : Nat) (lot : List Nat) : List (List Nat) := (((List.range (n - beg lot)).map (beg lot + ·)).filter (isC near lot)).map fun two => lot ++ [two]
def crowdsN (near : List (List Nat)) (n : Nat) : Nat → List (List Nat)
  | 0 => [[]]
  | k + 1 => (crowdsN near n k).flatMap (longs near n)
/-- a lot all of whose pairs are so -/
structure Lot (n : Nat) (R : Nat → Nat → Prop) (k : Nat) (lot : List Nat) : Prop where
  len : lot.length = k
  inc : lot.Pairwise (· < ·)
  lt : ∀ x ∈ lot, x < n
  adj : lot.Pairwise R
theorem beg_le {lot l : List Nat} {y : Nat} (e : l ++ [y] = lot) (h : lot.Pairwise (· < ·)) : beg l ≤ y := by
  unfold beg
  cases q : l.getLast? with
  | none => exact Nat.zero_le _
  | some x =>
    obtain ⟨l', e'⟩ := List.getLast?_eq_some_iff.mp q
    rw [← e] at h
    exact (List.pairwise_append.mp h).2.2 x (by rw [e']; simp) y (by simp)
theorem mem_crowds {near : List (List Nat)} {n : Nat} : ∀ {k : Nat} {lot : List Nat}, lot ∈ crowdsN near n k ↔ Lot n (fun a b => b ∈ near.getD a []) k lot
  | 0, lot => by
    show lot ∈ [[]] ↔ _
    constructor
    · intro h
      rw [List.mem_singleton.mp h]
      exact ⟨rfl, .nil, fun x hx => by simp at hx, .nil⟩
    · intro h
      rw [List.length_eq_zero_iff.mp h.len]
      exact List.mem_singleton.mpr rfl
  | k + 1, lot => by
    show lot ∈ (crowdsN near n k).flatMap (longs near n) ↔ _
    rw [List.mem_flatMap]
    unfold longs
    simp only [List.mem_map, List.mem_filter, List.mem_range]
    constructor
    · rintro ⟨l, hl, two, ⟨⟨d, hd, rfl⟩, hc⟩, rfl⟩
      obtain ⟨h1, h2, h3, h4⟩ := mem_crowds.mp hl
      have hb : ∀ x ∈ l, x < beg l + d := fun x hx => by
        unfold beg
        cases q : l.getLast? with
        | none =>
          rw [List.getLast?_eq_none_iff] at q
          rw [q] at hx
          simp at hx
        | some y =>
          obtain ⟨l', e⟩ := List.getLast?_eq_some_iff.mp q
          rw [e] at hx h2
          show x < y + 1 + d
          rcases List.mem_append.mp hx with z | z
          · have := (List.pairwise_append.mp h2).2.2 x z y (by simp)
            omega
          · have := List.mem_singleton.mp z
            omega
      refine ⟨by simp [h1], List.pairwise_append.mpr ⟨h2, List.pairwise_singleton _ _, fun a ha b hb' => ?_⟩, fun x hx => ?_, List.pairwise_append.mpr ⟨h4, List.pairwise_singleton _ _, fun a ha b hb' => ?_⟩⟩
      · rw [List.mem_singleton.mp hb']; exact hb a ha
      · rcases List.mem_append.mp hx with z | z
        · exact h3 x z
        · rw [List.mem_singleton.mp z]; omega
      · rw [List.mem_singleton.mp hb']
        have := List.all_eq_true.mp hc a ha
        simpa using this
    · intro ⟨h1, h2, h3, h4⟩
      have hne : lot ≠ [] := fun z => by rw [z] at h1; simp at h1
      have e := List.dropLast_concat_getLast hne
      refine ⟨lot.dropLast, mem_crowds.mpr ?_, lot.getLast hne, ⟨⟨lot.getLast hne - beg lot.dropLast, ?_, ?_⟩, ?_⟩, e⟩
      · rw [← e] at h2 h4
        exact ⟨by simp [h1], (List.pairwise_append.mp h2).1, fun x hx => h3 x (List.dropLast_subset _ hx), (List.pairwise_append.mp h4).1⟩
      · have l1 := h3 _ (List.getLast_mem hne)
        have l2 : beg lot.dropLast ≤ lot.getLast hne := beg_le e h2
        omega
      · have l2 : beg lot.dropLast ≤ lot.getLast hne := beg_le e h2
        omega
      · refine List.all_eq_true.mpr fun a ha => ?_
        rw [← e] at h4
        have := (List.pairwise_append.mp h4).2.2 a ha _ (List.mem_singleton.mpr rfl)
        simpa using this
theorem crowds_len (near : List (List Nat)) (n : Nat) (hn : n < 8) : ∀ k, (crowdsN near n k).length ≤ 8 ^ k
  | 0 => Nat.le_refl _
  | k + 1 => by
    have ih := crowds_len near n hn k
    show ((crowdsN near n k).flatMap (longs near n)).length ≤ _
    have : ∀ l : List (List Nat), (l.flatMap (longs near n)).length ≤ l.length * 8 := fun l => by
      induction l with
      | nil => simp
      | cons x l ih =>
        rw [List.flatMap_cons, List.length_append, List.length_cons]
        have : (longs near n x).length ≤ 8 := by
          unfold longs
          rw [List.length_map]
          refine Nat.le_trans (List.length_filter_le _ _) ?_
          rw [List.length_map, List.length_range]
          omega
        omega
    refine Nat.le_trans (this _) ?_
    rw [Nat.pow_succ]
    omega
/-! ### the law's own lots -/
def incs : Nat → Nat → Nat → List (List Nat)
  | 0, _, m => if m = 0 then [[]] else []
  | k + 1, lo, m => match m with
    | 0 => [[]]
    | m + 1 => (incs k (lo + 1) m).map (lo :: ·) ++ incs k (lo + 1) (m + 1)
theorem mem_incs : ∀ {k lo m : Nat} {l : List Nat}, l ∈ incs k lo m ↔ l.length = m ∧ l.Pairwise (· < ·) ∧ ∀ x ∈ l, lo ≤ x ∧ x < lo + k
  | 0, lo, m, l => by
    rw [incs]
    constructor
    · intro h
      split at h
      · rw [List.mem_singleton.mp h]
        next e => exact ⟨e.symm, .nil, fun x hx => by simp at hx⟩
      · simp at h
    · rintro ⟨h1, _, h2⟩
      cases l with
      | nil =>
        have h1 : 0 = m := h1
        rw [if_pos h1.symm]; simp
      | cons x l => have := h2 x List.mem_cons_self; omega
  | k + 1, lo, 0, l => by
    rw [incs]
    simp only [List.mem_singleton]
    constructor
    · rintro rfl
      exact ⟨rfl, .nil, fun x hx => by simp at hx⟩
    · rintro ⟨h1, _⟩
      exact List.length_eq_zero_iff.mp h1
  | k + 1, lo, m + 1, l => by
    rw [incs]
    simp only [List.mem_append, List.mem_map, mem_incs]
    constructor
    · rintro (⟨t, ⟨h1, h2, h3⟩, rfl⟩ | ⟨h1, h2, h3⟩)
      · refine ⟨by simp [h1], List.pairwise_cons.mpr ⟨fun x hx => by have := h3 x hx; omega, h2⟩, fun x hx => ?_⟩
        rcases List.mem_cons.mp hx with rfl | hx
        · omega
        · have := h3 x hx; omega
      · exact ⟨h1, h2, fun x hx => by have := h3 x hx; omega⟩
    · rintro ⟨h1, h2, h3⟩
      cases l with
      | nil => simp at h1
      | cons x t =>
        obtain ⟨p1, p2⟩ := List.pairwise_cons.mp h2
        have hx := h3 x List.mem_cons_self
        by_cases e : x = lo
        · subst e
          exact .inl ⟨t, ⟨by simpa using h1, p2, fun y hy => by have := p1 y hy; have := h3 y (List.mem_cons_of_mem _ hy); omega⟩, rfl⟩
        · refine .inr ⟨h1, h2, fun y hy => ?_⟩
          have := h3 y hy
          rcases List.mem_cons.mp hy with rfl | hy
          · omega
          · have := p1 y hy; omega
def own (lot : List Nat) (m : Nat) : List (List Nat) := (prs m).map fun p => [lot.getD (p.getD 0 0) 0, lot.getD (p.getD 1 0) 0]
def hasL (n : Nat) (r : List Nat) (hue m : Nat) : Bool := (incs n 0 m).any fun lot => (own lot m).all fun p => decide (hueAt n r p = hue)
theorem own_adj {lot : List Nat} {m : Nat} {R : Nat → Nat → Prop} (h : lot.length = m) : (∀ p ∈ own lot m, ∀ a b, p = [a, b] → R a b) ↔ lot.Pairwise R := by
  rw [List.pairwise_iff_getElem]
  unfold own
  constructor
  · intro z i j hi hj hij
    refine z _ (List.mem_map.mpr ⟨[i, j], mem_prs.mpr ⟨i, j, rfl, hij, by omega⟩, rfl⟩) _ _ ?_
    show [lot.getD i 0, lot.getD j 0] = [lot[i], lot[j]]
    rw [List.getD_eq_getElem?_getD, List.getD_eq_getElem?_getD, List.getElem?_eq_getElem hi, List.getElem?_eq_getElem hj] <;> rfl
  · intro z p hp a b e
    obtain ⟨q, hq, rfl⟩ := List.mem_map.mp hp
    obtain ⟨i, j, rfl, hij, hj⟩ := mem_prs.mp hq
    have e : [lot.getD i 0, lot.getD j 0] = [a, b] := e
    injection e with e1 e2
    injection e2 with e2 _
    have := z i j (by omega) (by omega) hij
    rw [← e1, ← e2, List.getD_eq_getElem?_getD, List.getD_eq_getElem?_getD, List.getElem?_eq_getElem (show i < lot.length by omega), List.getElem?_eq_getElem (show j < lot.length by omega)]
    exact this
/-- the two say the same -/
theorem has_iff {n : Nat} (hn : n < 8) {r : List Nat} {hue m : Nat} {f : List (List Nat)} (N : Near n r hue f) : decide (0 < (crowdsN (f.map sortN) n m).length) = hasL n r hue m := by
  have gd : ∀ a, (f.map sortN).getD a [] = sortN (f.getD a []) := fun a => by
    rw [List.getD_eq_getElem?_getD, List.getD_eq_getElem?_getD, List.getElem?_map]
    cases f[a]? <;> rfl
  have key : (∃ lot, lot ∈ crowdsN (f.map sortN) n m) ↔ hasL n r hue m = true := by
    unfold hasL
    rw [List.any_eq_true]
    constructor
    · rintro ⟨lot, h⟩
      obtain ⟨h1, h2, h3, h4⟩ := mem_crowds.mp h
      refine ⟨lot, mem_incs.mpr ⟨h1, h2, fun x hx => ⟨Nat.zero_le _, by have := h3 x hx; omega⟩⟩, List.all_eq_true.mpr fun p hp => decide_eq_true ?_⟩
      obtain ⟨q, hq, e⟩ := List.mem_map.mp hp
      have w : lot.Pairwise fun a b => hueAt n r [a, b] = hue := by
        rw [List.pairwise_iff_getElem] at h2 h4 ⊢
        intro i j hi hj hij
        have a1 := h2 i j hi hj hij
        have a2 := h4 i j hi hj hij
        rw [gd, sortN_mem] at a2
        exact (N.adj _ _ a1 (h3 _ (List.getElem_mem hj))).mp a2
      have := (own_adj h1).mpr w p hp _ _ e.symm
      rw [← e]
      exact this
    · rintro ⟨lot, h, h'⟩
      obtain ⟨h1, h2, h3⟩ := mem_incs.mp h
      have w : lot.Pairwise fun a b => hueAt n r [a, b] = hue := (own_adj h1).mp fun p hp a b e => by
        rw [← e]
        exact of_decide_eq_true (List.all_eq_true.mp h' p hp)
      refine ⟨lot, mem_crowds.mpr ⟨h1, h2, fun x hx => by have := h3 x hx; omega, ?_⟩⟩
      rw [List.pairwise_iff_getElem] at h2 w ⊢
      intro i j hi hj hij
      have a1 := h2 i j hi hj hij
      rw [gd, sortN_mem]
      exact (N.adj _ _ a1 (by have := h3 _ (List.getElem_mem hj); omega)).mpr (w i j hi hj hij)
  by_cases q : 0 < (crowdsN (f.map sortN) n m).length
  · rw [decide_eq_true q]
    exact (key.mp ⟨_, List.getElem_mem q⟩).symm
  · rw [decide_eq_false q]
    cases z : hasL n r hue m with
    | false => rfl
    | true =>
      obtain ⟨lot, h⟩ := key.mpr z
      exact absurd (List.length_pos_of_mem h) q
end LW

set_option Elab.async false
set_option linter.all false
set_option maxRecDepth 100000
set_option maxHeartbeats 4000000
/-! K0: k96: pairs, lots: closed runs -/
namespace LW
open PySem L2 VM
def lotsD (n m : Nat) : List D := (incs n 0 m).map fun lot => D.tup [tN lot, .lst (tNs (own lot m))]
theorem pairs_of (d n : Nat) (h : n < 8) (om : List D) : cl (d + 1) 4 [.sh (nI n)] om = .ok (.ow (.lst (tNs (prs n)))) om := by
  unfold cl
  match n, h with
  | 0, _ => kernel_rfl
  | 1, _ => kernel_rfl
  | 2, _ => kernel_rfl
  | 3, _ => kernel_rfl
  | 4, _ => kernel_rfl
  | 5, _ => kernel_rfl
  | 6, _ => kernel_rfl
  | 7, _ => kernel_rfl
theorem law_pairs (d n : Nat) (h : n < 8) (om : List D) : cl (d + 1) 35 [.sh (nI n)] om = .ok (.sh (.lst (tNs (prs n)))) om := by
  unfold cl
  match n, h with
  | 0, _ => kernel_rfl
  | 1, _ => kernel_rfl
  | 2, _ => kernel_rfl
  | 3, _ => kernel_rfl
  | 4, _ => kernel_rfl
  | 5, _ => kernel_rfl
  | 6, _ => kernel_rfl
  | 7, _ => kernel_rfl
theorem lots02 (d : Nat) (om : List D) : cl (d + 2) 36 [.sh (nI 0), .sh (nI 2)] om = .ok (.ow (.lst (lotsD 0 2))) om := by
  unfold cl
  kernel_rfl
theorem lots12 (d : Nat) (om : List D) : cl (d + 2) 36 [.sh (nI 1), .sh (nI 2)] om = .ok (.ow (.lst (lotsD 1 2))) om := by
  unfold cl
  kernel_rfl
theorem lots22 (d : Nat) (om : List D) : cl (d + 2) 36 [.sh (nI 2), .sh (nI 2)] om = .ok (.ow (.lst (lotsD 2 2))) om := by
  unfold cl
  kernel_rfl
theorem lots32 (d : Nat) (om : List D) : cl (d + 2) 36 [.sh (nI 3), .sh (nI 2)] om = .ok (.ow (.lst (lotsD 3 2))) om := by
  unfold cl
  kernel_rfl
theorem lots42 (d : Nat) (om : List D) : cl (d + 2) 36 [.sh (nI 4), .sh (nI 2)] om = .ok (.ow (.lst (lotsD 4 2))) om := by
  unfold cl
  kernel_rfl
theorem lots52 (d : Nat) (om : List D) : cl (d + 2) 36 [.sh (nI 5), .sh (nI 2)] om = .ok (.ow (.lst (lotsD 5 2))) om := by
  unfold cl
  kernel_rfl
theorem lots62 (d : Nat) (om : List D) : cl (d + 2) 36 [.sh (nI 6), .sh (nI 2)] om = .ok (.ow (.lst (lotsD 6 2))) om := by
  unfold cl
  kernel_rfl
theorem lots72 (d : Nat) (om : List D) : cl (d + 2) 36 [.sh (nI 7), .sh (nI 2)] om = .ok (.ow (.lst (lotsD 7 2))) om := by
  unfold cl
  kernel_rfl
theorem lots03 (d : Nat) (om : List D) : cl (d + 2) 36 [.sh (nI 0), .sh (nI 3)] om = .ok (.ow (.lst (lotsD 0 3))) om := by
  unfold cl
  kernel_rfl
theorem lots13 (d : Nat) (om : List D) : cl (d + 2) 36 [.sh (nI 1), .sh (nI 3)] om = .ok (.ow (.lst (lotsD 1 3))) om := by
  unfold cl
  kernel_rfl
theorem lots23 (d : Nat) (om : List D) : cl (d + 2) 36 [.sh (nI 2), .sh (nI 3)] om = .ok (.ow (.lst (lotsD 2 3))) om := by
  unfold cl
  kernel_rfl
theorem lots33 (d : Nat) (om : List D) : cl (d + 2) 36 [.sh (nI 3), .sh (nI 3)] om = .ok (.ow (.lst (lotsD 3 3))) om := by
  unfold cl
  kernel_rfl
theorem lots43 (d : Nat) (om : List D) : cl (d + 2) 36 [.sh (nI 4), .sh (nI 3)] om = .ok (.ow (.lst (lotsD 4 3))) om := by
  unfold cl
  kernel_rfl
theorem lots53 (d : Nat) (om : List D) : cl (d + 2) 36 [.sh (nI 5), .sh (nI 3)] om = .ok (.ow (.lst (lotsD 5 3))) om := by
  unfold cl
  kernel_rfl
theorem lots63 (d : Nat) (om : List D) : cl (d + 2) 36 [.sh (nI 6), .sh (nI 3)] om = .ok (.ow (.lst (lotsD 6 3))) om := by
  unfold cl
  kernel_rfl
theorem lots73 (d : Nat) (om : List D) : cl (d + 2) 36 [.sh (nI 7), .sh (nI 3)] om = .ok (.ow (.lst (lotsD 7 3))) om := by
  unfold cl
  kernel_rfl
theorem lots04 (d : Nat) (om : List D) : cl (d + 2) 36 [.sh (nI 0), .sh (nI 4)] om = .ok (.ow (.lst (lotsD 0 4))) om := by
  unfold cl
  kernel_rfl
theorem lots14 (d : Nat) (om : List D) : cl (d + 2) 36 [.sh (nI 1), .sh (nI 4)] om = .ok (.ow (.lst (lotsD 1 4))) om := by
  unfold cl
  kernel_rfl
theorem lots24 (d : Nat) (om : List D) : cl (d + 2) 36 [.sh (nI 2), .sh (nI 4)] om = .ok (.ow (.lst (lotsD 2 4))) om := by
  unfold cl
  kernel_rfl
theorem lots34 (d : Nat) (om : List D) : cl (d + 2) 36 [.sh (nI 3), .sh (nI 4)] om = .ok (.ow (.lst (lotsD 3 4))) om := by
  unfold cl
  kernel_rfl
theorem lots44 (d : Nat) (om : List D) : cl (d + 2) 36 [.sh (nI 4), .sh (nI 4)] om = .ok (.ow (.lst (lotsD 4 4))) om := by
  unfold cl
  kernel_rfl
theorem lots54 (d : Nat) (om : List D) : cl (d + 2) 36 [.sh (nI 5), .sh (nI 4)] om = .ok (.ow (.lst (lotsD 5 4))) om := by
  unfold cl
  kernel_rfl
theorem lots64 (d : Nat) (om : List D) : cl (d + 2) 36 [.sh (nI 6), .sh (nI 4)] om = .ok (.ow (.lst (lotsD 6 4))) om := by
  unfold cl
  kernel_rfl
theorem lots74 (d : Nat) (om : List D) : cl (d + 2) 36 [.sh (nI 7), .sh (nI 4)] om = .ok (.ow (.lst (lotsD 7 4))) om := by
  unfold cl
  kernel_rfl
theorem lots05 (d : Nat) (om : List D) : cl (d + 2) 36 [.sh (nI 0), .sh (nI 5)] om = .ok (.ow (.lst (lotsD 0 5))) om := by
  unfold cl
  kernel_rfl
theorem lots15 (d : Nat) (om : List D) : cl (d + 2) 36 [.sh (nI 1), .sh (nI 5)] om = .ok (.ow (.lst (lotsD 1 5))) om := by
  unfold cl
  kernel_rfl
theorem lots25 (d : Nat) (om : List D) : cl (d + 2) 36 [.sh (nI 2), .sh (nI 5)] om = .ok (.ow (.lst (lotsD 2 5))) om := by
  unfold cl
  kernel_rfl
theorem lots35 (d : Nat) (om : List D) : cl (d + 2) 36 [.sh (nI 3), .sh (nI 5)] om = .ok (.ow (.lst (lotsD 3 5))) om := by
  unfold cl
  kernel_rfl
theorem lots45 (d : Nat) (om : List D) : cl (d + 2) 36 [.sh (nI 4), .sh (nI 5)] om = .ok (.ow (.lst (lotsD 4 5))) om := by
  unfold cl
  kernel_rfl
theorem lots55 (d : Nat) (om : List D) : cl (d + 2) 36 [.sh (nI 5), .sh (nI 5)] om = .ok (.ow (.lst (lotsD 5 5))) om := by
  unfold cl
  kernel_rfl
theorem lots65 (d : Nat) (om : List D) : cl (d + 2) 36 [.sh (nI 6), .sh (nI 5)] om = .ok (.ow (.lst (lotsD 6 5))) om := by
  unfold cl
  kernel_rfl
theorem lots75 (d : Nat) (om : List D) : cl (d + 2) 36 [.sh (nI 7), .sh (nI 5)] om = .ok (.ow (.lst (lotsD 7 5))) om := by
  unfold cl
  kernel_rfl
theorem law_lots (d n m : Nat) (h : n < 8) (h1 : 2 ≤ m) (h2 : m < 6) (om : List D) : cl (d + 2) 36 [.sh (nI n), .sh (nI m)] om = .ok (.ow (.lst (lotsD n m))) om := by
  match m, h1, h2 with
  | 2, _, _ =>
    match n, h with
    | 0, _ => exact lots02 d om
    | 1, _ => exact lots12 d om
    | 2, _ => exact lots22 d om
    | 3, _ => exact lots32 d om
    | 4, _ => exact lots42 d om
    | 5, _ => exact lots52 d om
    | 6, _ => exact lots62 d om
    | 7, _ => exact lots72 d om
  | 3, _, _ =>
    match n, h with
    | 0, _ => exact lots03 d om
    | 1, _ => exact lots13 d om
    | 2, _ => exact lots23 d om
    | 3, _ => exact lots33 d om
    | 4, _ => exact lots43 d om
    | 5, _ => exact lots53 d om
    | 6, _ => exact lots63 d om
    | 7, _ => exact lots73 d om
  | 4, _, _ =>
    match n, h with
    | 0, _ => exact lots04 d om
    | 1, _ => exact lots14 d om
    | 2, _ => exact lots24 d om
    | 3, _ => exact lots34 d om
    | 4, _ => exact lots44 d om
    | 5, _ => exact lots54 d om
    | 6, _ => exact lots64 d om
    | 7, _ => exact lots74 d om
  | 5, _, _ =>
    match n, h with
    | 0, _ => exact lots05 d om
    | 1, _ => exact lots15 d om
    | 2, _ => exact lots25 d om
    | 3, _ => exact lots35 d om
    | 4, _ => exact lots45 d om
    | 5, _ => exact lots55 d om
    | 6, _ => exact lots65 d om
    | 7, _ => exact lots75 d om
end LW

set_option Elab.async false
set_option linter.all false
set_option maxRecDepth 100000
set_option maxHeartbeats 4000000
/-! K1: k96: crowds -/
namespace LW
open PySem L2 VM
abbrev nearD (near : List (List Nat)) : D := .lst (near.map fun l => .lst (ns l))
theorem idx_near (near : List (List Nat)) {one : Nat} (h : one < near.length) : idxD (nearD near) (nI one) = some (.lst (ns (near.getD one []))) := by
  rw [idx_lst, List.getElem?_map, List.getD_eq_getElem?_getD, List.getElem?_eq_getElem h] <;> rfl
theorem all_inner (d : Nat) (near : List (List Nat)) (lot : List Nat) (two : Nat) (h : ∀ x ∈ lot, x < near.length) (hl : lot.length ≤ 1000) (c1 c2 c4 : C) (om : List D) :
    lcRun (cl d) (.cmp .In (.slot 5) (.idx (.slot 0) (.slot 6))) (.nm 6) (.seq (.slot 3)) [] [6] ⟨[.sh (nearD near), c1, c2, .sh (tN lot), c4, .sh (nI two), .un], om⟩ =
      .ok (.ow (.lst (bls (lot.map fun one => (near.getD one []).contains two)))) ⟨[.sh (nearD near), c1, c2, .sh (tN lot), c4, .sh (nI two), .un], om⟩ := by
  refine lcRun_M (f := fun one => some ((near.getD one []).contains two)) (enc := D.bl) (g := nI) (xs := lot) (s1 := ⟨[.sh (nearD near), c1, c2, .sh (tN lot), c4, .sh (nI two), .un], om⟩) (s0 := ⟨[.sh (nearD near), c1, c2, .sh (tN lot), c4, .sh (nI two), .un], om⟩) (mapO_some fun _ _ => rfl) ?_ ?_ (sizeLine_big (by omega)) ?_
  · simp -dsimp -implicitDefEqProofs
    rfl
  · simp -dsimp -implicitDefEqProofs
  · intro x hx y hy acc ha
    cases hy
    refine lcTurn_okk (s1 := ⟨[.sh (nearD near), c1, c2, .sh (tN lot), c4, .sh (nI two), .sh (nI x)], om⟩) (.bl ((near.getD x []).contains two)) ?_ ?_ ?_ ha
    · simp -dsimp -implicitDefEqProofs
    · simp -dsimp -implicitDefEqProofs [idx_near near (h x hx), in_lN]
    · simp -dsimp -implicitDefEqProofs
/-- the inner comprehension of longer_crowds -/
theorem long_inner (d : Nat) (near : List (List Nat)) (lot : List Nat) (hn : near.length < 8) (h : ∀ x ∈ lot, x < near.length) (hl : lot.length ≤ 1000) (c1 c2 : C) (om : List D) :
    lcRun (cl d) (.bin .Add (.slot 3) (.tup [(.slot 5)])) (.nm 5) (.rng2 (.slot 4) (.bi .len [(.slot 0)])) [(.bi .all [(.lc (.cmp .In (.slot 5) (.idx (.slot 0) (.slot 6))) (.nm 6) (.seq (.slot 3)) [] [6])])] [5] ⟨[.sh (nearD near), c1, c2, .sh (tN lot), .sh (nI (beg lot)), .un, .un], om⟩ =
      .ok (.ow (.lst (tNs (longs near near.length lot)))) ⟨[.sh (nearD near), c1, c2, .sh (tN lot), .sh (nI (beg lot)), .un, .un], om⟩ := by
  have hb : beg lot ≤ 1000 := by
    unfold beg
    cases q : lot.getLast? with
    | none => exact Nat.zero_le _
    | some y =>
      have := h y (List.mem_of_getLast? q)
      show y + 1 ≤ 1000
      omega
  have e : tNs (longs near near.length lot) = ((((List.range (near.length - beg lot)).map (beg lot + ·))).filter (isC near lot)).map fun two => tN (lot ++ [two]) := by
    unfold longs tNs
    rw [List.map_map]
    rfl
  rw [e]
  refine lcRun_F (isC near lot) (fun two => tN (lot ++ [two])) (g := nI) (xs := (List.range (near.length - beg lot)).map (beg lot + ·)) (s1 := ⟨[.sh (nearD near), c1, c2, .sh (tN lot), .sh (nI (beg lot)), .un, .un], om⟩) (s0 := ⟨[.sh (nearD near), c1, c2, .sh (tN lot), .sh (nI (beg lot)), .un, .un], om⟩) ?_ ?_ (sizeLine_big (by simp; omega)) ?_
  · simp -dsimp -implicitDefEqProofs [bi_len_lst, inRng_nat (n := beg lot) (by omega), inRng_nat (n := near.length) (by omega), rngD_nat]
    simp only [ns, List.map_map]
  · simp -dsimp -implicitDefEqProofs
  · intro x hx acc ha
    refine lcTurn_eq (s1 := ⟨[.sh (nearD near), c1, c2, .sh (tN lot), .sh (nI (beg lot)), .sh (nI x), .un], om⟩) _ _ ?_ ?_ ?_ ?_ ha
    · simp -dsimp -implicitDefEqProofs
    · have e1 : (lot.map fun one => (near.getD one []).contains x).all id = isC near lot x := by
        unfold isC
        rw [List.all_map]
        rfl
      simp -dsimp -implicitDefEqProofs [all_inner d near lot x h hl, bls_all]
      unfold isC
      simp
    · intro _
      have e2 : ns lot ++ [nI x] = ns (lot ++ [x]) := (ns_append lot [x]).symm
      simp -dsimp -implicitDefEqProofs [add_tup (xs := ns lot) (ys := [nI x]) (by simp; omega), e2]
    · simp -dsimp -implicitDefEqProofs
theorem idx_last (xs : List Nat) (y : Nat) (h : xs.getLast? = some y) (hl : xs.length ≤ 1000) : idxD (tN xs) (.int (-1)) = some (nI y) := by
  obtain ⟨l, rfl⟩ := List.getLast?_eq_some_iff.mp h
  show atI (ns (l ++ [y])) (-1) = _
  unfold atI ixN
  have e : ns (l ++ [y]) = ns l ++ [nI y] := ns_append l [y]
  rw [e]
  have h1 : (ns l ++ [nI y]).length = l.length + 1 := by simp
  rw [h1]
  have h2 : (ns l ++ [nI y])[l.length]? = some (nI y) := by simp
  simp
  rw [if_pos (by omega)]
  have h3 : (-1 + ((l.length : Int) + 1)).toNat = l.length := by omega
  simp only [Option.bind_some, h3]
  exact h2
def lstep (near : List (List Nat)) (acc : List (List Nat)) (lot : List Nat) : Option (List (List Nat)) := if acc.length ≤ 1000000 then some (acc ++ longs near near.length lot) else none
theorem lstep_all (near : List (List Nat)) : ∀ (found acc : List (List Nat)), acc.length + (found.flatMap (longs near near.length)).length ≤ 1000000 → foldO (lstep near) acc found = some (acc ++ found.flatMap (longs near near.length))
  | [], acc, _ => by simp [foldO]
  | lot :: found, acc, h => by
    rw [List.flatMap_cons, List.length_append] at h
    have e : lstep near acc lot = some (acc ++ longs near near.length lot) := if_pos (by omega)
    rw [foldO, e]
    show foldO (lstep near) (acc ++ longs near near.length lot) found = _
    rw [lstep_all near found _ (by rw [List.length_append]; omega), List.flatMap_cons, List.append_assoc]
end LW

set_option Elab.async false
set_option linter.all false
set_option maxRecDepth 100000
set_option maxHeartbeats 4000000
/-! K2: k96: crowds_in, near_in, has_crowd -/
namespace LW
open PySem L2 VM
theorem me_extend (xs ys : List D) (h : xs.length + ys.length ≤ 16777216) : meD .extend (.lst xs) [.lst ys] = some (.non, .lst (xs ++ ys)) := if_pos (sizeLine_big h)
abbrev longB : List MS := [.asg (.nm 4) (.ife (.slot 3) (.bin .Add (.idx (.slot 3) (.neg (.const (.int 1)))) (.const (.int 1))) (.const (.int 0))), .expr (.meth .extend (.slot 2) [(.lc (.bin .Add (.slot 3) (.tup [(.slot 5)])) (.nm 5) (.rng2 (.slot 4) (.bi .len [(.slot 0)])) [(.bi .all [(.lc (.cmp .In (.slot 5) (.idx (.slot 0) (.slot 6))) (.nm 6) (.seq (.slot 3)) [] [6])])] [5])])]
theorem longer_for (d : Nat) (near found : List (List Nat)) (hn : near.length < 8) (h : ∀ lot ∈ found, lot.length ≤ 1000 ∧ ∀ x ∈ lot, x < near.length) (hl : (found.flatMap (longs near near.length)).length ≤ 1000000) (om : List D) :
    ∃ s', forRun (cl d) flds exm (.nm 3) longB (tNs found) ⟨[.sh (nearD near), .sh (.lst (tNs found)), .ow (.lst []), .un, .un, .un, .un], om⟩ = .nx s' ∧ ∃ x3 x4, s' = ⟨[.sh (nearD near), .sh (.lst (tNs found)), .ow (.lst (tNs (found.flatMap (longs near near.length)))), x3, x4, .un, .un], om⟩ := by
  obtain ⟨I, hI⟩ := named (fun (acc : List (List Nat)) (s : S) => ∃ x3 x4, s = ⟨[.sh (nearD near), .sh (.lst (tNs found)), .ow (.lst (tNs acc)), x3, x4, .un, .un], om⟩)
  have hf := lstep_all near found [] (by simpa using hl)
  rw [List.nil_append] at hf
  obtain ⟨s', e, hs⟩ := forRun_fold (cm := cl d) (flds := flds) (exm := exm) (g := .nm 3) (b := longB) tN (lstep near) I (xs := found) (a := []) (s := ⟨[.sh (nearD near), .sh (.lst (tNs found)), .ow (.lst []), .un, .un, .un, .un], om⟩) (by
    intro lot hx acc acc' s hst hs
    rw [hI] at hs
    obtain ⟨x3, x4, rfl⟩ := hs
    unfold lstep at hst
    split at hst
    case isFalse => cases hst
    case isTrue hb =>
      cases hst
      obtain ⟨q1, q2⟩ := h lot hx
      have il : ∀ (c1 c2 : C), _ := fun c1 c2 => long_inner d near lot hn q2 q1 c1 c2 om
      have hlen : (longs near near.length lot).length ≤ 8 := by
        unfold longs
        rw [List.length_map]
        refine Nat.le_trans (List.length_filter_le _ _) ?_
        rw [List.length_map, List.length_range]
        omega
      have me := me_extend (tNs acc) (tNs (longs near near.length lot)) (by simp; omega)
      rw [← tNs_append] at me
      cases ql : lot.getLast? with
      | none =>
        have e0 : lot = [] := List.getLast?_eq_none_iff.mp ql
        subst e0
        have eb : nI (beg []) = D.int 0 := rfl
        have em : (ns []).isEmpty = true := rfl
        rw [eb] at il
        simp -dsimp -implicitDefEqProofs [em, il, me]
        rw [hI]
        exact ⟨_, _, rfl⟩
      | some y =>
        have e0 : lot ≠ [] := fun z => by rw [z] at ql; cases ql
        have eb : D.int ((y : Int) + 1) = nI (beg lot) := by
          unfold beg
          rw [ql]
          rfl
        have em : (ns lot).isEmpty = false := by
          cases lot with
          | nil => exact absurd rfl e0
          | cons _ _ => rfl
        simp -dsimp -implicitDefEqProofs [em, idx_last lot y ql q1, eb, il, me]
        rw [hI]
        exact ⟨_, _, rfl⟩) hf (by rw [hI]; exact ⟨.un, .un, rfl⟩)
  rw [hI] at hs
  exact ⟨s', e, hs⟩
theorem longer (d : Nat) (near found : List (List Nat)) (hn : near.length < 8) (h : ∀ lot ∈ found, lot.length ≤ 1000 ∧ ∀ x ∈ lot, x < near.length) (hl : (found.flatMap (longs near near.length)).length ≤ 1000000) (om : List D) :
    cl (d + 1) 7 [.sh (nearD near), .sh (.lst (tNs found))] om = .ok (.sh (.lst (tNs (found.flatMap (longs near near.length))))) om := by
  obtain ⟨s', e, x3, x4, rfl⟩ := longer_for d near found hn h hl om
  rw [call7]
  simp -dsimp -implicitDefEqProofs [B7, e]
theorem crowd_facts (near : List (List Nat)) (hn : near.length < 8) {k : Nat} (hk : k ≤ 5) : (∀ lot ∈ crowdsN near near.length k, lot.length ≤ 1000 ∧ ∀ x ∈ lot, x < near.length) ∧ (crowdsN near near.length k).length ≤ 32768 := by
  refine ⟨fun lot hl => ?_, ?_⟩
  · obtain ⟨h1, _, h3, _⟩ := mem_crowds.mp hl
    exact ⟨by omega, h3⟩
  · exact Nat.le_trans (crowds_len near _ hn k) (Nat.le_trans (Nat.pow_le_pow_right (by omega) hk) (by decide))
theorem crowds_in (d : Nat) (near : List (List Nat)) (hn : near.length < 8) {m : Nat} (hm : m ≤ 5) (om : List D) :
    cl (d + 2) 8 [.sh (nearD near), .sh (nI m)] om = .ok (.sh (.lst (tNs (crowdsN near near.length m)))) om := by
  obtain ⟨P, hP⟩ := named (fun (k : Nat) (s : S) => ∃ c x3, s = ⟨[.sh (nearD near), .sh (nI m), c, x3], om⟩ ∧ (c = .ow (.lst (tNs (crowdsN near near.length k))) ∨ c = .sh (.lst (tNs (crowdsN near near.length k)))))
  obtain ⟨s', e, hs⟩ := forRun_nx (cm := cl (d + 1)) (flds := flds) (exm := exm) (g := .nm 3) (b := [.asg (.nm 2) (.call 7 [(.slot 0), (.slot 2)])]) (ds := ns (List.range m)) P (s := ⟨[.sh (nearD near), .sh (nI m), .ow (.lst [.tup []]), .un], om⟩) (by rw [hP]; exact ⟨_, _, rfl, .inl rfl⟩) (by
    intro k hk s hs
    rw [hP] at hs
    obtain ⟨c, x3, rfl, hc⟩ := hs
    have hk : k < m := by simpa using hk
    obtain ⟨f1, f2⟩ := crowd_facts near hn (show k ≤ 5 by omega)
    have f3 := (crowd_facts near hn (show k + 1 ≤ 5 by omega)).2
    have lg := longer d near _ hn f1 (by exact Nat.le_trans f3 (by decide)) om
    rcases hc with rfl | rfl
    · rw [ns_get]
      simp -dsimp -implicitDefEqProofs [lg]
      rw [hP]
      exact ⟨_, _, rfl, .inr rfl⟩
    · rw [ns_get]
      simp -dsimp -implicitDefEqProofs [lg]
      rw [hP]
      exact ⟨_, _, rfl, .inr rfl⟩)
  rw [hP, ns_length, List.length_range] at hs
  obtain ⟨c, x3, rfl, hc⟩ := hs
  rw [call8]
  rcases hc with rfl | rfl
  · simp -dsimp -implicitDefEqProofs [B8, inRng_nat (n := m) (by omega), rngD_zero, e]
  · simp -dsimp -implicitDefEqProofs [B8, inRng_nat (n := m) (by omega), rngD_zero, e]
end LW

set_option Elab.async false
set_option linter.all false
set_option maxRecDepth 100000
set_option maxHeartbeats 4000000
/-! K3: k96: near_in, has_crowd -/
namespace LW
open PySem L2 VM
theorem purN_ok {f : List C → List D → Rs} {cs : List C} {om om' : List D} {c : C} (h1 : cs.all hfC = true) (h2 : f cs [] = .ok c om') (h3 : hfO c = true) : purN f cs om = .ok c om := by
  unfold purN
  rw [if_pos h1, h2]
  show (if hfO c = true then Rs.ok c om else .bad) = _
  rw [if_pos h3]
theorem hf_ns : ∀ l : List Nat, hfDs (ns l) = true
  | [] => rfl
  | x :: l => by
    rw [ns_cons, hfDs, hf_ns l] <;> rfl
abbrev encL (l : List Nat) : D := .lst (ns l)
theorem hf_encL : ∀ f : List (List Nat), hfDs (f.map encL) = true
  | [] => rfl
  | x :: l => by
    rw [List.map_cons, hfDs, hf_encL l, hfD, hf_ns] <;> rfl
abbrev pos (n : Nat) (r : List Nat) : D := .tup [nI n, .int 3, tN r]
def hnds (n : Nat) : List D := (List.range n).map D.hnd
theorem hnds_at {n k : Nat} (h : k < n) : (hnds n)[k]? = some (.hnd k) := by
  unfold hnds
  rw [List.getElem?_map, List.getElem?_range h] <;> rfl
theorem near_1 (d n : Nat) (hn : n < 8) (r : List Nat) (hue : Nat) : exS (cl d) flds exm (.asg (.nm 2) (.lc (.alc (.lst [])) (.nm 3) (.rng1 (.idx (.slot 0) (.const (.int 0)))) [] [3])) ⟨[.sh (pos n r), .sh (nI hue), .un, .un, .un, .un, .un, .un], []⟩ =
    .nx ⟨[.sh (pos n r), .sh (nI hue), .ow (.lst (hnds n)), .un, .un, .un, .un, .un], (List.replicate n []).map encL⟩ := by
  match n, hn with
  | 0, _ => kernel_rfl
  | 1, _ => kernel_rfl
  | 2, _ => kernel_rfl
  | 3, _ => kernel_rfl
  | 4, _ => kernel_rfl
  | 5, _ => kernel_rfl
  | 6, _ => kernel_rfl
  | 7, _ => kernel_rfl
abbrev zE (x : List Nat × Nat) : D := .prs [tN x.1, nI x.2]
theorem zipD_enc : ∀ (ps : List (List Nat)) (r : List Nat), zipD (tNs ps) (ns r) = (ps.zip r).map zE
  | [], _ => by rw [tNs_nil, zipD]; simp; intros; simp_all
  | _ :: _, [] => by rw [tNs_cons, ns_nil, zipD]; simp; intros; simp_all
  | p :: ps, h :: r => by rw [tNs_cons, ns_cons, zipD, zipD_enc ps r, List.zip_cons_cons, List.map_cons]
theorem om_at {f : List (List Nat)} {a : Nat} {l : List Nat} (h : f[a]? = some l) : (f.map encL)[a]? = some (.lst (ns l)) := by rw [List.getElem?_map, h] <;> rfl
theorem om_set (f : List (List Nat)) (a b : Nat) (l : List Nat) : (f.map encL).set a (.lst (ns l ++ [nI b])) = (f.set a (l ++ [b])).map encL := by
  rw [List.map_set]
  congr 1
  show D.lst _ = D.lst _
  rw [ns_append] <;> rfl
abbrev nearB : List MS := [.ife (.cmp .Eq (.slot 6) (.slot 1)) [.expr (.meth .append (.idx (.slot 2) (.slot 4)) [(.slot 5)]), .expr (.meth .append (.idx (.slot 2) (.slot 5)) [(.slot 4)])] []]
theorem near_2 (d n : Nat) (hn : n < 8) {r : List Nat} (hr : r.length = (prs n).length) {hue : Nat} {f : List (List Nat)} (N : Near n r hue f) : ∃ x4 x5 x6, forRun (cl d) flds exm (.tp [(.tp [(.nm 4), (.nm 5)]), (.nm 6)]) nearB (((prs n).zip r).map zE) ⟨[.sh (pos n r), .sh (nI hue), .ow (.lst (hnds n)), .un, .un, .un, .un, .un], (List.replicate n []).map encL⟩ =
    .nx ⟨[.sh (pos n r), .sh (nI hue), .ow (.lst (hnds n)), .un, x4, x5, x6, .un], f.map encL⟩ := by
  obtain ⟨I, hI⟩ := named (fun (f : List (List Nat)) (s : S) => f.length = n ∧ ∃ x4 x5 x6, s = ⟨[.sh (pos n r), .sh (nI hue), .ow (.lst (hnds n)), .un, x4, x5, x6, .un], f.map encL⟩)
  obtain ⟨s', e, hs⟩ := forRun_fold (cm := cl d) (flds := flds) (exm := exm) (g := .tp [(.tp [(.nm 4), (.nm 5)]), (.nm 6)]) (b := nearB) zE (nstep hue) I (xs := (prs n).zip r) (a := List.replicate n []) (s := ⟨[.sh (pos n r), .sh (nI hue), .ow (.lst (hnds n)), .un, .un, .un, .un, .un], (List.replicate n []).map encL⟩) (by
    intro x hx f f' s hst hs
    rw [hI] at hs
    obtain ⟨hl, x4, x5, x6, rfl⟩ := hs
    obtain ⟨p, h⟩ := x
    obtain ⟨a, b, rfl, hab, hb⟩ := mem_prs.mp ((mem_zip hn hr).mp hx).1
    have ha : a < n := by omega
    have hst : (if h = hue then (napp f a b).bind fun f => napp f b a else some f) = some f' := hst
    have ia : idxD (.lst (hnds n)) (nI a) = some (.hnd a) := by rw [idx_lst, hnds_at ha]
    have ib : idxD (.lst (hnds n)) (nI b) = some (.hnd b) := by rw [idx_lst, hnds_at hb]
    by_cases q : h = hue
    · rw [if_pos q] at hst
      unfold napp at hst
      cases e1 : f[a]? with
      | none => rw [e1] at hst; cases hst
      | some la =>
        rw [e1] at hst
        simp only at hst
        split at hst
        case isFalse => cases hst
        case isTrue h1 =>
          simp only [Option.bind_some] at hst
          cases e2 : (f.set a (la ++ [b]))[b]? with
          | none => rw [e2] at hst; cases hst
          | some lb =>
            rw [e2] at hst
            simp only at hst
            split at hst
            case isFalse => cases hst
            case isTrue h2 =>
              cases hst
              have m1 := me_append (ns la) (nI b) (by simp; omega)
              have m2 := me_append (ns lb) (nI a) (by simp; omega)
              have o1 := om_at e1
              have o2 := om_at e2
              have s1 := om_set f a b la
              have s2 := om_set (f.set a (la ++ [b])) b a lb
              subst q
              simp -dsimp -implicitDefEqProofs [-List.map_set, -List.getElem?_map, -List.getElem?_set, asg_tN2, ia, ib, o1, o2, m1, m2, s1, s2]
              rw [hI]
              exact ⟨by simp [hl], _, _, _, rfl⟩
    · rw [if_neg q] at hst
      cases hst
      have q2 : ¬ (h : Int) = (hue : Int) := by omega
      simp -dsimp -implicitDefEqProofs [-List.map_set, asg_tN2, q, q2]
      rw [hI]
      exact ⟨hl, _, _, _, rfl⟩) N.run (by rw [hI]; exact ⟨by simp, _, _, _, rfl⟩)
  rw [hI] at hs
  obtain ⟨_, x4, x5, x6, rfl⟩ := hs
  exact ⟨x4, x5, x6, e⟩
theorem near_3 (d n : Nat) (hn : n < 8) (r : List Nat) (hue : Nat) {f : List (List Nat)} (hl : f.length = n) (x4 x5 x6 : C) : lcRun (cl d) (.bi .sorted [(.slot 7)]) (.nm 7) (.seq (.slot 2)) [] [7] ⟨[.sh (pos n r), .sh (nI hue), .ow (.lst (hnds n)), .un, x4, x5, x6, .un], f.map encL⟩ =
    .ok (.ow (nearD (f.map sortN))) ⟨[.sh (pos n r), .sh (nI hue), .sh (.lst (hnds n)), .un, x4, x5, x6, .un], f.map encL⟩ := by
  have e : f.map sortN = (List.range n).map fun k => sortN (f.getD k []) := by
    apply List.ext_getElem?
    intro i
    rw [List.getElem?_map, List.getElem?_map]
    by_cases h : i < n
    · rw [List.getElem?_range h, List.getElem?_eq_getElem (by omega)]
      show _ = some (sortN (f.getD i []))
      rw [List.getD_eq_getElem?_getD, List.getElem?_eq_getElem (by omega)] <;> rfl
    · rw [List.getElem?_eq_none (by omega), List.getElem?_eq_none (by simp; omega)] <;> rfl
  rw [e]
  refine lcRun_M (f := fun k => some (sortN (f.getD k []))) (enc := encL) (g := D.hnd) (xs := List.range n) (s1 := ⟨[.sh (pos n r), .sh (nI hue), .sh (.lst (hnds n)), .un, x4, x5, x6, .un], f.map encL⟩) (s0 := ⟨[.sh (pos n r), .sh (nI hue), .sh (.lst (hnds n)), .un, x4, x5, x6, .un], f.map encL⟩) (mapO_some fun _ _ => rfl) ?_ ?_ (sizeLine_big (by simp; omega)) ?_
  · simp -dsimp -implicitDefEqProofs
    rfl
  · simp -dsimp -implicitDefEqProofs
  · intro k hk y hy acc ha
    cases hy
    have hk : k < n := List.mem_range.mp hk
    have o1 : (f.map encL)[k]? = some (.lst (ns (f.getD k []))) := om_at (by rw [List.getD_eq_getElem?_getD, List.getElem?_eq_getElem (by omega)]; rfl)
    refine lcTurn_okk (s1 := ⟨[.sh (pos n r), .sh (nI hue), .sh (.lst (hnds n)), .un, x4, x5, x6, .sh (.hnd k)], f.map encL⟩) (encL (sortN (f.getD k []))) ?_ ?_ ?_ ha
    · simp -dsimp -implicitDefEqProofs
    · simp -dsimp -implicitDefEqProofs [-List.getElem?_map, o1, bi_sorted_lst]
    · simp -dsimp -implicitDefEqProofs
theorem near_in (d n : Nat) (hn : n < 8) {r : List Nat} (hr : r.length = (prs n).length) {hue : Nat} {f : List (List Nat)} (N : Near n r hue f) (om : List D) :
    cl (d + 2) 5 [.sh (pos n r), .sh (nI hue)] om = .ok (.ow (nearD (f.map sortN))) om := by
  obtain ⟨x4, x5, x6, e2⟩ := near_2 (d + 1) n hn hr N
  have e1 := near_1 (d + 1) n hn r hue
  have e3 := near_3 (d + 1) n hn r hue N.len x4 x5 x6
  rw [call5]
  refine purN_ok (om' := f.map encL) ?_ ?_ ?_
  · simp only [List.all_cons, hfC, hfD, hfDs, hf_ns, List.all_nil, Bool.and_self]
  · unfold B5
    rw [if_pos (show [C.sh (pos n r), C.sh (nI hue)].length = 2 from rfl), exSs_cons]
    rw [show ([.sh (pos n r), .sh (nI hue)] ++ List.replicate 6 C.un) = [.sh (pos n r), .sh (nI hue), .un, .un, .un, .un, .un, .un] from rfl, e1]
    simp -dsimp -implicitDefEqProofs [-List.map_replicate, pairs_of d n hn, zipD_enc, e2, e3]
  · show hfD (nearD (f.map sortN)) = true
    rw [hfD, hf_encL]
theorem has_crowd (d n : Nat) (hn : n < 8) {r : List Nat} (hr : r.length = (prs n).length) (hue : Nat) {m : Nat} (hm : m ≤ 5) (om : List D) :
    cl (d + 3) 12 [.sh (pos n r), .sh (nI hue), .sh (nI m)] om = .ok (.sh (.bl (hasL n r hue m))) om := by
  obtain ⟨f, N⟩ := near_ex hn hr hue
  have e := has_iff hn (m := m) N
  have hl : (f.map sortN).length = n := by rw [List.length_map, N.len]
  have c := fun om => crowds_in d (f.map sortN) (by omega) hm om
  rw [hl] at c
  rw [call12]
  simp -dsimp -implicitDefEqProofs [B12, near_in d n hn hr N, c, bi_len_lst]
  rw [← e]
end LW

set_option Elab.async false
set_option linter.all false
set_option maxRecDepth 100000
set_option maxHeartbeats 4000000
/-! K4: k96: positions, free pairs, ties -/
namespace LW
open PySem L2 VM
/-- a position; t: whose turn -/
structure IsP (n : Nat) (r : List Nat) (t : Nat) : Prop where
  n8 : n < 8
  len : r.length = (prs n).length
  le : ∀ x ∈ r, x ≤ 2
  cnt : r.count 0 = r.count 1 + t
  t1 : t ≤ 1
theorem is_count_int (d : Nat) (i : Int) (om : List D) : cl (d + 2) 1 [.sh (.int i)] om = .ok (.sh (.bl (decide (0 ≤ i)))) om := by
  rw [call1]
  simp -dsimp -implicitDefEqProofs [B1, call0, B0, tyD]
theorem half (n : Nat) (h : n < 8) : ((n : Int) * ((n : Int) - 1)).fdiv 2 = ((prs n).length : Int) := by
  have : ∀ n : Nat, n < 8 → ((n : Int) * ((n : Int) - 1)).fdiv 2 = ((prs n).length : Int) := by decide
  exact this n h
section
variable {n : Nat} {r : List Nat} {t : Nat} (P : IsP n r t)
include P
theorem is_hueing (d : Nat) (om : List D) : cl (d + 3) 3 [.sh (pos n r)] om = .ok (.sh (.bl true)) om := by
  have hn := P.n8
  have hp := prs_le n hn
  have e : lcRun (cl (d + 2)) (.and (.call 1 [(.slot 4)]) (.cmp .Lt (.slot 4) (.slot 2))) (.nm 4) (.seq (.slot 3)) [] [4] ⟨[.sh (pos n r), .sh (nI n), .sh (.int 3), .sh (tN r), .un], om⟩ = .ok (.ow (.lst (bls (r.map fun _ => true)))) ⟨[.sh (pos n r), .sh (nI n), .sh (.int 3), .sh (tN r), .un], om⟩ := by
    refine lcRun_M (f := fun _ => some true) (enc := D.bl) (g := nI) (xs := r) (s1 := ⟨[.sh (pos n r), .sh (nI n), .sh (.int 3), .sh (tN r), .un], om⟩) (s0 := ⟨[.sh (pos n r), .sh (nI n), .sh (.int 3), .sh (tN r), .un], om⟩) (mapO_some fun _ _ => rfl) ?_ ?_ (sizeLine_big (by have := P.len; omega)) ?_
    · simp -dsimp -implicitDefEqProofs
      rfl
    · simp -dsimp -implicitDefEqProofs
    · intro x hx y hy acc ha
      cases hy
      have := P.le x hx
      refine lcTurn_okk (s1 := ⟨[.sh (pos n r), .sh (nI n), .sh (.int 3), .sh (tN r), .sh (nI x)], om⟩) (.bl true) ?_ ?_ ?_ ha
      · simp -dsimp -implicitDefEqProofs
      · simp -dsimp -implicitDefEqProofs [is_count_int]
        omega
      · simp -dsimp -implicitDefEqProofs
  have hl : biD .len [pos n r] = some (.sh (nI 3)) := rfl
  have hl2 : biD .len [tN r] = some (.sh (nI (prs n).length)) := by rw [bi_len_tup, ns_length, P.len]
  have h2 : (2 : Int) ≠ 0 := by decide
  have h2b : (2 : Int).natAbs < 1073741824 := by decide
  rw [call3]
  simp -dsimp -implicitDefEqProofs [B3, tyD, hl, hl2, is_count_int, bin_mul_l (small_nat (show n < 2 ^ 63 by omega)), bin_div h2 h2b, half n hn, e, bls_all]
theorem turn_in : cmpD .In (.int ((r.count 0 : Nat) - (r.count 1 : Nat) : Int)) (.tup [.int 0, .int 1]) = some true := by
  have h1 := P.cnt
  have h2 := P.t1
  rw [show ((r.count 0 : Nat) - (r.count 1 : Nat) : Int) = (t : Int) by omega]
  have : t = 0 ∨ t = 1 := by omega
  rcases this with rfl | rfl
  · exact in_tN 0 [0, 1]
  · exact in_tN 1 [0, 1]
theorem is_position (d : Nat) (om : List D) : cl (d + 4) 9 [.sh (pos n r)] om = .ok (.sh (.bl true)) om := by
  rw [call9]
  simp -dsimp -implicitDefEqProofs [B9, is_hueing P, cnt_tN0, cnt_tN1, turn_in P]
theorem need_position (d : Nat) (om : List D) : cl (d + 5) 10 [.sh (pos n r)] om = .ok (.sh .non) om := by
  rw [call10]
  simp -dsimp -implicitDefEqProofs [B10, is_position P]
theorem playing (d : Nat) (om : List D) : cl (d + 1) 16 [.sh (pos n r)] om = .ok (.sh (nI t)) om := by
  have h1 := P.cnt
  have e : ((r.count 0 : Nat) - (r.count 1 : Nat) : Int) = (t : Int) := by omega
  rw [call16]
  simp -dsimp -implicitDefEqProofs [B16, cnt_tN0, cnt_tN1, e]
theorem to_play (d : Nat) (om : List D) : cl (d + 6) 17 [.sh (pos n r)] om = .ok (.sh (if r.contains 2 = true then nI t else .non)) om := by
  rw [call17]
  by_cases q : r.contains 2 = true
  · have q2 : 2 ∈ r := by simpa using q
    simp -dsimp -implicitDefEqProofs [B17, need_position P, in_tN2, q, q2, playing P]
  · have q2 : ¬ 2 ∈ r := by simpa using q
    simp -dsimp -implicitDefEqProofs [B17, need_position P, in_tN2, q, q2, playing P]
end
abbrev kPromise : Str := Str.ofString "promise"
abbrev kWitness : Str := Str.ofString "witness"
abbrev sFree : Str := ⟨#[102, 114, 101, 101]⟩
theorem flds4 : flds 4 = [kPromise, kWitness] := rfl
def freeL (n : Nat) (r : List Nat) : List (List Nat) := (((prs n).zip r).filter fun x => decide (x.2 = 2)).map (·.1)
section
variable {n : Nat} {r : List Nat} {t : Nat} (P : IsP n r t)
include P
theorem free_in (d : Nat) (om : List D) : cl (d + 2) 18 [.sh (pos n r)] om = .ok (.ow (.lst (tNs (freeL n r)))) om := by
  have hn := P.n8
  have hp := prs_le n hn
  have e0 : tNs (freeL n r) = (((prs n).zip r).filter fun x => decide (x.2 = 2)).map fun x => tN x.1 := by
    unfold freeL tNs
    rw [List.map_map]
    rfl
  have e : lcRun (cl (d + 1)) (.slot 1) (.tp [(.nm 1), (.nm 2)]) (.zip (.call 4 [(.idx (.slot 0) (.const (.int 0)))]) (.idx (.slot 0) (.const (.int 2)))) [(.cmp .Eq (.slot 2) (.const (.int 2)))] [1, 2] ⟨[.sh (pos n r), .un, .un], om⟩ = .ok (.ow (.lst (tNs (freeL n r)))) ⟨[.sh (pos n r), .un, .un], om⟩ := by
    rw [e0]
    refine lcRun_F (fun x => decide (x.2 = 2)) (fun x => tN x.1) (g := zE) (xs := (prs n).zip r) (s1 := ⟨[.sh (pos n r), .un, .un], om⟩) (s0 := ⟨[.sh (pos n r), .un, .un], om⟩) ?_ ?_ (sizeLine_big (by rw [List.length_zip]; omega)) ?_
    · simp -dsimp -implicitDefEqProofs [pairs_of d n hn, zipD_enc]
    · simp -dsimp -implicitDefEqProofs
    · intro x hx acc ha
      have i2 : ((x.2 : Int) = 2) = (x.2 = 2) := propext (by omega)
      refine lcTurn_eq (s1 := ⟨[.sh (pos n r), .sh (tN x.1), .sh (nI x.2)], om⟩) _ _ ?_ ?_ ?_ ?_ ha
      · simp -dsimp -implicitDefEqProofs
      · simp -dsimp -implicitDefEqProofs [i2]
      · intro _
        simp -dsimp -implicitDefEqProofs
      · simp -dsimp -implicitDefEqProofs
  rw [call18]
  simp -dsimp -implicitDefEqProofs [B18, e]
theorem free_pairs (d : Nat) (om : List D) : cl (d + 6) 19 [.sh (pos n r)] om = .ok (.sh (.tup (tNs (freeL n r)))) om := by
  rw [call19]
  simp -dsimp -implicitDefEqProofs [B19, need_position P, free_in P]
theorem counts (d : Nat) (p : List Nat) (hl : p.length ≤ 1000) (om : List D) : lcRun (cl (d + 2)) (.call 1 [(.slot 2)]) (.nm 2) (.seq (.slot 1)) [] [2] ⟨[.sh (pos n r), .sh (tN p), .un], om⟩ = .ok (.ow (.lst (bls (p.map fun _ => true)))) ⟨[.sh (pos n r), .sh (tN p), .un], om⟩ := by
  refine lcRun_M (f := fun _ => some true) (enc := D.bl) (g := nI) (xs := p) (s1 := ⟨[.sh (pos n r), .sh (tN p), .un], om⟩) (s0 := ⟨[.sh (pos n r), .sh (tN p), .un], om⟩) (mapO_some fun _ _ => rfl) ?_ ?_ (sizeLine_big (by omega)) ?_
  · simp -dsimp -implicitDefEqProofs
    rfl
  · simp -dsimp -implicitDefEqProofs
  · intro x hx y hy acc ha
    cases hy
    refine lcTurn_okk (s1 := ⟨[.sh (pos n r), .sh (tN p), .sh (nI x)], om⟩) (.bl true) ?_ ?_ ?_ ha
    · simp -dsimp -implicitDefEqProofs
    · simp -dsimp -implicitDefEqProofs [is_count_int]
    · simp -dsimp -implicitDefEqProofs
/-- a free pair -/
theorem need_free_ok (d : Nat) {p : List Nat} (hl : p.length ≤ 1000) (hp : p ∈ freeL n r) (om : List D) : cl (d + 6) 20 [.sh (pos n r), .sh (tN p)] om = .ok (.sh .non) om := by
  rw [call20]
  have c := counts P (d + 3) p hl
  have h : (p.all fun _ => true) = true := by simp
  simp -dsimp -implicitDefEqProofs [B20, need_position P, tyD, c, bls_all, h, free_in P, notIn_lTN, hp]
/-- no free pair -/
theorem need_free_no (d : Nat) {p : List Nat} (hl : p.length ≤ 1000) (hp : p ∉ freeL n r) (om : List D) : cl (d + 6) 20 [.sh (pos n r), .sh (tN p)] om = .exc 4 [(kPromise, .str sFree), (kWitness, tN p)] om := by
  rw [call20]
  have c := counts P (d + 3) p hl
  have h : (p.all fun _ => true) = true := by simp
  simp -dsimp -implicitDefEqProofs [B20, need_position P, tyD, c, bls_all, h, free_in P, notIn_lTN, hp, flds4]
theorem need_free_ty (d : Nat) {x : D} (hx : tyD x .tuple = some false) (hk : lkV x = .val x) (om : List D) : cl (d + 6) 20 [.sh (pos n r), .sh x] om = .exc 4 [(kPromise, .str sFree), (kWitness, x)] om := by
  rw [call20]
  simp -dsimp -implicitDefEqProofs [B20, need_position P, hk, hx, flds4]
theorem need_free_bl (d : Nat) (b : Nat) (om : List D) : cl (d + 6) 20 [.sh (pos n r), .sh (.tup [.bl false, nI b])] om = .exc 4 [(kPromise, .str sFree), (kWitness, .tup [.bl false, nI b])] om := by
  rw [call20]
  have c : ∀ om, lcRun (cl (d + 5)) (.call 1 [(.slot 2)]) (.nm 2) (.seq (.slot 1)) [] [2] ⟨[.sh (pos n r), .sh (.tup [.bl false, nI b]), .un], om⟩ = .ok (.ow (.lst (bls [false, true]))) ⟨[.sh (pos n r), .sh (.tup [.bl false, nI b]), .un], om⟩ := fun om => by
    unfold cl
    kernel_rfl
  simp -dsimp -implicitDefEqProofs [B20, need_position P, tyD, c, bls_all, flds4]
end
def tiedL (n : Nat) (r : List Nat) (p : List Nat) (t : Nat) : List Nat := ((prs n).zip r).map fun x => if x.1 = p then t else x.2
section
variable {n : Nat} {r : List Nat} {t : Nat} (P : IsP n r t)
include P
theorem tied (d : Nat) (p : List Nat) (om : List D) : cl (d + 2) 21 [.sh (pos n r), .sh (tN p)] om = .ok (.sh (pos n (tiedL n r p t))) om := by
  have hn := P.n8
  have hp := prs_le n hn
  have e : ∀ c, c = .ow (.lst (tNs (prs n))) → lcRun (cl (d + 1)) (.ife (.cmp .Eq (.slot 4) (.slot 1)) (.slot 2) (.slot 5)) (.tp [(.nm 4), (.nm 5)]) (.zip (.slot 3) (.idx (.slot 0) (.const (.int 2)))) [] [4, 5] ⟨[.sh (pos n r), .sh (tN p), .sh (nI t), c, .un, .un], om⟩ = .ok (.ow (.lst (ns (tiedL n r p t)))) ⟨[.sh (pos n r), .sh (tN p), .sh (nI t), .sh (.lst (tNs (prs n))), .un, .un], om⟩ := by
    rintro c rfl
    refine lcRun_M (f := fun x => some (if x.1 = p then t else x.2)) (enc := nI) (g := zE) (xs := (prs n).zip r) (s1 := ⟨[.sh (pos n r), .sh (tN p), .sh (nI t), .sh (.lst (tNs (prs n))), .un, .un], om⟩) (s0 := ⟨[.sh (pos n r), .sh (tN p), .sh (nI t), .sh (.lst (tNs (prs n))), .un, .un], om⟩) (mapO_some fun _ _ => rfl) ?_ ?_ (sizeLine_big (by rw [List.length_zip]; omega)) ?_
    · simp -dsimp -implicitDefEqProofs [zipD_enc]
    · simp -dsimp -implicitDefEqProofs
    · intro x hx y hy acc ha
      cases hy
      refine lcTurn_okk (s1 := ⟨[.sh (pos n r), .sh (tN p), .sh (nI t), .sh (.lst (tNs (prs n))), .sh (tN x.1), .sh (nI x.2)], om⟩) (nI (if x.1 = p then t else x.2)) ?_ ?_ ?_ ha
      · simp -dsimp -implicitDefEqProofs
      · by_cases q : x.1 = p
        · simp -dsimp -implicitDefEqProofs [eqD_tN, q]
        · simp -dsimp -implicitDefEqProofs [eqD_tN, q]
      · simp -dsimp -implicitDefEqProofs
  rw [call21]
  simp -dsimp -implicitDefEqProofs [B21, playing P, pairs_of (d := d) n hn, e]
theorem after_tie (d : Nat) {p : List Nat} (hl : p.length ≤ 1000) (hp : p ∈ freeL n r) (om : List D) : cl (d + 7) 22 [.sh (pos n r), .sh (tN p)] om = .ok (.sh (pos n (tiedL n r p t))) om := by
  rw [call22]
  simp -dsimp -implicitDefEqProofs [B22, need_free_ok P d hl hp, tied P]
end
theorem empty_position (d : Nat) {n : Nat} (hn : n < 8) (om : List D) : cl (d + 4) 15 [.sh (nI n)] om = .ok (.sh (pos n (List.replicate (prs n).length 2))) om := by
  have hp := prs_le n hn
  have h2 : (2 : Int) ≠ 0 := by decide
  have h2b : (2 : Int).natAbs < 1073741824 := by decide
  have m : binD .Mult (.tup [.int 2]) (.int ((prs n).length : Int)) = some (.sh (tN (List.replicate (prs n).length 2))) := by
    have z := mul_tup1 (.int 2) (prs n).length (by omega)
    rw [show List.replicate (prs n).length (D.int 2) = ns (List.replicate (prs n).length 2) from ns_replicate _ 2] at z
    exact z
  rw [call15]
  simp -dsimp -implicitDefEqProofs [B15, call2, B2, is_count_int, bin_mul_l (small_nat (show n < 2 ^ 63 by omega)), bin_div h2 h2b, half n hn, m]
end LW

set_option Elab.async false
set_option linter.all false
set_option maxRecDepth 100000
set_option maxHeartbeats 4000000
/-! K5: k96: the law's own lots, turns, ends -/
namespace LW
open PySem L2 VM
theorem len_filter (r : List Nat) (k : Nat) : (r.filter fun x => decide (x = k)).length = r.count k := by
  rw [List.count_eq_countP, List.countP_eq_length_filter]
  congr 1
theorem law_turn (d : Nat) {n : Nat} {r : List Nat} {t : Nat} (P : IsP n r t) (om : List D) : cl (d + 1) 38 [.sh (tN r)] om = .ok (.sh (nI t)) om := by
  have hp := prs_le n P.n8
  have hl := P.len
  have e0 : lcRun (cl d) (.slot 1) (.nm 1) (.seq (.slot 0)) [(.cmp .Eq (.slot 1) (.const (.int 0)))] [1] ⟨[.sh (tN r), .un], om⟩ = .ok (.ow (.lst ((r.filter fun x => decide (x = 0)).map nI))) ⟨[.sh (tN r), .un], om⟩ := by
    refine lcRun_F (fun x => decide (x = 0)) nI (g := nI) (xs := r) (s1 := ⟨[.sh (tN r), .un], om⟩) (s0 := ⟨[.sh (tN r), .un], om⟩) ?_ ?_ (sizeLine_big (by omega)) ?_
    · simp -dsimp -implicitDefEqProofs
      rfl
    · simp -dsimp -implicitDefEqProofs
    · intro x hx acc ha
      have i2 : ((x : Int) = 0) = (x = 0) := propext (by omega)
      refine lcTurn_eq (s1 := ⟨[.sh (tN r), .sh (nI x)], om⟩) _ _ ?_ ?_ ?_ ?_ ha
      · simp -dsimp -implicitDefEqProofs
      · simp -dsimp -implicitDefEqProofs [i2]
      · intro _
        simp -dsimp -implicitDefEqProofs
      · simp -dsimp -implicitDefEqProofs
  have e1 : lcRun (cl d) (.slot 1) (.nm 1) (.seq (.slot 0)) [(.cmp .Eq (.slot 1) (.const (.int 1)))] [1] ⟨[.sh (tN r), .un], om⟩ = .ok (.ow (.lst ((r.filter fun x => decide (x = 1)).map nI))) ⟨[.sh (tN r), .un], om⟩ := by
    refine lcRun_F (fun x => decide (x = 1)) nI (g := nI) (xs := r) (s1 := ⟨[.sh (tN r), .un], om⟩) (s0 := ⟨[.sh (tN r), .un], om⟩) ?_ ?_ (sizeLine_big (by omega)) ?_
    · simp -dsimp -implicitDefEqProofs
      rfl
    · simp -dsimp -implicitDefEqProofs
    · intro x hx acc ha
      have i2 : ((x : Int) = 1) = (x = 1) := propext (by omega)
      refine lcTurn_eq (s1 := ⟨[.sh (tN r), .sh (nI x)], om⟩) _ _ ?_ ?_ ?_ ?_ ha
      · simp -dsimp -implicitDefEqProofs
      · simp -dsimp -implicitDefEqProofs [i2]
      · intro _
        simp -dsimp -implicitDefEqProofs
      · simp -dsimp -implicitDefEqProofs
  have hc := P.cnt
  have l0 : biD .len [.lst ((r.filter fun x => decide (x = 0)).map nI)] = some (.sh (nI (r.count 0))) := by rw [bi_len_lst, List.length_map, len_filter]
  have l1 : biD .len [.lst ((r.filter fun x => decide (x = 1)).map nI)] = some (.sh (nI (r.count 1))) := by rw [bi_len_lst, List.length_map, len_filter]
  have e : ((r.count 0 : Nat) - (r.count 1 : Nat) : Int) = (t : Int) := by omega
  rw [call38]
  simp -dsimp -implicitDefEqProofs [B38, e0, e1, l0, l1, e]
/-! ### who has a lot -/
def placeD (n : Nat) : D := if (prs n).isEmpty = true then .dK [] else dN nI (pz n)
theorem placeD_eq {n : Nat} {p : List Nat} (h : p ∈ prs n) : placeD n = dN nI (pz n) := by
  unfold placeD
  rw [if_neg]
  intro z
  rw [List.isEmpty_iff.mp z] at h
  cases h
theorem dict_run (d n : Nat) (hn : n < 8) (row lots hue : C) (om : List D) : exS (cl d) flds exm (.asg (.nm 4) (.bi .dict1 [(.lc (.tup [(.slot 6), (.slot 5)]) (.tp [(.nm 5), (.nm 6)]) (.enum (.slot 1)) [] [5, 6])])) ⟨[row, .sh (.lst (tNs (prs n))), lots, hue, .un, .un, .un, .un, .un], om⟩ =
    .nx ⟨[row, .sh (.lst (tNs (prs n))), lots, hue, .ow (placeD n), .un, .un, .un, .un], om⟩ := by
  match n, hn with
  | 0, _ => kernel_rfl
  | 1, _ => kernel_rfl
  | 2, _ => kernel_rfl
  | 3, _ => kernel_rfl
  | 4, _ => kernel_rfl
  | 5, _ => kernel_rfl
  | 6, _ => kernel_rfl
  | 7, _ => kernel_rfl
theorem pz_some {n : Nat} (hn : n < 8) {p : List Nat} (h : p ∈ prs n) : ∃ k, gA (pz n) p = some k ∧ k < (prs n).length := by
  obtain ⟨i, e1⟩ := List.mem_iff_getElem?.mp h
  have hi := (List.getElem?_eq_some_iff.mp e1).1
  have g := pz_at n hn i hi
  rw [List.getD_eq_getElem?_getD, e1] at g
  exact ⟨i, g, hi⟩
abbrev lotE (m : Nat) (lot : List Nat) : D := .tup [tN lot, .lst (tNs (own lot m))]
theorem own_in {n m : Nat} {lot : List Nat} (h : lot ∈ incs n 0 m) : ∀ p ∈ own lot m, p ∈ prs n := by
  obtain ⟨h1, h2, h3⟩ := mem_incs.mp h
  intro p hp
  obtain ⟨q, hq, rfl⟩ := List.mem_map.mp hp
  obtain ⟨i, j, rfl, hij, hj⟩ := mem_prs.mp hq
  refine mem_prs.mpr ⟨lot.getD i 0, lot.getD j 0, rfl, ?_, ?_⟩
  · rw [List.getD_eq_getElem?_getD, List.getD_eq_getElem?_getD, List.getElem?_eq_getElem (show i < lot.length by omega), List.getElem?_eq_getElem (show j < lot.length by omega)]
    exact (List.pairwise_iff_getElem.mp h2) i j _ _ hij
  · rw [List.getD_eq_getElem?_getD, List.getElem?_eq_getElem (show j < lot.length by omega)]
    have := h3 _ (List.getElem_mem (show j < lot.length by omega))
    show lot[j] < n
    omega
theorem incs_small : ∀ n, n < 8 → ∀ m, m < 6 → (incs n 0 m).length ≤ 35 := by decide +kernel
theorem own_small (lot : List Nat) : ∀ m, m < 6 → (own lot m).length ≤ 10 := fun m h => by
  unfold own
  rw [List.length_map]
  have : ∀ m, m < 6 → (prs m).length ≤ 10 := by decide
  exact this m h
theorem isEmpty_filter {α : Type} (p : α → Bool) (xs : List α) : (xs.filter p).isEmpty = xs.all fun x => !p x := by
  induction xs with
  | nil => rfl
  | cons x xs ih =>
    rw [List.filter_cons, List.all_cons]
    cases p x <;> simp [ih]
theorem ne_nil_ns (xs : List Nat) : cmpD .NotEq (.lst (ns xs)) (.lst []) = some (!xs.isEmpty) := by
  have h := neD_lN xs []
  rw [ns_nil] at h
  rw [h]
  cases xs <;> rfl
theorem eq_nil_tNs (ts : List (List Nat)) : cmpD .Eq (.lst (tNs ts)) (.lst []) = some ts.isEmpty := by
  have h := ne_nil_tNs ts
  have h : (eqD (.lst (tNs ts)) (.lst [])).map (!·) = some (!ts.isEmpty) := h
  show eqD _ _ = _
  cases q : eqD (.lst (tNs ts)) (.lst []) with
  | none => rw [q] at h; cases h
  | some b =>
    rw [q] at h
    have h : some (!b) = some (!ts.isEmpty) := h
    cases b <;> cases e : ts.isEmpty <;> simp_all
theorem has_inner (d n : Nat) (hn : n < 8) {r : List Nat} (hr : r.length = (prs n).length) (hue m : Nat) (hm : m < 6) {lot : List Nat} (h : lot ∈ incs n 0 m) (c1 c2 c7 : C) (om : List D) :
    lcRun (cl d) (.slot 6) (.nm 6) (.seq (.slot 8)) [(.cmp .NotEq (.idx (.slot 0) (.idx (.slot 4) (.slot 6))) (.slot 3))] [6] ⟨[.sh (tN r), c1, c2, .sh (nI hue), .ow (placeD n), .un, .un, c7, .sh (.lst (tNs (own lot m)))], om⟩ =
      .ok (.ow (.lst (tNs ((own lot m).filter fun p => !decide (hueAt n r p = hue))))) ⟨[.sh (tN r), c1, c2, .sh (nI hue), .ow (placeD n), .un, .un, c7, .sh (.lst (tNs (own lot m)))], om⟩ := by
  refine lcRun_F (fun p => !decide (hueAt n r p = hue)) tN (g := tN) (xs := own lot m) (s1 := ⟨[.sh (tN r), c1, c2, .sh (nI hue), .ow (placeD n), .un, .un, c7, .sh (.lst (tNs (own lot m)))], om⟩) (s0 := ⟨[.sh (tN r), c1, c2, .sh (nI hue), .ow (placeD n), .un, .un, c7, .sh (.lst (tNs (own lot m)))], om⟩) ?_ ?_ (sizeLine_big (by have := own_small lot m hm; omega)) ?_
  · simp -dsimp -implicitDefEqProofs
    rfl
  · simp -dsimp -implicitDefEqProofs
  · intro p hp acc ha
    obtain ⟨k, hk, hk2⟩ := pz_some hn (own_in h p hp)
    have i1 : idxD (placeD n) (tN p) = some (nI k) := by rw [placeD_eq (own_in h p hp), idx_N, hk] <;> rfl
    have i2 : idxD (tN r) (nI k) = some (nI (hueAt n r p)) := by
      unfold hueAt
      rw [hk, idx_tup, ns_get?, List.getElem?_eq_getElem (by omega)]
      show _ = some (nI (r.getD k 9))
      rw [List.getD_eq_getElem?_getD, List.getElem?_eq_getElem (by omega)] <;> rfl
    have i3 : ((hueAt n r p : Int) = (hue : Int)) = (hueAt n r p = hue) := propext (by omega)
    refine lcTurn_eq (s1 := ⟨[.sh (tN r), c1, c2, .sh (nI hue), .ow (placeD n), .un, .sh (tN p), c7, .sh (.lst (tNs (own lot m)))], om⟩) _ _ ?_ ?_ ?_ ?_ ha
    · simp -dsimp -implicitDefEqProofs
    · simp -dsimp -implicitDefEqProofs [i1, i2, i3]
    · intro _
      simp -dsimp -implicitDefEqProofs
    · simp -dsimp -implicitDefEqProofs
theorem law_has (d n : Nat) (hn : n < 8) {r : List Nat} (hr : r.length = (prs n).length) (hue m : Nat) (hm : m < 6) (om : List D) :
    cl (d + 1) 37 [.sh (tN r), .sh (.lst (tNs (prs n))), .sh (.lst (lotsD n m)), .sh (nI hue)] om = .ok (.sh (.bl (hasL n r hue m))) om := by
  have e : lcRun (cl d) (.const (.int 1)) (.tp [(.nm 7), (.nm 8)]) (.seq (.slot 2)) [(.cmp .Eq (.lc (.slot 6) (.nm 6) (.seq (.slot 8)) [(.cmp .NotEq (.idx (.slot 0) (.idx (.slot 4) (.slot 6))) (.slot 3))] [6]) (.lst []))] [7, 8] ⟨[.sh (tN r), .sh (.lst (tNs (prs n))), .sh (.lst (lotsD n m)), .sh (nI hue), .ow (placeD n), .un, .un, .un, .un], om⟩ =
      .ok (.ow (.lst (((incs n 0 m).filter fun lot => (own lot m).all fun p => decide (hueAt n r p = hue)).map fun _ => nI 1))) ⟨[.sh (tN r), .sh (.lst (tNs (prs n))), .sh (.lst (lotsD n m)), .sh (nI hue), .ow (placeD n), .un, .un, .un, .un], om⟩ := by
    refine lcRun_F (fun lot => (own lot m).all fun p => decide (hueAt n r p = hue)) (fun _ => nI 1) (g := lotE m) (xs := incs n 0 m) (s1 := ⟨[.sh (tN r), .sh (.lst (tNs (prs n))), .sh (.lst (lotsD n m)), .sh (nI hue), .ow (placeD n), .un, .un, .un, .un], om⟩) (s0 := ⟨[.sh (tN r), .sh (.lst (tNs (prs n))), .sh (.lst (lotsD n m)), .sh (nI hue), .ow (placeD n), .un, .un, .un, .un], om⟩) ?_ ?_ (sizeLine_big (by have := incs_small n hn m hm; omega)) ?_
    · simp -dsimp -implicitDefEqProofs
      rfl
    · simp -dsimp -implicitDefEqProofs
    · intro lot hx acc ha
      have hi := has_inner d n hn hr hue m hm hx (.sh (.lst (tNs (prs n)))) (.sh (.lst (lotsD n m))) (.sh (tN lot)) om
      have e2 : ((own lot m).filter fun p => !decide (hueAt n r p = hue)).isEmpty = (own lot m).all fun p => decide (hueAt n r p = hue) := by
        rw [isEmpty_filter]
        simp
      refine lcTurn_eq (s1 := ⟨[.sh (tN r), .sh (.lst (tNs (prs n))), .sh (.lst (lotsD n m)), .sh (nI hue), .ow (placeD n), .un, .un, .sh (tN lot), .sh (.lst (tNs (own lot m)))], om⟩) _ _ ?_ ?_ ?_ ?_ ha
      · simp -dsimp -implicitDefEqProofs
      · rw [← e2]
        simp -dsimp -implicitDefEqProofs [hi, eq_nil_tNs]
      · intro _
        simp -dsimp -implicitDefEqProofs
      · simp -dsimp -implicitDefEqProofs
  have e3 : ∀ l : List (List Nat), (l.map fun _ => nI 1) = ns (l.map fun _ => 1) := fun l => by simp [ns]
  have e4 : (((incs n 0 m).filter fun lot => (own lot m).all fun p => decide (hueAt n r p = hue)).map fun _ => 1).isEmpty = !hasL n r hue m := by
    rw [List.isEmpty_map, isEmpty_filter]
    unfold hasL
    rw [List.not_any_eq_all_not]
  rw [call37]
  unfold B37
  rw [if_pos (show [C.sh (tN r), .sh (.lst (tNs (prs n))), .sh (.lst (lotsD n m)), .sh (nI hue)].length = 4 from rfl), exSs_cons, show ([C.sh (tN r), .sh (.lst (tNs (prs n))), .sh (.lst (lotsD n m)), .sh (nI hue)] ++ List.replicate 5 C.un) = [C.sh (tN r), .sh (.lst (tNs (prs n))), .sh (.lst (lotsD n m)), .sh (nI hue), .un, .un, .un, .un, .un] from rfl, dict_run d n hn]
  simp -dsimp -implicitDefEqProofs [e, e3, ne_nil_ns, e4]
end LW

set_option Elab.async false
set_option linter.all false
set_option maxRecDepth 100000
set_option maxHeartbeats 4000000
/-! K6: k96: who wins -/
namespace LW
open PySem L2 VM
inductive Rule where
  | make | shun | keep
  deriving DecidableEq
abbrev sMake : Str := ⟨#[109, 97, 107, 101]⟩
abbrev sShun : Str := ⟨#[115, 104, 117, 110]⟩
abbrev sKeep : Str := ⟨#[107, 101, 101, 112]⟩
abbrev sBoth : Str := ⟨#[98, 111, 116, 104]⟩
abbrev sOver : Str := ⟨#[111, 118, 101, 114]⟩
abbrev sNot : Str := ⟨#[78, 111, 116, 75, 101, 112, 116]⟩
@[simp] theorem ne_mk : cmpD .NotEq (.str sMake) (.str sKeep) = some true := by kernel_rfl
@[simp] theorem ne_sk : cmpD .NotEq (.str sShun) (.str sKeep) = some true := by kernel_rfl
@[simp] theorem ne_kk : cmpD .NotEq (.str sKeep) (.str sKeep) = some false := by kernel_rfl
@[simp] theorem eq_mk : cmpD .Eq (.str sMake) (.str sKeep) = some false := by kernel_rfl
@[simp] theorem eq_sk : cmpD .Eq (.str sShun) (.str sKeep) = some false := by kernel_rfl
@[simp] theorem eq_kk : cmpD .Eq (.str sKeep) (.str sKeep) = some true := by kernel_rfl
@[simp] theorem eq_mm : cmpD .Eq (.str sMake) (.str sMake) = some true := by kernel_rfl
@[simp] theorem eq_sm : cmpD .Eq (.str sShun) (.str sMake) = some false := by kernel_rfl
@[simp] theorem in_m : cmpD .NotIn (.str sMake) (.tup [.str sMake, .str sShun, .str sKeep]) = some false := by kernel_rfl
@[simp] theorem in_s : cmpD .NotIn (.str sShun) (.tup [.str sMake, .str sShun, .str sKeep]) = some false := by kernel_rfl
@[simp] theorem in_k : cmpD .NotIn (.str sKeep) (.tup [.str sMake, .str sShun, .str sKeep]) = some false := by kernel_rfl
def Rule.s : Rule → Str
  | .make => sMake
  | .shun => sShun
  | .keep => sKeep
def Rule.nk : Rule → Bool
  | .keep => false
  | _ => true
def both (ru : Rule) (h0 h1 : Bool) : Bool := ru.nk && (h0 && h1)
def over (ru : Rule) (h0 h1 full : Bool) : Bool := full || h0 || (ru.nk && h1)
def win (ru : Rule) (h0 h1 : Bool) : D := match ru, h0, h1 with
  | .keep, true, _ => .int 0
  | .keep, false, _ => .int 1
  | .make, true, _ => .int 0
  | .shun, true, _ => .int 1
  | .make, false, true => .int 1
  | .shun, false, true => .int 0
  | _, false, false => .non
section
variable {n : Nat} {r : List Nat} {t : Nat} (P : IsP n r t) (d : Nat) {m : Nat} (hm : 2 ≤ m) (hm2 : m ≤ 5) {h0 h1 full : Bool} (e0 : hasL n r 0 m = h0) (e1 : hasL n r 1 m = h1) (ef : r.contains 2 = !full) (om : List D)
include P hm2 e0 e1
theorem c0 (d : Nat) (om : List D) : cl (d + 3) 12 [.sh (pos n r), .sh (.int 0), .sh (nI m)] om = .ok (.sh (.bl h0)) om := by
  have := has_crowd d n P.n8 P.len 0 hm2 om
  rw [e0] at this
  exact this
theorem c1 (d : Nat) (om : List D) : cl (d + 3) 12 [.sh (pos n r), .sh (.int 1), .sh (nI m)] om = .ok (.sh (.bl h1)) om := by
  have := has_crowd d n P.n8 P.len 1 hm2 om
  rw [e1] at this
  exact this
theorem has_both (ru : Rule) : cl (d + 4) 13 [.sh (pos n r), .sh (.str ru.s), .sh (nI m)] om = .ok (.sh (.bl (both ru h0 h1))) om := by
  have k0 := c0 P hm2 e0 e1 d
  have k1 := c1 P hm2 e0 e1 d
  rw [call13]
  cases ru <;> cases h0 <;> cases h1 <;> (unfold both Rule.nk Rule.s; simp -dsimp -implicitDefEqProofs [B13, k0, k1])
include hm
theorem need_game (ru : Rule) : cl (d + 7) 14 [.sh (pos n r), .sh (.str ru.s), .sh (nI m)] om = if both ru h0 h1 = true then .exc 4 [(kPromise, .str sBoth), (kWitness, nI m)] om else .ok (.sh .non) om := by
  have k0 := has_both P (d + 2) hm2 e0 e1 (ru := ru)
  have hlt : ¬ (m : Int) < 2 := by omega
  have hr : cmpD .NotIn (.str ru.s) (.tup [.str sMake, .str sShun, .str sKeep]) = some false := by cases ru <;> kernel_rfl
  rw [call14]
  cases q : both ru h0 h1 with
  | false =>
    rw [q] at k0
    simp -dsimp -implicitDefEqProofs [B14, need_position P, call11, B11, is_count_int, hlt, tyD, hr, k0]
  | true =>
    rw [q] at k0
    simp -dsimp -implicitDefEqProofs [B14, need_position P, call11, B11, is_count_int, hlt, tyD, hr, k0, flds4]
include ef
theorem over_in (ru : Rule) : cl (d + 4) 23 [.sh (pos n r), .sh (.str ru.s), .sh (nI m)] om = .ok (.sh (.bl (over ru h0 h1 full))) om := by
  have k0 := c0 P hm2 e0 e1 d
  have k1 := c1 P hm2 e0 e1 d
  have hf : cmpD .NotIn (.int 2) (tN r) = some full := by rw [notIn_tN2, ef]; cases full <;> rfl
  rw [call23]
  cases ru <;> cases h0 <;> cases h1 <;> cases full <;> (unfold over Rule.nk Rule.s; simp -dsimp -implicitDefEqProofs [B23, k0, k1, hf])
theorem is_over (ru : Rule) : cl (d + 8) 24 [.sh (pos n r), .sh (.str ru.s), .sh (nI m)] om = if both ru h0 h1 = true then .exc 4 [(kPromise, .str sBoth), (kWitness, nI m)] om else .ok (.sh (.bl (over ru h0 h1 full))) om := by
  have k0 := fun om => need_game P d hm hm2 e0 e1 om ru
  have k1 := fun om => over_in P (d + 3) hm hm2 e0 e1 ef om ru
  rw [call24]
  cases q : both ru h0 h1 with
  | false =>
    rw [q] at k0
    have k0 : ∀ om, cl (d + 7) 14 [.sh (pos n r), .sh (.str ru.s), .sh (nI m)] om = .ok (.sh .non) om := k0
    simp -dsimp -implicitDefEqProofs [B24, k0, k1]
  | true =>
    rw [q] at k0
    have k0 : ∀ om, cl (d + 7) 14 [.sh (pos n r), .sh (.str ru.s), .sh (nI m)] om = .exc 4 [(kPromise, .str sBoth), (kWitness, nI m)] om := k0
    simp -dsimp -implicitDefEqProofs [B24, k0]
theorem winner_in (ru : Rule) : cl (d + 4) 25 [.sh (pos n r), .sh (.str ru.s), .sh (nI m)] om = .ok (.sh (win ru h0 h1)) om := by
  have k0 := c0 P hm2 e0 e1 d
  have k1 := c1 P hm2 e0 e1 d
  rw [call25]
  cases ru <;> cases h0 <;> cases h1 <;> (unfold win Rule.s; simp -dsimp -implicitDefEqProofs [B25, k0, k1, forRun_cons, forRun_nil])
theorem winner (ru : Rule) : cl (d + 8) 26 [.sh (pos n r), .sh (.str ru.s), .sh (nI m)] om = if both ru h0 h1 = true then .exc 4 [(kPromise, .str sBoth), (kWitness, nI m)] om else if over ru h0 h1 full = true then .ok (.sh (win ru h0 h1)) om else .exc 4 [(kPromise, .str sOver), (kWitness, nI t)] om := by
  have k0 := fun om => need_game P d hm hm2 e0 e1 om ru
  have k1 := fun om => over_in P (d + 3) hm hm2 e0 e1 ef om ru
  have k2 := fun om => winner_in P (d + 3) hm hm2 e0 e1 ef om ru
  rw [call26]
  cases q : both ru h0 h1 with
  | false =>
    rw [q] at k0
    have k0 : ∀ om, cl (d + 7) 14 [.sh (pos n r), .sh (.str ru.s), .sh (nI m)] om = .ok (.sh .non) om := k0
    cases q2 : over ru h0 h1 full with
    | true =>
      rw [q2] at k1
      simp -dsimp -implicitDefEqProofs [B26, k0, k1, k2]
    | false =>
      rw [q2] at k1
      simp -dsimp -implicitDefEqProofs [B26, k0, k1, k2, playing P, flds4]
  | true =>
    rw [q] at k0
    have k0 : ∀ om, cl (d + 7) 14 [.sh (pos n r), .sh (.str ru.s), .sh (nI m)] om = .exc 4 [(kPromise, .str sBoth), (kWitness, nI m)] om := k0
    simp -dsimp -implicitDefEqProofs [B26, k0]
end
end LW

set_option Elab.async false
set_option linter.all false
set_option maxRecDepth 100000
set_option maxHeartbeats 4000000
/-! K7: k96: _law_ends_right -/
namespace LW
open PySem L2 VM
def endC (ru : Rule) (h0 h1 full : Bool) : C := match ru, h0, h1, full with
  | .keep, true, _, _ => .ow (.lst [.int 0])
  | .keep, false, _, true => .ow (.lst [.int 1])
  | .keep, false, _, false => .sh .non
  | .make, true, _, _ => .ow (.lst [.int 0])
  | .make, false, true, _ => .ow (.lst [.int 1])
  | .shun, true, _, _ => .ow (.lst [.int 1])
  | .shun, false, true, _ => .ow (.lst [.int 0])
  | _, false, false, true => .ow (.lst [.non])
  | _, false, false, false => .sh .non
section
variable {n : Nat} {r : List Nat} {t : Nat} (P : IsP n r t) {m : Nat} (hm : 2 ≤ m) (hm2 : m ≤ 5) {h0 h1 full : Bool} (e0 : hasL n r 0 m = h0) (e1 : hasL n r 1 m = h1) (ef : r.contains 2 = !full)
include P hm2 e0 e1
theorem l0 (d : Nat) (om : List D) : cl (d + 1) 37 [.sh (tN r), .sh (.lst (tNs (prs n))), .sh (.lst (lotsD n m)), .sh (.int 0)] om = .ok (.sh (.bl h0)) om := by
  have := law_has d n P.n8 P.len 0 m (by omega) om
  rw [e0] at this
  exact this
theorem l1 (d : Nat) (om : List D) : cl (d + 1) 37 [.sh (tN r), .sh (.lst (tNs (prs n))), .sh (.lst (lotsD n m)), .sh (.int 1)] om = .ok (.sh (.bl h1)) om := by
  have := law_has d n P.n8 P.len 1 m (by omega) om
  rw [e1] at this
  exact this
include hm ef
theorem law_end (d : Nat) (ru : Rule) (om : List D) : cl (d + 3) 40 [.sh (tN r), .sh (nI n), .sh (.str ru.s), .sh (nI m)] om = .ok (endC ru h0 h1 full) om := by
  have k0 := l0 P hm2 e0 e1 (d + 1)
  have k1 := l1 P hm2 e0 e1 (d + 1)
  have hf : cmpD .NotIn (.int 2) (tN r) = some full := by rw [notIn_tN2, ef]; cases full <;> rfl
  have lp := law_pairs (d + 1) n P.n8
  have ll := law_lots d n m P.n8 hm (by omega)
  have s1 : (1 : Nat) ≤ sizeLine := by decide
  rw [call40]
  cases ru <;> cases h0 <;> cases h1 <;> cases full <;> (unfold endC Rule.s; simp -dsimp -implicitDefEqProofs [B40, k0, k1, hf, lp, ll, s1])
theorem law_is_both (d : Nat) (ru : Rule) (om : List D) : cl (d + 3) 41 [.sh (tN r), .sh (nI n), .sh (.str ru.s), .sh (nI m)] om = .ok (.sh (.bl (both ru h0 h1))) om := by
  have k0 := l0 P hm2 e0 e1 (d + 1)
  have k1 := l1 P hm2 e0 e1 (d + 1)
  have lp := law_pairs (d + 1) n P.n8
  have ll := law_lots d n m P.n8 hm (by omega)
  rw [call41]
  cases ru <;> cases h0 <;> cases h1 <;> (unfold both Rule.nk Rule.s; simp -dsimp -implicitDefEqProofs [B41, k0, k1, lp, ll])
end
abbrev HS : List (List Nat × Str × List Str) := [([3], ⟨#[66, 97, 100, 72, 117, 101, 105, 110, 103]⟩, [⟨#[104, 117, 101, 105, 110, 103]⟩]), ([2], ⟨#[66, 97, 100, 78, 97, 109, 101]⟩, [⟨#[110, 97, 109, 101]⟩]), ([1], ⟨#[66, 97, 100, 78, 117, 109, 98, 101, 114]⟩, [⟨#[119, 104, 97, 116]⟩, ⟨#[110, 117, 109, 98, 101, 114]⟩]), ([4], ⟨#[78, 111, 116, 75, 101, 112, 116]⟩, [⟨#[112, 114, 111, 109, 105, 115, 101]⟩, ⟨#[119, 105, 116, 110, 101, 115, 115]⟩])]
@[simp] theorem metOk (c : C) (s : S) : metOf HS (.ok c s) = .ok c s := rfl
theorem met4 (w x : D) (s : S) : metOf HS (.exc 4 [(kPromise, w), (kWitness, x)] s) = .ok (.sh (.tup [.str sNot, w, x])) s := by
  unfold metOf
  kernel_rfl
theorem exSs_app (cm : Cm) (fl : Nat → List Str) (ex : Nat → Nat → Bool) : ∀ (a b : List MS) (s : S), exSs cm fl ex (a ++ b) s = SO.thn cm fl ex (exSs cm fl ex a s) b
  | [], b, s => by rw [exSs_nil]; rfl
  | m :: a, b, s => by
    rw [List.cons_append, exSs_cons, exSs_cons]
    cases e : exS cm fl ex m s with
    | nx s1 => exact exSs_app cm fl ex a b s1
    | _ => rfl
/-- what is told is shown -/
def Shown (x : D) : Prop := ∃ n dep, Fit n dep x ∧ n ≤ 100000 ∧ dep ≤ 10
theorem fit_not (a b : Str) (ha : a = sNot) (hb : b = sBoth ∨ b = sOver) {k : Nat} (hk : k < 10) : Fit 1000 2 (.tup [.str a, .str b, nI k]) := by
  have fs : ∀ x : Str, (x = sNot ∨ x = sBoth ∨ x = sOver) → Fit 200 0 (.str x) := fun x hx => by
    refine Fit.mono (n := 10 * x.length + 2) (fit_str ?_ ?_) ?_ (Nat.le_refl _)
    · rcases hx with rfl | rfl | rfl <;> decide
    · rcases hx with rfl | rfl | rfl <;> (unfold sOk; decide +kernel)
    · rcases hx with rfl | rfl | rfl <;> decide
  refine Fit.mono (fit_tup (n := 200) (dep := 0) (m := 3) (fun d hd => ?_) (by simp)) (by omega) (by omega)
  simp only [List.mem_cons, List.mem_nil_iff, or_false] at hd
  rcases hd with rfl | rfl | rfl
  · exact fs _ (.inl ha)
  · exact fs _ (.inr hb)
  · exact (fit_nat (by omega)).mono
theorem shown_two {a b : D} (ha : Fit 1000 2 a) (hb : Fit 1000 2 b) : Shown (.lst [a, b]) := by
  refine ⟨_, _, fit_lst (m := 2) (n := 1000) (dep := 2) (fun d hd => ?_) (by simp), by omega, by omega⟩
  simp only [List.mem_cons, List.mem_nil_iff, or_false] at hd
  rcases hd with rfl | rfl
  · exact ha
  · exact hb
end LW

set_option Elab.async false
set_option linter.all false
set_option maxRecDepth 100000
set_option maxHeartbeats 4000000
/-! K8: k96: _law_ends_right, its runs -/
namespace LW
open PySem L2 VM
abbrev endPre : List MS := [.par [4, 5] [(.tup [(.slot 0), (.const (.int 3)), (.slot 1)]), (.call 40 [(.slot 1), (.slot 0), (.slot 3), (.slot 2)])], .asg (.nm 6) (.lst [(.met [([3], ⟨#[66, 97, 100, 72, 117, 101, 105, 110, 103]⟩, [⟨#[104, 117, 101, 105, 110, 103]⟩]), ([2], ⟨#[66, 97, 100, 78, 97, 109, 101]⟩, [⟨#[110, 97, 109, 101]⟩]), ([1], ⟨#[66, 97, 100, 78, 117, 109, 98, 101, 114]⟩, [⟨#[119, 104, 97, 116]⟩, ⟨#[110, 117, 109, 98, 101, 114]⟩]), ([4], ⟨#[78, 111, 116, 75, 101, 112, 116]⟩, [⟨#[112, 114, 111, 109, 105, 115, 101]⟩, ⟨#[119, 105, 116, 110, 101, 115, 115]⟩])] (.call 24 [(.slot 4), (.slot 3), (.slot 2)]))]), .expr (.meth .append (.slot 6) [(.met [([3], ⟨#[66, 97, 100, 72, 117, 101, 105, 110, 103]⟩, [⟨#[104, 117, 101, 105, 110, 103]⟩]), ([2], ⟨#[66, 97, 100, 78, 97, 109, 101]⟩, [⟨#[110, 97, 109, 101]⟩]), ([1], ⟨#[66, 97, 100, 78, 117, 109, 98, 101, 114]⟩, [⟨#[119, 104, 97, 116]⟩, ⟨#[110, 117, 109, 98, 101, 114]⟩]), ([4], ⟨#[78, 111, 116, 75, 101, 112, 116]⟩, [⟨#[112, 114, 111, 109, 105, 115, 101]⟩, ⟨#[119, 105, 116, 110, 101, 115, 115]⟩])] (.call 26 [(.slot 4), (.slot 3), (.slot 2)]))]), .asg (.nm 7) (.lst [(.notN (.slot 5)), (.ife (.isN (.slot 5)) (.tup [(.const (.str ⟨#[78, 111, 116, 75, 101, 112, 116]⟩)), (.const (.str ⟨#[111, 118, 101, 114]⟩)), (.call 38 [(.slot 1)])]) (.idx (.slot 5) (.const (.int 0))))]), .ife (.call 41 [(.slot 1), (.slot 0), (.slot 3), (.slot 2)]) [.asg (.nm 7) (.bin .Mult (.lst [(.tup [(.const (.str ⟨#[78, 111, 116, 75, 101, 112, 116]⟩)), (.const (.str ⟨#[98, 111, 116, 104]⟩)), (.slot 2)])]) (.const (.int 2)))] []]
abbrev endLast : List MS := [.ife (.cmp .NotEq (.bi .repr [(.slot 6)]) (.bi .repr [(.slot 7)])) [.ret (.const (.bl false))] []]
def endB : List MS := endPre ++ endLast
theorem b45_is : B45 = [.for (.nm 2) (.rng2 (.const (.int 2)) (.const (.int 6))) [.for (.nm 3) (.seq (.lst [(.const (.str ⟨#[109, 97, 107, 101]⟩)), (.const (.str ⟨#[115, 104, 117, 110]⟩)), (.const (.str ⟨#[107, 101, 101, 112]⟩))])) endB], .ret (.const (.bl true))] := rfl

def NK (b : Str) (x : D) : D := .tup [.str sNot, .str b, x]
def told (ru : Rule) (h0 h1 full : Bool) (m t : Nat) : List D := match both ru h0 h1, over ru h0 h1 full with
  | true, _ => [NK sBoth (nI m), NK sBoth (nI m)]
  | false, true => [.bl true, win ru h0 h1]
  | false, false => [.bl false, NK sOver (nI t)]
theorem fit_win (ru : Rule) (h0 h1 : Bool) : Fit 1000 2 (win ru h0 h1) := by
  cases ru <;> cases h0 <;> cases h1 <;> first | exact (fit_nat (i := 0) (by omega)).mono | exact (fit_nat (i := 1) (by omega)).mono | exact fit_non.mono
theorem told_shown (ru : Rule) (h0 h1 full : Bool) {m t : Nat} (hm : m ≤ 5) (ht : t ≤ 1) : Shown (.lst (told ru h0 h1 full m t)) := by
  unfold told
  split
  · exact shown_two (fit_not _ _ rfl (.inl rfl) (by omega)) (fit_not _ _ rfl (.inl rfl) (by omega))
  · exact shown_two (fit_bl _).mono (fit_win ru h0 h1)
  · exact shown_two (fit_bl _).mono (fit_not _ _ rfl (.inr rfl) (by omega))
theorem rep2 (x : D) : binD .Mult (.lst [x]) (.int 2) = some (.ow (.lst [x, x])) := mul_lst1 x 2 (by omega)
theorem s2 : (2 : Nat) ≤ sizeLine := by decide
theorem s1 : (1 : Nat) ≤ sizeLine := by decide
theorem s3 : (3 : Nat) ≤ sizeLine := by decide
section
variable {n : Nat} {r : List Nat} {t : Nat} (P : IsP n r t) {m : Nat} (hm : 2 ≤ m) (hm2 : m ≤ 5)
include P hm hm2
theorem end_pre (d : Nat) (ru : Rule) {h0 h1 full : Bool} (e0 : hasL n r 0 m = h0) (e1 : hasL n r 1 m = h1) (ef : r.contains 2 = !full) (x4 x5 x6 x7 : C) (om : List D) : exSs (cl (d + 8)) flds exm endPre ⟨[.sh (nI n), .sh (tN r), .sh (nI m), .sh (.str ru.s), x4, x5, x6, x7], om⟩ = .nx ⟨[.sh (nI n), .sh (tN r), .sh (nI m), .sh (.str ru.s), .sh (pos n r), endC ru h0 h1 full, .ow (.lst (told ru h0 h1 full m t)), .ow (.lst (told ru h0 h1 full m t))], om⟩ := by
  have k0 := fun om => is_over P d hm hm2 e0 e1 ef om ru
  have k1 := fun om => winner P d hm hm2 e0 e1 ef om ru
  have k2 := fun om => law_end P hm hm2 e0 e1 ef (d + 5) ru om
  have k3 := fun om => law_is_both P hm hm2 e0 e1 ef (d + 5) ru om
  have kt := law_turn (d + 7) P
  have ma := fun (a b : D) => me_append [a] b (by simp)
  clear e0 e1 ef
  cases ru <;> cases h0 <;> cases h1 <;> cases full <;> (simp only [both, over, win, endC, told, Rule.nk, Rule.s, NK, Bool.and_true, Bool.true_and, Bool.and_false, Bool.false_and, Bool.or_true, Bool.or_false, Bool.true_or, Bool.false_or, if_true, if_false, Bool.false_eq_true] at k0 k1 k2 k3 ⊢; simp -dsimp -implicitDefEqProofs [k0, k1, k2, k3, kt, met4, rep2, ma])
end
end LW

set_option Elab.async false
set_option linter.all false
set_option maxRecDepth 100000
set_option maxHeartbeats 4000000
/-! K9: k96: _law_ends_right -/
namespace LW
open PySem L2 VM
theorem Shown.repr {xs : List D} (h : Shown (.lst xs)) : ∃ x, biD .repr [.lst xs] = some (.sh (.str x)) ∧ sOk x := by
  obtain ⟨n, dep, f, h1, h2⟩ := h
  exact reprD_fit f (by omega) (by omega)
theorem end_last (d : Nat) {X : List D} (h : Shown (.lst X)) (c0 c1 c2 c3 c4 c5 : C) (om : List D) : exSs (cl d) flds exm endLast ⟨[c0, c1, c2, c3, c4, c5, .ow (.lst X), .ow (.lst X)], om⟩ = .nx ⟨[c0, c1, c2, c3, c4, c5, .ow (.lst X), .ow (.lst X)], om⟩ := by
  obtain ⟨x, e, ok⟩ := h.repr
  simp -dsimp -implicitDefEqProofs [e, cmp_str_ne ok]
theorem end_body {n : Nat} {r : List Nat} {t : Nat} (P : IsP n r t) {m : Nat} (hm : 2 ≤ m) (hm2 : m ≤ 5) (d : Nat) (ru : Rule) (x4 x5 x6 x7 : C) (om : List D) : ∃ y4 y5 y6 y7, exSs (cl (d + 8)) flds exm endB ⟨[.sh (nI n), .sh (tN r), .sh (nI m), .sh (.str ru.s), x4, x5, x6, x7], om⟩ = .nx ⟨[.sh (nI n), .sh (tN r), .sh (nI m), .sh (.str ru.s), y4, y5, y6, y7], om⟩ := by
  have h := end_pre P hm hm2 d ru rfl rfl (full := !r.contains 2) (by simp) x4 x5 x6 x7 om
  have sh := told_shown ru (hasL n r 0 m) (hasL n r 1 m) (!r.contains 2) hm2 P.t1
  show ∃ y4 y5 y6 y7, exSs _ _ _ (endPre ++ endLast) _ = _
  rw [exSs_app, h]
  exact ⟨_, _, _, _, end_last (d + 8) sh _ _ _ _ _ _ om⟩
theorem ends_right {n : Nat} {r : List Nat} {t : Nat} (P : IsP n r t) (d : Nat) (om : List D) : cl (d + 9) 45 [.sh (nI n), .sh (tN r)] om = .ok (.sh (.bl true)) om := by
  obtain ⟨I, hI⟩ := named (fun (_ : Nat) (s : S) => ∃ x2 x3 x4 x5 x6 x7, s = ⟨[.sh (nI n), .sh (tN r), x2, x3, x4, x5, x6, x7], om⟩)
  have inner : ∀ m, 2 ≤ m → m ≤ 5 → ∀ x3 x4 x5 x6 x7, ∃ y3 y4 y5 y6 y7, forRun (cl (d + 8)) flds exm (.nm 3) endB [.str sMake, .str sShun, .str sKeep] ⟨[.sh (nI n), .sh (tN r), .sh (nI m), x3, x4, x5, x6, x7], om⟩ = .nx ⟨[.sh (nI n), .sh (tN r), .sh (nI m), y3, y4, y5, y6, y7], om⟩ := by
    intro m hm hm2 x3 x4 x5 x6 x7
    obtain ⟨a4, a5, a6, a7, e1⟩ := end_body P hm hm2 d .make x4 x5 x6 x7 om
    obtain ⟨b4, b5, b6, b7, e2⟩ := end_body P hm hm2 d .shun a4 a5 a6 a7 om
    obtain ⟨c4, c5, c6, c7, e3⟩ := end_body P hm hm2 d .keep b4 b5 b6 b7 om
    refine ⟨.sh (.str sKeep), c4, c5, c6, c7, ?_⟩
    rw [forRun_cons, show (asgC (.nm 3) (.sh (.str sMake)) ⟨[.sh (nI n), .sh (tN r), .sh (nI m), x3, x4, x5, x6, x7], om⟩) = some ⟨[.sh (nI n), .sh (tN r), .sh (nI m), .sh (.str Rule.make.s), x4, x5, x6, x7], om⟩ by simp -dsimp -implicitDefEqProofs; rfl, optB_some, e1, SO.lop_nx]
    rw [forRun_cons, show (asgC (.nm 3) (.sh (.str sShun)) ⟨[.sh (nI n), .sh (tN r), .sh (nI m), .sh (.str Rule.make.s), a4, a5, a6, a7], om⟩) = some ⟨[.sh (nI n), .sh (tN r), .sh (nI m), .sh (.str Rule.shun.s), a4, a5, a6, a7], om⟩ by simp -dsimp -implicitDefEqProofs; rfl, optB_some, e2, SO.lop_nx]
    rw [forRun_cons, show (asgC (.nm 3) (.sh (.str sKeep)) ⟨[.sh (nI n), .sh (tN r), .sh (nI m), .sh (.str Rule.shun.s), b4, b5, b6, b7], om⟩) = some ⟨[.sh (nI n), .sh (tN r), .sh (nI m), .sh (.str Rule.keep.s), b4, b5, b6, b7], om⟩ by simp -dsimp -implicitDefEqProofs; rfl, optB_some, e3, SO.lop_nx]
    rfl
  have lst3 : (3 : Nat) ≤ sizeLine := by decide
  obtain ⟨s', e, hs⟩ := forRun_nx (cm := cl (d + 8)) (flds := flds) (exm := exm) (g := .nm 2) (b := [.for (.nm 3) (.seq (.lst [(.const (.str ⟨#[109, 97, 107, 101]⟩)), (.const (.str ⟨#[115, 104, 117, 110]⟩)), (.const (.str ⟨#[107, 101, 101, 112]⟩))])) endB]) (ds := ns [2, 3, 4, 5]) I (s := ⟨[.sh (nI n), .sh (tN r), .un, .un, .un, .un, .un, .un], om⟩) (by rw [hI]; exact ⟨_, _, _, _, _, _, rfl⟩) (by
    intro k hk s hs
    rw [hI] at hs
    obtain ⟨x2, x3, x4, x5, x6, x7, rfl⟩ := hs
    have hk : k < 4 := hk
    rw [ns_get]
    have hm := (show ∀ x ∈ ([2, 3, 4, 5] : List Nat), 2 ≤ x ∧ x ≤ 5 by decide) _ (List.getElem_mem (show k < ([2, 3, 4, 5] : List Nat).length by simpa using hk))
    generalize ([2, 3, 4, 5] : List Nat)[k]'(by simpa using hk) = m at hm
    obtain ⟨y3, y4, y5, y6, y7, e⟩ := inner m hm.1 hm.2 x3 x4 x5 x6 x7
    simp -dsimp -implicitDefEqProofs [e]
    rw [hI]
    exact ⟨_, _, _, _, _, _, rfl⟩)
  rw [hI] at hs
  obtain ⟨x2, x3, x4, x5, x6, x7, rfl⟩ := hs
  have er : rngD 2 6 = ns [2, 3, 4, 5] := rngD_nat 2 6
  have i1 : inRng 2 = true := by decide
  have i2 : inRng 6 = true := by decide
  rw [call45, b45_is]
  simp -dsimp -implicitDefEqProofs [er, i1, i2, e]
end LW

set_option Elab.async false
set_option linter.all false
set_option maxRecDepth 100000
set_option maxHeartbeats 4000000
/-! KA: k96: _law_ties_right -/
namespace LW
open PySem L2 VM
abbrev tiA : List MS := [.par [3, 4] [(.tup [(.slot 1), (.const (.int 3)), (.slot 2)]), (.call 35 [(.slot 1)])], .par [5, 6] [(.lc (.slot 7) (.tp [(.nm 7), (.nm 8)]) (.zip (.slot 4) (.slot 2)) [(.cmp .Eq (.slot 8) (.const (.int 2)))] [7, 8]), (.call 38 [(.slot 2)])], .asg (.nm 9) (.lst [(.call 9 [(.slot 3)]), (.call 17 [(.slot 3)]), (.call 19 [(.slot 3)]), (.call 15 [(.slot 1)])])]
abbrev tiB : List MS := [.ife (.cmp .NotEq (.bi .repr [(.slot 9)]) (.bi .repr [(.lst [(.const (.bl true)), (.ife (.cmp .NotEq (.slot 5) (.lst [])) (.slot 6) (.const .non)), (.bi .tuple1 [(.slot 5)]), (.tup [(.slot 1), (.const (.int 3)), (.bin .Mult (.tup [(.const (.int 2))]) (.bi .len [(.slot 4)]))])])])) [.ret (.const (.bl false))] []]
abbrev tiL : List MS := [.asg (.nm 10) (.tup [(.slot 1), (.const (.int 3)), (.bi .tuple1 [(.lc (.ife (.cmp .Eq (.slot 11) (.slot 7)) (.slot 6) (.slot 12)) (.tp [(.nm 11), (.nm 12)]) (.zip (.slot 4) (.slot 2)) [] [11, 12])])]), .ife (.cmp .NotEq (.bi .repr [(.call 22 [(.slot 3), (.slot 7)])]) (.bi .repr [(.slot 10)])) [.ret (.const (.bl false))] []]
abbrev tiC : List MS := [.for (.nm 7) (.seq (.slc (.call 34 [(.brw 0), (.slot 5)]) none (some (.const (.int 3))))) [.asg (.nm 10) (.tup [(.slot 1), (.const (.int 3)), (.bi .tuple1 [(.lc (.ife (.cmp .Eq (.slot 11) (.slot 7)) (.slot 6) (.slot 12)) (.tp [(.nm 11), (.nm 12)]) (.zip (.slot 4) (.slot 2)) [] [11, 12])])]), .ife (.cmp .NotEq (.bi .repr [(.call 22 [(.slot 3), (.slot 7)])]) (.bi .repr [(.slot 10)])) [.ret (.const (.bl false))] []]]
abbrev tiD : List MS := [.asg (.nm 13) (.lc (.slot 7) (.tp [(.nm 7), (.nm 8)]) (.zip (.slot 4) (.slot 2)) [(.cmp .NotEq (.slot 8) (.const (.int 2)))] [7, 8])]
abbrev tiE : List MS := [.asg (.nm 14) (.bin .Add (.bin .Add (.lst [(.const .non), (.tup []), (.tup [(.const (.int 0)), (.const (.int 0))]), (.tup [(.const (.int 1)), (.const (.int 0))]), (.tup [(.const (.int 0)), (.slot 1)]), (.tup [(.const (.int 0))]), (.const (.int 5)), (.const (.str ⟨#[48, 49]⟩))]) (.slc (.slot 13) none (some (.const (.int 3))))) (.lc (.bi .list1 [(.slot 7)]) (.nm 7) (.seq (.slc (.slot 5) none (some (.const (.int 1))))) [] [7]))]
abbrev tiF : List MS := [.asg (.nm 14) (.bin .Add (.bin .Add (.slot 14) (.lc (.bin .Add (.slot 7) (.tup [(.const (.int 0))])) (.nm 7) (.seq (.slc (.slot 5) none (some (.const (.int 1))))) [] [7])) (.lc (.tup [(.const (.bl false)), (.idx (.slot 7) (.const (.int 1)))]) (.nm 7) (.seq (.slc (.slot 5) none (some (.const (.int 1))))) [(.cmp .Eq (.idx (.slot 7) (.const (.int 0))) (.const (.int 0)))] [7]))]
abbrev tiM : List MS := [.ife (.cmp .NotEq (.bi .repr [(.met [([3], ⟨#[66, 97, 100, 72, 117, 101, 105, 110, 103]⟩, [⟨#[104, 117, 101, 105, 110, 103]⟩]), ([2], ⟨#[66, 97, 100, 78, 97, 109, 101]⟩, [⟨#[110, 97, 109, 101]⟩]), ([1], ⟨#[66, 97, 100, 78, 117, 109, 98, 101, 114]⟩, [⟨#[119, 104, 97, 116]⟩, ⟨#[110, 117, 109, 98, 101, 114]⟩]), ([4], ⟨#[78, 111, 116, 75, 101, 112, 116]⟩, [⟨#[112, 114, 111, 109, 105, 115, 101]⟩, ⟨#[119, 105, 116, 110, 101, 115, 115]⟩])] (.call 22 [(.slot 3), (.slot 15)]))]) (.bi .repr [(.tup [(.const (.str ⟨#[78, 111, 116, 75, 101, 112, 116]⟩)), (.const (.str ⟨#[102, 114, 101, 101]⟩)), (.slot 15)])])) [.ret (.const (.bl false))] []]
abbrev tiG : List MS := [.for (.nm 15) (.seq (.slot 14)) [.ife (.cmp .NotEq (.bi .repr [(.met [([3], ⟨#[66, 97, 100, 72, 117, 101, 105, 110, 103]⟩, [⟨#[104, 117, 101, 105, 110, 103]⟩]), ([2], ⟨#[66, 97, 100, 78, 97, 109, 101]⟩, [⟨#[110, 97, 109, 101]⟩]), ([1], ⟨#[66, 97, 100, 78, 117, 109, 98, 101, 114]⟩, [⟨#[119, 104, 97, 116]⟩, ⟨#[110, 117, 109, 98, 101, 114]⟩]), ([4], ⟨#[78, 111, 116, 75, 101, 112, 116]⟩, [⟨#[112, 114, 111, 109, 105, 115, 101]⟩, ⟨#[119, 105, 116, 110, 101, 115, 115]⟩])] (.call 22 [(.slot 3), (.slot 15)]))]) (.bi .repr [(.tup [(.const (.str ⟨#[78, 111, 116, 75, 101, 112, 116]⟩)), (.const (.str ⟨#[102, 114, 101, 101]⟩)), (.slot 15)])])) [.ret (.const (.bl false))] []], .ret (.const (.bl true))]
theorem b44_is : B44 = tiA ++ (tiB ++ (tiC ++ (tiD ++ (tiE ++ (tiF ++ tiG))))) := rfl
theorem cut_take (xs : List D) (k : Nat) : cutD xs none (some (k : Int)) = xs.take k := by
  unfold cutD
  have e0 : HT.sIx xs.length 0 none = 0 := rfl
  have e1 : HT.sIx xs.length xs.length (some (k : Int)) = min k xs.length := by
    unfold HT.sIx
    simp
    try omega
  rw [e0, e1, List.drop_zero, Nat.sub_zero]
  by_cases h : k ≤ xs.length
  · rw [Nat.min_eq_left h]
  · rw [Nat.min_eq_right (by omega), List.take_of_length_le (by omega), List.take_of_length_le (by omega)]
theorem cut3 (xs : List D) : cutD xs none (some 3) = xs.take 3 := cut_take xs 3
theorem cut1 (xs : List D) : cutD xs none (some 1) = xs.take 1 := cut_take xs 1
theorem take_tNs (xs : List (List Nat)) (k : Nat) : (tNs xs).take k = tNs (xs.take k) := by
  unfold tNs
  rw [List.map_take]
def takenL (n : Nat) (r : List Nat) : List (List Nat) := (((prs n).zip r).filter fun x => !decide (x.2 = 2)).map (·.1)
def toldT (n : Nat) (r : List Nat) (t : Nat) : List D := [.bl true, if r.contains 2 = true then nI t else .non, .tup (tNs (freeL n r)), pos n (List.replicate (prs n).length 2)]
section
variable {n : Nat} {r : List Nat} {t : Nat} (P : IsP n r t)
include P
theorem free_len : (freeL n r).length ≤ 21 := by
  unfold freeL
  rw [List.length_map]
  refine Nat.le_trans (List.length_filter_le _ _) ?_
  rw [List.length_zip]
  have := prs_le n P.n8
  omega
theorem taken_len : (takenL n r).length ≤ 21 := by
  unfold takenL
  rw [List.length_map]
  refine Nat.le_trans (List.length_filter_le _ _) ?_
  rw [List.length_zip]
  have := prs_le n P.n8
  omega
theorem mem_free {p : List Nat} : p ∈ freeL n r ↔ p ∈ prs n ∧ hueAt n r p = 2 := by
  unfold freeL
  rw [List.mem_map]
  constructor
  · rintro ⟨⟨q, h⟩, hx, rfl⟩
    obtain ⟨h1, h2⟩ := List.mem_filter.mp hx
    obtain ⟨h3, h4⟩ := (mem_zip P.n8 P.len).mp h1
    exact ⟨h3, by rw [h4]; simpa using h2⟩
  · rintro ⟨h1, h2⟩
    exact ⟨(p, 2), List.mem_filter.mpr ⟨(mem_zip P.n8 P.len).mpr ⟨h1, h2⟩, by simp⟩, rfl⟩
theorem mem_taken {p : List Nat} (h : p ∈ takenL n r) : p ∈ prs n ∧ hueAt n r p ≠ 2 := by
  unfold takenL at h
  rw [List.mem_map] at h
  obtain ⟨⟨q, k⟩, hx, rfl⟩ := h
  obtain ⟨h1, h2⟩ := List.mem_filter.mp hx
  obtain ⟨h3, h4⟩ := (mem_zip P.n8 P.len).mp h1
  exact ⟨h3, by rw [h4]; simpa using h2⟩
theorem free_iff : r.contains 2 = !(freeL n r).isEmpty := by
  have key : (∃ p, p ∈ freeL n r) ↔ 2 ∈ r := by
    constructor
    · rintro ⟨p, hp⟩
      unfold freeL at hp
      obtain ⟨⟨q, k⟩, hx, rfl⟩ := List.mem_map.mp hp
      obtain ⟨h1, h2⟩ := List.mem_filter.mp hx
      have : k = 2 := by simpa using h2
      rw [← this]
      exact (List.of_mem_zip h1).2
    · intro h
      obtain ⟨i, hi⟩ := List.mem_iff_getElem?.mp h
      have hl := (List.getElem?_eq_some_iff.mp hi).1
      have hl2 : i < (prs n).length := by have := P.len; omega
      refine ⟨(prs n)[i], ?_⟩
      unfold freeL
      refine List.mem_map.mpr ⟨((prs n)[i], 2), List.mem_filter.mpr ⟨?_, by simp⟩, rfl⟩
      refine List.mem_iff_getElem?.mpr ⟨i, ?_⟩
      rw [List.getElem?_zip_eq_some]
      exact ⟨List.getElem?_eq_getElem hl2, hi⟩
  cases q : (freeL n r).isEmpty with
  | true =>
    rw [List.isEmpty_iff] at q
    have : ¬ 2 ∈ r := fun z => by
      obtain ⟨p, hp⟩ := key.mpr z
      rw [q] at hp
      cases hp
    simpa using this
  | false =>
    have : 2 ∈ r := key.mp (by
      cases e : freeL n r with
      | nil => rw [e] at q; cases q
      | cons p _ => exact ⟨p, List.mem_cons_self⟩)
    simpa using this
theorem ti_free (d : Nat) (om : List D) : lcRun (cl d) (.slot 7) (.tp [(.nm 7), (.nm 8)]) (.zip (.slot 4) (.slot 2)) [(.cmp .Eq (.slot 8) (.const (.int 2)))] [7, 8] ⟨[.hd 0, .sh (nI n), .sh (tN r), .sh (pos n r), .sh (.lst (tNs (prs n))), .un, .un, .un, .un, .un, .un, .un, .un, .un, .un, .un], om⟩ = .ok (.ow (.lst (tNs (freeL n r)))) ⟨[.hd 0, .sh (nI n), .sh (tN r), .sh (pos n r), .sh (.lst (tNs (prs n))), .un, .un, .un, .un, .un, .un, .un, .un, .un, .un, .un], om⟩ := by
  have hp := prs_le n P.n8
  have e0 : tNs (freeL n r) = (((prs n).zip r).filter fun x => decide (x.2 = 2)).map fun x => tN x.1 := by
    unfold freeL tNs
    rw [List.map_map]
    rfl
  rw [e0]
  refine lcRun_F (fun x => decide (x.2 = 2)) (fun x => tN x.1) (g := zE) (xs := (prs n).zip r) (s1 := ⟨[.hd 0, .sh (nI n), .sh (tN r), .sh (pos n r), .sh (.lst (tNs (prs n))), .un, .un, .un, .un, .un, .un, .un, .un, .un, .un, .un], om⟩) (s0 := ⟨[.hd 0, .sh (nI n), .sh (tN r), .sh (pos n r), .sh (.lst (tNs (prs n))), .un, .un, .un, .un, .un, .un, .un, .un, .un, .un, .un], om⟩) ?_ ?_ (sizeLine_big (by rw [List.length_zip]; omega)) ?_
  · simp -dsimp -implicitDefEqProofs [zipD_enc]
  · simp -dsimp -implicitDefEqProofs
  · intro x hx acc ha
    have i2 : ((x.2 : Int) = 2) = (x.2 = 2) := propext (by omega)
    refine lcTurn_eq (s1 := ⟨[.hd 0, .sh (nI n), .sh (tN r), .sh (pos n r), .sh (.lst (tNs (prs n))), .un, .un, .sh (tN x.1), .sh (nI x.2), .un, .un, .un, .un, .un, .un, .un], om⟩) _ _ ?_ ?_ ?_ ?_ ha
    · simp -dsimp -implicitDefEqProofs
    · simp -dsimp -implicitDefEqProofs [i2]
    · intro _
      simp -dsimp -implicitDefEqProofs
    · simp -dsimp -implicitDefEqProofs
theorem ti_A (d : Nat) (om : List D) : exSs (cl (d + 6)) flds exm tiA ⟨[.hd 0, .sh (nI n), .sh (tN r), .un, .un, .un, .un, .un, .un, .un, .un, .un, .un, .un, .un, .un], om⟩ = .nx ⟨[.hd 0, .sh (nI n), .sh (tN r), .sh (pos n r), .sh (.lst (tNs (prs n))), .ow (.lst (tNs (freeL n r))), .sh (nI t), .un, .un, .ow (.lst (toldT n r t)), .un, .un, .un, .un, .un, .un], om⟩ := by
  have lp := law_pairs (d + 5) n P.n8
  have lf := ti_free P (d + 6) om
  have lt := law_turn (d + 5) P
  have a1 := is_position P (d + 2)
  have a2 := to_play P d
  have a3 := free_pairs P d
  have a4 := empty_position (d + 2) P.n8
  have f4 : (4 : Nat) ≤ sizeLine := by decide
  simp -dsimp -implicitDefEqProofs [lp, lf, lt, a1, a2, a3, a4, toldT]
theorem fit_pair {p : List Nat} (h : ∀ x ∈ p, x < 10 ^ 40) (hl : p.length ≤ 3) : Fit 200 1 (tN p) := (fit_ns h hl).1.mono
theorem free_lt {p : List Nat} (h : p ∈ freeL n r) : ∀ x ∈ p, x < 8 := by
  obtain ⟨a, b, rfl, h1, h2⟩ := mem_prs.mp ((mem_free P).mp h).1
  have := P.n8
  intro x hx
  simp only [List.mem_cons, List.mem_nil_iff, or_false] at hx
  omega
theorem free_two {p : List Nat} (h : p ∈ freeL n r) : p.length = 2 := by
  obtain ⟨a, b, rfl, h1, h2⟩ := mem_prs.mp ((mem_free P).mp h).1
  rfl
theorem fit_pos {q : List Nat} (h : ∀ x ∈ q, x ≤ 2) (hl : q.length ≤ 21) : Fit 3000 2 (pos n q) := by
  refine Fit.mono (fit_tup (n := 910) (dep := 1) (m := 3) (fun d hd => ?_) (by simp)) (by omega) (by omega)
  simp only [List.mem_cons, List.mem_nil_iff, or_false] at hd
  have := P.n8
  rcases hd with rfl | rfl | rfl
  · exact (fit_nat (by omega)).mono
  · exact (fit_nat (i := 3) (by omega)).mono
  · exact (fit_ns (m := 21) (fun x hx => by have := h x hx; omega) hl).1.mono
theorem told_fit : Shown (.lst (toldT n r t)) := by
  have hp := prs_le n P.n8
  refine ⟨_, _, fit_lst (m := 4) (n := 5000) (dep := 2) (fun d hd => ?_) (by simp [toldT]), by omega, by omega⟩
  simp only [toldT, List.mem_cons, List.mem_nil_iff, or_false] at hd
  rcases hd with rfl | rfl | rfl | rfl
  · exact (fit_bl _).mono
  · have := P.t1
    split
    · exact (fit_nat (by omega)).mono
    · exact fit_non.mono
  · refine Fit.mono (fit_tup (n := 200) (dep := 1) (m := 21) (fun d hd => ?_) (by rw [tNs_length]; exact free_len P)) (by omega) (by omega)
    obtain ⟨p, hp, rfl⟩ := List.mem_map.mp hd
    exact fit_pair P (fun x hx => by have := free_lt P hp x hx; omega) (by rw [free_two P hp]; omega)
  · exact (fit_pos P (fun x hx => by rw [(List.mem_replicate.mp hx).2]; omega) (by rw [List.length_replicate]; omega)).mono
theorem ti_B (d : Nat) (om : List D) : ∃ c5, c5 = .ow (.lst (tNs (freeL n r))) ∧ exSs (cl d) flds exm tiB ⟨[.hd 0, .sh (nI n), .sh (tN r), .sh (pos n r), .sh (.lst (tNs (prs n))), .ow (.lst (tNs (freeL n r))), .sh (nI t), .un, .un, .ow (.lst (toldT n r t)), .un, .un, .un, .un, .un, .un], om⟩ = .nx ⟨[.hd 0, .sh (nI n), .sh (tN r), .sh (pos n r), .sh (.lst (tNs (prs n))), c5, .sh (nI t), .un, .un, .ow (.lst (toldT n r t)), .un, .un, .un, .un, .un, .un], om⟩ := by
  obtain ⟨x, e, ok⟩ := (told_fit P).repr
  have ef := free_iff P
  have m : binD .Mult (.tup [.int 2]) (.int ((prs n).length : Int)) = some (.sh (tN (List.replicate (prs n).length 2))) := by
    have z := mul_tup1 (.int 2) (prs n).length (by have := prs_le n P.n8; omega)
    rw [show List.replicate (prs n).length (D.int 2) = ns (List.replicate (prs n).length 2) from ns_replicate _ 2] at z
    exact z
  have s4 : (4 : Nat) ≤ sizeLine := by decide
  have s3 : (3 : Nat) ≤ sizeLine := by decide
  unfold toldT at e ⊢
  cases q : (freeL n r).isEmpty with
  | true =>
    have q3 : freeL n r = [] := List.isEmpty_iff.mp q
    rw [q] at ef
    rw [ef] at e ⊢
    simp only [Bool.not_true, Bool.false_eq_true, if_false] at e ⊢
    refine ⟨.ow (.lst (tNs (freeL n r))), rfl, ?_⟩
    simp -dsimp -implicitDefEqProofs [ne_nil_tNs, q, bi_len_lst, m, e, cmp_str_ne ok, s4, s3]
  | false =>
    rw [q] at ef
    rw [ef] at e ⊢
    simp only [Bool.not_false, if_true] at e ⊢
    refine ⟨.ow (.lst (tNs (freeL n r))), rfl, ?_⟩
    simp -dsimp -implicitDefEqProofs [ne_nil_tNs, q, bi_len_lst, m, e, cmp_str_ne ok, s4, s3]
end
end LW

set_option Elab.async false
set_option linter.all false
set_option maxRecDepth 100000
set_option maxHeartbeats 4000000
/-! KB: k96: _law_ties_right -/
namespace LW
open PySem L2 VM
theorem draws (d : Nat) : Draws (cl (d + 1)) 32 := fun c many p P h0 h1 hc => by
  obtain ⟨v, p', h2, h3, e⟩ := draw_ok (cm := cl d) (flds := flds) (exm := exm) P h0 h1 hc
  refine ⟨v, p', h2, h3, ?_⟩
  rw [call32]
  exact e
theorem mixed (d : Nat) {c : Nat} {p : D} (P : Pen c p) (xs : List D) (h1 : xs.length < 1000000) (hc : c < 900000000) : ∃ ys p', ys.Perm xs ∧ Pen (c + xs.length) p' ∧ cl (d + 2) 34 [.hd 0, .sh (.lst xs)] [p] = .ok (.sh (.lst ys)) [p'] := by
  obtain ⟨ys, p', a, b, e⟩ := mixed_ok (cm := cl (d + 1)) (flds := flds) (exm := exm) (draws d) P (src := .lst xs) (.inl rfl) h1 hc
  refine ⟨ys, p', a, b, ?_⟩
  rw [call34]
  exact e
section
variable {n : Nat} {r : List Nat} {t : Nat} (P : IsP n r t)
include P
theorem ti_lc (d : Nat) (p : List Nat) (x10 : C) (om : List D) : lcRun (cl d) (.ife (.cmp .Eq (.slot 11) (.slot 7)) (.slot 6) (.slot 12)) (.tp [(.nm 11), (.nm 12)]) (.zip (.slot 4) (.slot 2)) [] [11, 12] ⟨[.hd 0, .sh (nI n), .sh (tN r), .sh (pos n r), .sh (.lst (tNs (prs n))), .sh (.lst (tNs (freeL n r))), .sh (nI t), .sh (tN p), .un, .ow (.lst (toldT n r t)), x10, .un, .un, .un, .un, .un], om⟩ = .ok (.ow (.lst (ns (tiedL n r p t)))) ⟨[.hd 0, .sh (nI n), .sh (tN r), .sh (pos n r), .sh (.lst (tNs (prs n))), .sh (.lst (tNs (freeL n r))), .sh (nI t), .sh (tN p), .un, .ow (.lst (toldT n r t)), x10, .un, .un, .un, .un, .un], om⟩ := by
  have hp := prs_le n P.n8
  refine lcRun_M (f := fun x => some (if x.1 = p then t else x.2)) (enc := nI) (g := zE) (xs := (prs n).zip r) (s1 := ⟨[.hd 0, .sh (nI n), .sh (tN r), .sh (pos n r), .sh (.lst (tNs (prs n))), .sh (.lst (tNs (freeL n r))), .sh (nI t), .sh (tN p), .un, .ow (.lst (toldT n r t)), x10, .un, .un, .un, .un, .un], om⟩) (s0 := ⟨[.hd 0, .sh (nI n), .sh (tN r), .sh (pos n r), .sh (.lst (tNs (prs n))), .sh (.lst (tNs (freeL n r))), .sh (nI t), .sh (tN p), .un, .ow (.lst (toldT n r t)), x10, .un, .un, .un, .un, .un], om⟩) (mapO_some fun _ _ => rfl) ?_ ?_ (sizeLine_big (by rw [List.length_zip]; omega)) ?_
  · simp -dsimp -implicitDefEqProofs [zipD_enc]
  · simp -dsimp -implicitDefEqProofs
  · intro x hx y hy acc ha
    cases hy
    refine lcTurn_okk (s1 := ⟨[.hd 0, .sh (nI n), .sh (tN r), .sh (pos n r), .sh (.lst (tNs (prs n))), .sh (.lst (tNs (freeL n r))), .sh (nI t), .sh (tN p), .un, .ow (.lst (toldT n r t)), x10, .sh (tN x.1), .sh (nI x.2), .un, .un, .un], om⟩) (nI (if x.1 = p then t else x.2)) ?_ ?_ ?_ ha
    · simp -dsimp -implicitDefEqProofs
    · by_cases q : x.1 = p
      · simp -dsimp -implicitDefEqProofs [eqD_tN, q]
      · simp -dsimp -implicitDefEqProofs [eqD_tN, q]
    · simp -dsimp -implicitDefEqProofs
theorem tied_fit (p : List Nat) : Fit 3000 2 (pos n (tiedL n r p t)) := by
  refine fit_pos P (fun x hx => ?_) ?_
  · unfold tiedL at hx
    obtain ⟨⟨q, k⟩, hz, rfl⟩ := List.mem_map.mp hx
    have h1 := P.le k (List.of_mem_zip hz).2
    have h2 := P.t1
    show (if q = p then t else k) ≤ 2
    split <;> omega
  · unfold tiedL
    rw [List.length_map, List.length_zip]
    have := prs_le n P.n8
    omega
theorem ti_loop (d : Nat) {ys : List D} (hy : ∀ y ∈ ys, ∃ p, p ∈ freeL n r ∧ y = tN p) (om : List D) : ∃ y7 y10, (∀ d, y7 ≠ .ow d) ∧ forRun (cl (d + 7)) flds exm (.nm 7) tiL ys ⟨[.hd 0, .sh (nI n), .sh (tN r), .sh (pos n r), .sh (.lst (tNs (prs n))), .sh (.lst (tNs (freeL n r))), .sh (nI t), .un, .un, .ow (.lst (toldT n r t)), .un, .un, .un, .un, .un, .un], om⟩ = .nx ⟨[.hd 0, .sh (nI n), .sh (tN r), .sh (pos n r), .sh (.lst (tNs (prs n))), .sh (.lst (tNs (freeL n r))), .sh (nI t), y7, .un, .ow (.lst (toldT n r t)), y10, .un, .un, .un, .un, .un], om⟩ := by
  obtain ⟨I, hI⟩ := named (fun (_ : Nat) (s : S) => ∃ x7 x10, (∀ d, x7 ≠ .ow d) ∧ s = ⟨[.hd 0, .sh (nI n), .sh (tN r), .sh (pos n r), .sh (.lst (tNs (prs n))), .sh (.lst (tNs (freeL n r))), .sh (nI t), x7, .un, .ow (.lst (toldT n r t)), x10, .un, .un, .un, .un, .un], om⟩)
  obtain ⟨s', e, hs⟩ := forRun_nx (cm := cl (d + 7)) (flds := flds) (exm := exm) (g := .nm 7) (b := tiL) (ds := ys) I (s := ⟨[.hd 0, .sh (nI n), .sh (tN r), .sh (pos n r), .sh (.lst (tNs (prs n))), .sh (.lst (tNs (freeL n r))), .sh (nI t), .un, .un, .ow (.lst (toldT n r t)), .un, .un, .un, .un, .un, .un], om⟩) (by rw [hI]; exact ⟨.un, .un, (fun _ z => nomatch z), rfl⟩) (by
    intro k hk s hs
    rw [hI] at hs
    obtain ⟨x7, x10, _, rfl⟩ := hs
    obtain ⟨p, hp, ep⟩ := hy _ (List.getElem_mem hk)
    rw [ep]
    have lc := fun x10 => ti_lc P (d + 7) p x10 om
    have at' := after_tie P d (p := p) (by rw [free_two P hp]; omega) hp om
    obtain ⟨x, ex, ok⟩ := reprD_fit (tied_fit P p) (by omega) (by omega)
    have s3 : (3 : Nat) ≤ sizeLine := by decide
    simp -dsimp -implicitDefEqProofs [lc, at', bi_repr_tup, ex, cmp_str_ne ok, s3]
    rw [hI]
    exact ⟨.sh (tN p), _, (fun _ z => nomatch z), rfl⟩)
  rw [hI] at hs
  obtain ⟨y7, y10, h7, rfl⟩ := hs
  exact ⟨y7, y10, h7, e⟩
theorem ti_C (d : Nat) {c : Nat} {p : D} (PP : Pen c p) (hc : c < 100000) : ∃ p' y7 y10, Pen (c + 21) p' ∧ (∀ d, y7 ≠ .ow d) ∧ exSs (cl (d + 7)) flds exm tiC ⟨[.hd 0, .sh (nI n), .sh (tN r), .sh (pos n r), .sh (.lst (tNs (prs n))), .ow (.lst (tNs (freeL n r))), .sh (nI t), .un, .un, .ow (.lst (toldT n r t)), .un, .un, .un, .un, .un, .un], [p]⟩ = .nx ⟨[.hd 0, .sh (nI n), .sh (tN r), .sh (pos n r), .sh (.lst (tNs (prs n))), .sh (.lst (tNs (freeL n r))), .sh (nI t), y7, .un, .ow (.lst (toldT n r t)), y10, .un, .un, .un, .un, .un], [p']⟩ := by
  obtain ⟨ys, p', h1, h2, e⟩ := mixed (d + 5) PP (tNs (freeL n r)) (by rw [tNs_length]; have := free_len P; omega) (by omega)
  have hy : ∀ y ∈ ys.take 3, ∃ p, p ∈ freeL n r ∧ y = tN p := fun y hy => by
    have := h1.subset (List.mem_of_mem_take hy)
    obtain ⟨p, hp, rfl⟩ := List.mem_map.mp this
    exact ⟨p, hp, rfl⟩
  obtain ⟨y7, y10, h7, e2⟩ := ti_loop P d hy [p']
  refine ⟨p', y7, y10, h2.mono (by rw [tNs_length]; have := free_len P; omega), h7, ?_⟩
  simp -dsimp -implicitDefEqProofs [e, cut3, e2]
theorem ti_taken (d : Nat) (y7 y10 : C) (om : List D) (hy : ∀ d, y7 ≠ .ow d) : lcRun (cl d) (.slot 7) (.tp [(.nm 7), (.nm 8)]) (.zip (.slot 4) (.slot 2)) [(.cmp .NotEq (.slot 8) (.const (.int 2)))] [7, 8] ⟨[.hd 0, .sh (nI n), .sh (tN r), .sh (pos n r), .sh (.lst (tNs (prs n))), .sh (.lst (tNs (freeL n r))), .sh (nI t), y7, .un, .ow (.lst (toldT n r t)), y10, .un, .un, .un, .un, .un], om⟩ = .ok (.ow (.lst (tNs (takenL n r)))) ⟨[.hd 0, .sh (nI n), .sh (tN r), .sh (pos n r), .sh (.lst (tNs (prs n))), .sh (.lst (tNs (freeL n r))), .sh (nI t), y7, .un, .ow (.lst (toldT n r t)), y10, .un, .un, .un, .un, .un], om⟩ := by
  have hp := prs_le n P.n8
  have e0 : tNs (takenL n r) = (((prs n).zip r).filter fun x => !decide (x.2 = 2)).map fun x => tN x.1 := by
    unfold takenL tNs
    rw [List.map_map]
    rfl
  have sh : shareAll ⟨[.hd 0, .sh (nI n), .sh (tN r), .sh (pos n r), .sh (.lst (tNs (prs n))), .sh (.lst (tNs (freeL n r))), .sh (nI t), y7, .un, .ow (.lst (toldT n r t)), y10, .un, .un, .un, .un, .un], om⟩ [7, 8] = ⟨[.hd 0, .sh (nI n), .sh (tN r), .sh (pos n r), .sh (.lst (tNs (prs n))), .sh (.lst (tNs (freeL n r))), .sh (nI t), y7, .un, .ow (.lst (toldT n r t)), y10, .un, .un, .un, .un, .un], om⟩ := by
    simp -dsimp -implicitDefEqProofs
  rw [e0]
  have key := lcRun_F (cm := cl d) (e := .slot 7) (tg := .tp [(.nm 7), (.nm 8)]) (it := .zip (.slot 4) (.slot 2)) (ifs := [(.cmp .NotEq (.slot 8) (.const (.int 2)))]) (vs := [7, 8]) (s := ⟨[.hd 0, .sh (nI n), .sh (tN r), .sh (pos n r), .sh (.lst (tNs (prs n))), .sh (.lst (tNs (freeL n r))), .sh (nI t), y7, .un, .ow (.lst (toldT n r t)), y10, .un, .un, .un, .un, .un], om⟩) (fun x => !decide (x.2 = 2)) (fun x => tN x.1) (g := zE) (xs := (prs n).zip r) (s1 := ⟨[.hd 0, .sh (nI n), .sh (tN r), .sh (pos n r), .sh (.lst (tNs (prs n))), .sh (.lst (tNs (freeL n r))), .sh (nI t), y7, .un, .ow (.lst (toldT n r t)), y10, .un, .un, .un, .un, .un], om⟩) (s0 := ⟨[.hd 0, .sh (nI n), .sh (tN r), .sh (pos n r), .sh (.lst (tNs (prs n))), .sh (.lst (tNs (freeL n r))), .sh (nI t), .un, .un, .ow (.lst (toldT n r t)), y10, .un, .un, .un, .un, .un], om⟩) (by simp -dsimp -implicitDefEqProofs [zipD_enc]) (by rw [sh]; simp -dsimp -implicitDefEqProofs) (sizeLine_big (by rw [List.length_zip]; omega)) (by
    intro x hx acc ha
    have i2 : ((x.2 : Int) = 2) = (x.2 = 2) := propext (by omega)
    refine lcTurn_eq (s1 := ⟨[.hd 0, .sh (nI n), .sh (tN r), .sh (pos n r), .sh (.lst (tNs (prs n))), .sh (.lst (tNs (freeL n r))), .sh (nI t), .sh (tN x.1), .sh (nI x.2), .ow (.lst (toldT n r t)), y10, .un, .un, .un, .un, .un], om⟩) _ _ ?_ ?_ ?_ ?_ ha
    · simp -dsimp -implicitDefEqProofs
    · simp -dsimp -implicitDefEqProofs [i2]
    · intro _
      simp -dsimp -implicitDefEqProofs
    · simp -dsimp -implicitDefEqProofs)
  rw [key, sh]
  simp -dsimp -implicitDefEqProofs
theorem ti_D (d : Nat) (y7 y10 : C) (om : List D) (hy : ∀ d, y7 ≠ .ow d) : exSs (cl d) flds exm tiD ⟨[.hd 0, .sh (nI n), .sh (tN r), .sh (pos n r), .sh (.lst (tNs (prs n))), .sh (.lst (tNs (freeL n r))), .sh (nI t), y7, .un, .ow (.lst (toldT n r t)), y10, .un, .un, .un, .un, .un], om⟩ = .nx ⟨[.hd 0, .sh (nI n), .sh (tN r), .sh (pos n r), .sh (.lst (tNs (prs n))), .sh (.lst (tNs (freeL n r))), .sh (nI t), y7, .un, .ow (.lst (toldT n r t)), y10, .un, .un, .ow (.lst (tNs (takenL n r))), .un, .un], om⟩ := by
  have e := ti_taken P d y7 y10 om hy
  simp -dsimp -implicitDefEqProofs [e]
/-- values that are no free pair -/
def OddP (n : Nat) (r : List Nat) (x : D) : Prop := (∃ p : List Nat, x = tN p ∧ p ∉ freeL n r ∧ p.length ≤ 3 ∧ ∀ y ∈ p, y < 100) ∨ (tyD x .tuple = some false ∧ lkV x = .val x ∧ Fit 300 2 x) ∨ ∃ b, b < 100 ∧ x = .tup [.bl false, nI b]
omit P in
def odd1 (n : Nat) : List D := [.non, .tup [], .tup [.int 0, .int 0], .tup [.int 1, .int 0], .tup [.int 0, nI n], .tup [.int 0], .int 5, .str ⟨#[48, 49]⟩]
omit P in
def oddA (n : Nat) (r : List Nat) : List D := odd1 n ++ tNs ((takenL n r).take 3) ++ (((freeL n r).take 1).filter fun _ => true).map fun p => .lst (ns p)
omit P in
def oddB (n : Nat) (r : List Nat) : List D := oddA n r ++ (((freeL n r).take 1).filter fun _ => true).map (fun p => tN (p ++ [0])) ++ (((freeL n r).take 1).filter fun p => decide (p.getD 0 0 = 0)).map fun p => .tup [.bl false, nI (p.getD 1 0)]
theorem ti_l1 (d : Nat) (y7 y10 c14 : C) (om : List D) (hy : ∀ d, y7 ≠ .ow d) : lcRun (cl d) (.bi .list1 [(.slot 7)]) (.nm 7) (.seq (.slc (.slot 5) none (some (.const (.int 1))))) [] [7] ⟨[.hd 0, .sh (nI n), .sh (tN r), .sh (pos n r), .sh (.lst (tNs (prs n))), .sh (.lst (tNs (freeL n r))), .sh (nI t), y7, .un, .ow (.lst (toldT n r t)), y10, .un, .un, .ow (.lst (tNs (takenL n r))), c14, .un], om⟩ = .ok (.ow (.lst ((((freeL n r).take 1).filter fun _ => true).map fun p => .lst (ns p)))) ⟨[.hd 0, .sh (nI n), .sh (tN r), .sh (pos n r), .sh (.lst (tNs (prs n))), .sh (.lst (tNs (freeL n r))), .sh (nI t), y7, .un, .ow (.lst (toldT n r t)), y10, .un, .un, .ow (.lst (tNs (takenL n r))), c14, .un], om⟩ := by
  have sh : shareAll ⟨[.hd 0, .sh (nI n), .sh (tN r), .sh (pos n r), .sh (.lst (tNs (prs n))), .sh (.lst (tNs (freeL n r))), .sh (nI t), y7, .un, .ow (.lst (toldT n r t)), y10, .un, .un, .ow (.lst (tNs (takenL n r))), c14, .un], om⟩ [7] = ⟨[.hd 0, .sh (nI n), .sh (tN r), .sh (pos n r), .sh (.lst (tNs (prs n))), .sh (.lst (tNs (freeL n r))), .sh (nI t), y7, .un, .ow (.lst (toldT n r t)), y10, .un, .un, .ow (.lst (tNs (takenL n r))), c14, .un], om⟩ := by
    simp -dsimp -implicitDefEqProofs
  have key := lcRun_F (cm := cl d) (e := .bi .list1 [(.slot 7)]) (tg := .nm 7) (it := .seq (.slc (.slot 5) none (some (.const (.int 1))))) (ifs := []) (vs := [7]) (s := ⟨[.hd 0, .sh (nI n), .sh (tN r), .sh (pos n r), .sh (.lst (tNs (prs n))), .sh (.lst (tNs (freeL n r))), .sh (nI t), y7, .un, .ow (.lst (toldT n r t)), y10, .un, .un, .ow (.lst (tNs (takenL n r))), c14, .un], om⟩) (fun _ => true) (fun p => .lst (ns p)) (g := tN) (xs := (freeL n r).take 1) (s1 := ⟨[.hd 0, .sh (nI n), .sh (tN r), .sh (pos n r), .sh (.lst (tNs (prs n))), .sh (.lst (tNs (freeL n r))), .sh (nI t), y7, .un, .ow (.lst (toldT n r t)), y10, .un, .un, .ow (.lst (tNs (takenL n r))), c14, .un], om⟩) (s0 := ⟨[.hd 0, .sh (nI n), .sh (tN r), .sh (pos n r), .sh (.lst (tNs (prs n))), .sh (.lst (tNs (freeL n r))), .sh (nI t), .un, .un, .ow (.lst (toldT n r t)), y10, .un, .un, .ow (.lst (tNs (takenL n r))), c14, .un], om⟩) (by simp -dsimp -implicitDefEqProofs [cut1, take_tNs]; exact (take_tNs _ 1).symm) (by rw [sh]; simp -dsimp -implicitDefEqProofs) (sizeLine_big (by rw [List.length_take]; omega)) (by
    intro p hp acc ha
    have hf := List.mem_of_mem_take hp
    obtain ⟨a, b, rfl, hab, hb⟩ := mem_prs.mp ((mem_free P).mp hf).1
    refine lcTurn_eq (s1 := ⟨[.hd 0, .sh (nI n), .sh (tN r), .sh (pos n r), .sh (.lst (tNs (prs n))), .sh (.lst (tNs (freeL n r))), .sh (nI t), .sh (tN [a, b]), .un, .ow (.lst (toldT n r t)), y10, .un, .un, .ow (.lst (tNs (takenL n r))), c14, .un], om⟩) _ _ ?_ ?_ ?_ ?_ ha
    · simp -dsimp -implicitDefEqProofs
    · simp -dsimp -implicitDefEqProofs
    · intro _
      simp -dsimp -implicitDefEqProofs
    · simp -dsimp -implicitDefEqProofs)
  rw [key, sh]
  simp -dsimp -implicitDefEqProofs
theorem ti_l2 (d : Nat) (y7 y10 c14 : C) (om : List D) (hy : ∀ d, y7 ≠ .ow d) : lcRun (cl d) (.bin .Add (.slot 7) (.tup [(.const (.int 0))])) (.nm 7) (.seq (.slc (.slot 5) none (some (.const (.int 1))))) [] [7] ⟨[.hd 0, .sh (nI n), .sh (tN r), .sh (pos n r), .sh (.lst (tNs (prs n))), .sh (.lst (tNs (freeL n r))), .sh (nI t), y7, .un, .ow (.lst (toldT n r t)), y10, .un, .un, .ow (.lst (tNs (takenL n r))), c14, .un], om⟩ = .ok (.ow (.lst ((((freeL n r).take 1).filter fun _ => true).map fun p => tN (p ++ [0])))) ⟨[.hd 0, .sh (nI n), .sh (tN r), .sh (pos n r), .sh (.lst (tNs (prs n))), .sh (.lst (tNs (freeL n r))), .sh (nI t), y7, .un, .ow (.lst (toldT n r t)), y10, .un, .un, .ow (.lst (tNs (takenL n r))), c14, .un], om⟩ := by
  have sh : shareAll ⟨[.hd 0, .sh (nI n), .sh (tN r), .sh (pos n r), .sh (.lst (tNs (prs n))), .sh (.lst (tNs (freeL n r))), .sh (nI t), y7, .un, .ow (.lst (toldT n r t)), y10, .un, .un, .ow (.lst (tNs (takenL n r))), c14, .un], om⟩ [7] = ⟨[.hd 0, .sh (nI n), .sh (tN r), .sh (pos n r), .sh (.lst (tNs (prs n))), .sh (.lst (tNs (freeL n r))), .sh (nI t), y7, .un, .ow (.lst (toldT n r t)), y10, .un, .un, .ow (.lst (tNs (takenL n r))), c14, .un], om⟩ := by
    simp -dsimp -implicitDefEqProofs
  have key := lcRun_F (cm := cl d) (e := .bin .Add (.slot 7) (.tup [(.const (.int 0))])) (tg := .nm 7) (it := .seq (.slc (.slot 5) none (some (.const (.int 1))))) (ifs := []) (vs := [7]) (s := ⟨[.hd 0, .sh (nI n), .sh (tN r), .sh (pos n r), .sh (.lst (tNs (prs n))), .sh (.lst (tNs (freeL n r))), .sh (nI t), y7, .un, .ow (.lst (toldT n r t)), y10, .un, .un, .ow (.lst (tNs (takenL n r))), c14, .un], om⟩) (fun _ => true) (fun p => tN (p ++ [0])) (g := tN) (xs := (freeL n r).take 1) (s1 := ⟨[.hd 0, .sh (nI n), .sh (tN r), .sh (pos n r), .sh (.lst (tNs (prs n))), .sh (.lst (tNs (freeL n r))), .sh (nI t), y7, .un, .ow (.lst (toldT n r t)), y10, .un, .un, .ow (.lst (tNs (takenL n r))), c14, .un], om⟩) (s0 := ⟨[.hd 0, .sh (nI n), .sh (tN r), .sh (pos n r), .sh (.lst (tNs (prs n))), .sh (.lst (tNs (freeL n r))), .sh (nI t), .un, .un, .ow (.lst (toldT n r t)), y10, .un, .un, .ow (.lst (tNs (takenL n r))), c14, .un], om⟩) (by simp -dsimp -implicitDefEqProofs [cut1, take_tNs]; exact (take_tNs _ 1).symm) (by rw [sh]; simp -dsimp -implicitDefEqProofs) (sizeLine_big (by rw [List.length_take]; omega)) (by
    intro p hp acc ha
    have hf := List.mem_of_mem_take hp
    obtain ⟨a, b, rfl, hab, hb⟩ := mem_prs.mp ((mem_free P).mp hf).1
    refine lcTurn_eq (s1 := ⟨[.hd 0, .sh (nI n), .sh (tN r), .sh (pos n r), .sh (.lst (tNs (prs n))), .sh (.lst (tNs (freeL n r))), .sh (nI t), .sh (tN [a, b]), .un, .ow (.lst (toldT n r t)), y10, .un, .un, .ow (.lst (tNs (takenL n r))), c14, .un], om⟩) _ _ ?_ ?_ ?_ ?_ ha
    · simp -dsimp -implicitDefEqProofs
    · simp -dsimp -implicitDefEqProofs
    · intro _
      have e0 : binD .Add (.tup (ns [a, b])) (.tup [.int 0]) = some (.sh (.tup (ns ([a, b] ++ [0])))) := by rw [ns_append]; exact add_tup (by simp)
      have s1 : (1 : Nat) ≤ sizeLine := by decide
      simp -dsimp -implicitDefEqProofs [e0, s1]
    · simp -dsimp -implicitDefEqProofs)
  rw [key, sh]
  simp -dsimp -implicitDefEqProofs
theorem ti_l3 (d : Nat) (y7 y10 c14 : C) (om : List D) (hy : ∀ d, y7 ≠ .ow d) : lcRun (cl d) (.tup [(.const (.bl false)), (.idx (.slot 7) (.const (.int 1)))]) (.nm 7) (.seq (.slc (.slot 5) none (some (.const (.int 1))))) [(.cmp .Eq (.idx (.slot 7) (.const (.int 0))) (.const (.int 0)))] [7] ⟨[.hd 0, .sh (nI n), .sh (tN r), .sh (pos n r), .sh (.lst (tNs (prs n))), .sh (.lst (tNs (freeL n r))), .sh (nI t), y7, .un, .ow (.lst (toldT n r t)), y10, .un, .un, .ow (.lst (tNs (takenL n r))), c14, .un], om⟩ = .ok (.ow (.lst ((((freeL n r).take 1).filter fun p => decide (p.getD 0 0 = 0)).map fun p => .tup [.bl false, nI (p.getD 1 0)]))) ⟨[.hd 0, .sh (nI n), .sh (tN r), .sh (pos n r), .sh (.lst (tNs (prs n))), .sh (.lst (tNs (freeL n r))), .sh (nI t), y7, .un, .ow (.lst (toldT n r t)), y10, .un, .un, .ow (.lst (tNs (takenL n r))), c14, .un], om⟩ := by
  have sh : shareAll ⟨[.hd 0, .sh (nI n), .sh (tN r), .sh (pos n r), .sh (.lst (tNs (prs n))), .sh (.lst (tNs (freeL n r))), .sh (nI t), y7, .un, .ow (.lst (toldT n r t)), y10, .un, .un, .ow (.lst (tNs (takenL n r))), c14, .un], om⟩ [7] = ⟨[.hd 0, .sh (nI n), .sh (tN r), .sh (pos n r), .sh (.lst (tNs (prs n))), .sh (.lst (tNs (freeL n r))), .sh (nI t), y7, .un, .ow (.lst (toldT n r t)), y10, .un, .un, .ow (.lst (tNs (takenL n r))), c14, .un], om⟩ := by
    simp -dsimp -implicitDefEqProofs
  have key := lcRun_F (cm := cl d) (e := .tup [(.const (.bl false)), (.idx (.slot 7) (.const (.int 1)))]) (tg := .nm 7) (it := .seq (.slc (.slot 5) none (some (.const (.int 1))))) (ifs := [(.cmp .Eq (.idx (.slot 7) (.const (.int 0))) (.const (.int 0)))]) (vs := [7]) (s := ⟨[.hd 0, .sh (nI n), .sh (tN r), .sh (pos n r), .sh (.lst (tNs (prs n))), .sh (.lst (tNs (freeL n r))), .sh (nI t), y7, .un, .ow (.lst (toldT n r t)), y10, .un, .un, .ow (.lst (tNs (takenL n r))), c14, .un], om⟩) (fun p => decide (p.getD 0 0 = 0)) (fun p => .tup [.bl false, nI (p.getD 1 0)]) (g := tN) (xs := (freeL n r).take 1) (s1 := ⟨[.hd 0, .sh (nI n), .sh (tN r), .sh (pos n r), .sh (.lst (tNs (prs n))), .sh (.lst (tNs (freeL n r))), .sh (nI t), y7, .un, .ow (.lst (toldT n r t)), y10, .un, .un, .ow (.lst (tNs (takenL n r))), c14, .un], om⟩) (s0 := ⟨[.hd 0, .sh (nI n), .sh (tN r), .sh (pos n r), .sh (.lst (tNs (prs n))), .sh (.lst (tNs (freeL n r))), .sh (nI t), .un, .un, .ow (.lst (toldT n r t)), y10, .un, .un, .ow (.lst (tNs (takenL n r))), c14, .un], om⟩) (by simp -dsimp -implicitDefEqProofs [cut1, take_tNs]; exact (take_tNs _ 1).symm) (by rw [sh]; simp -dsimp -implicitDefEqProofs) (sizeLine_big (by rw [List.length_take]; omega)) (by
    intro p hp acc ha
    have hf := List.mem_of_mem_take hp
    obtain ⟨a, b, rfl, hab, hb⟩ := mem_prs.mp ((mem_free P).mp hf).1
    refine lcTurn_eq (s1 := ⟨[.hd 0, .sh (nI n), .sh (tN r), .sh (pos n r), .sh (.lst (tNs (prs n))), .sh (.lst (tNs (freeL n r))), .sh (nI t), .sh (tN [a, b]), .un, .ow (.lst (toldT n r t)), y10, .un, .un, .ow (.lst (tNs (takenL n r))), c14, .un], om⟩) _ _ ?_ ?_ ?_ ?_ ha
    · simp -dsimp -implicitDefEqProofs
    · have i2 : ((a : Int) = 0) = (a = 0) := propext (by omega)
      simp -dsimp -implicitDefEqProofs [idx_tN0, i2]
    · intro _
      have s2 : (2 : Nat) ≤ sizeLine := by decide
      simp -dsimp -implicitDefEqProofs [idx_tN1, s2]
    · simp -dsimp -implicitDefEqProofs)
  rw [key, sh]
  simp -dsimp -implicitDefEqProofs
end
end LW

set_option Elab.async false
set_option linter.all false
set_option maxRecDepth 100000
set_option maxHeartbeats 4000000
/-! KC: k96: _law_ties_right, its end -/
namespace LW
open PySem L2 VM
section
variable {n : Nat} {r : List Nat} {t : Nat} (P : IsP n r t)
include P
theorem ti_E (d : Nat) (y7 y10 : C) (om : List D) (hy : ∀ d, y7 ≠ .ow d) : exSs (cl d) flds exm tiE ⟨[.hd 0, .sh (nI n), .sh (tN r), .sh (pos n r), .sh (.lst (tNs (prs n))), .sh (.lst (tNs (freeL n r))), .sh (nI t), y7, .un, .ow (.lst (toldT n r t)), y10, .un, .un, .ow (.lst (tNs (takenL n r))), .un, .un], om⟩ = .nx ⟨[.hd 0, .sh (nI n), .sh (tN r), .sh (pos n r), .sh (.lst (tNs (prs n))), .sh (.lst (tNs (freeL n r))), .sh (nI t), y7, .un, .ow (.lst (toldT n r t)), y10, .un, .un, .ow (.lst (tNs (takenL n r))), .ow (.lst (oddA n r)), .un], om⟩ := by
  have e := ti_l1 P d y7 y10 .un om hy
  have s8 : (8 : Nat) ≤ sizeLine := by decide
  have s2 : (2 : Nat) ≤ sizeLine := by decide
  have s1 : (1 : Nat) ≤ sizeLine := by decide
  have s0 : (0 : Nat) ≤ sizeLine := by decide
  have l1 : (odd1 n).length = 8 := rfl
  have a1 := add_lst (xs := odd1 n) (ys := tNs ((takenL n r).take 3)) (by rw [l1, tNs_length, List.length_take]; omega)
  have a2 := add_lst (xs := odd1 n ++ tNs ((takenL n r).take 3)) (ys := (((freeL n r).take 1).filter fun _ => true).map fun p => .lst (ns p)) (by rw [List.length_append, l1, tNs_length, List.length_take, List.length_map]; have := List.length_filter_le (fun _ => true) ((freeL n r).take 1); rw [List.length_take] at this; omega)
  unfold odd1 at a1 a2
  unfold oddA odd1
  generalize ((((freeL n r).take 1).filter fun _ => true).map fun p => D.lst (ns p)) = LA at e a2 ⊢
  simp only [List.cons_append, List.nil_append, List.append_assoc] at a1 a2
  simp -dsimp -implicitDefEqProofs [e, cut3, take_tNs, s8, s2, s1, s0, a1, a2]
theorem oddA_len : (oddA n r).length ≤ 12 := by
  unfold oddA
  have l1 : (odd1 n).length = 8 := rfl
  rw [List.length_append, List.length_append, l1, tNs_length, List.length_take, List.length_map]
  have := List.length_filter_le (fun _ => true) ((freeL n r).take 1)
  rw [List.length_take] at this
  omega
theorem ti_F (d : Nat) (y7 y10 : C) (om : List D) (hy : ∀ d, y7 ≠ .ow d) : exSs (cl d) flds exm tiF ⟨[.hd 0, .sh (nI n), .sh (tN r), .sh (pos n r), .sh (.lst (tNs (prs n))), .sh (.lst (tNs (freeL n r))), .sh (nI t), y7, .un, .ow (.lst (toldT n r t)), y10, .un, .un, .ow (.lst (tNs (takenL n r))), .ow (.lst (oddA n r)), .un], om⟩ = .nx ⟨[.hd 0, .sh (nI n), .sh (tN r), .sh (pos n r), .sh (.lst (tNs (prs n))), .sh (.lst (tNs (freeL n r))), .sh (nI t), y7, .un, .ow (.lst (toldT n r t)), y10, .un, .un, .ow (.lst (tNs (takenL n r))), .ow (.lst (oddB n r)), .un], om⟩ := by
  have e2 := ti_l2 P d y7 y10 (.ow (.lst (oddA n r))) om hy
  have e3 := ti_l3 P d y7 y10 (.ow (.lst (oddA n r))) om hy
  have hl := oddA_len P
  have f1 := List.length_filter_le (fun _ => true) ((freeL n r).take 1)
  rw [List.length_take] at f1
  have f2 := List.length_filter_le (fun p : List Nat => decide (p.getD 0 0 = 0)) ((freeL n r).take 1)
  rw [List.length_take] at f2
  have a1 := add_lst (xs := oddA n r) (ys := (((freeL n r).take 1).filter fun _ => true).map fun p => tN (p ++ [0])) (by rw [List.length_map]; omega)
  have a2 := add_lst (xs := oddA n r ++ (((freeL n r).take 1).filter fun _ => true).map fun p => tN (p ++ [0])) (ys := (((freeL n r).take 1).filter fun p => decide (p.getD 0 0 = 0)).map fun p => .tup [.bl false, nI (p.getD 1 0)]) (by rw [List.length_append, List.length_map, List.length_map]; omega)
  unfold oddB
  generalize ((((freeL n r).take 1).filter fun _ => true).map fun p => tN (p ++ [0])) = LB at e2 a1 a2 ⊢
  generalize ((((freeL n r).take 1).filter fun p => decide (p.getD 0 0 = 0)).map fun p => D.tup [.bl false, nI (p.getD 1 0)]) = LC at e3 a2 ⊢
  simp -dsimp -implicitDefEqProofs [-List.append_assoc, e2, e3, a1, a2]
theorem odd_all : ∀ x ∈ oddB n r, OddP n r x := by
  have nf : ∀ p : List Nat, (¬ ∃ a b, p = [a, b] ∧ a < b ∧ b < n) → p ∉ freeL n r := fun p h z => h (mem_prs.mp ((mem_free P).mp z).1)
  have n8 := P.n8
  intro x hx
  unfold oddB oddA at hx
  rcases List.mem_append.mp hx with hx | hx
  · rcases List.mem_append.mp hx with hx | hx
    · rcases List.mem_append.mp hx with hx | hx
      · rcases List.mem_append.mp hx with hx | hx
        · unfold odd1 at hx
          simp only [List.mem_cons, List.mem_nil_iff, or_false] at hx
          rcases hx with rfl | rfl | rfl | rfl | rfl | rfl | rfl | rfl
          · exact .inr (.inl ⟨rfl, rfl, fit_non.mono⟩)
          · exact .inl ⟨[], rfl, nf _ (by rintro ⟨a, b, h, _⟩; cases h), by simp, by simp⟩
          · exact .inl ⟨[0, 0], rfl, nf _ (by rintro ⟨a, b, h, h1, h2⟩; injection h with h3 h4; injection h4 with h4 _; omega), by simp, by simp⟩
          · exact .inl ⟨[1, 0], rfl, nf _ (by rintro ⟨a, b, h, h1, h2⟩; injection h with h3 h4; injection h4 with h4 _; omega), by simp, by simp⟩
          · exact .inl ⟨[0, n], rfl, nf _ (by rintro ⟨a, b, h, h1, h2⟩; injection h with h3 h4; injection h4 with h4 _; omega), by simp, by simp; omega⟩
          · exact .inl ⟨[0], rfl, nf _ (by rintro ⟨a, b, h, h1, h2⟩; injection h with h3 h4; cases h4), by simp, by simp⟩
          · exact .inr (.inl ⟨rfl, rfl, (fit_nat (i := 5) (by omega)).mono⟩)
          · refine .inr (.inl ⟨rfl, rfl, Fit.mono (n := 22) (dep := 0) (fit_str (x := ⟨#[48, 49]⟩) (by decide) (by unfold sOk; decide +kernel)) (by omega) (by omega)⟩)
        · obtain ⟨p, hp, rfl⟩ := List.mem_map.mp hx
          obtain ⟨h1, h2⟩ := mem_taken P (List.mem_of_mem_take hp)
          obtain ⟨a, b, rfl, h3, h4⟩ := mem_prs.mp h1
          exact .inl ⟨[a, b], rfl, fun z => h2 ((mem_free P).mp z).2, by simp, by simp; omega⟩
      · obtain ⟨p, hp, rfl⟩ := List.mem_map.mp hx
        have hf := List.mem_of_mem_take (List.mem_filter.mp hp).1
        have := free_two P hf
        exact .inr (.inl ⟨rfl, rfl, ((fit_ns (m := 3) (fun x hx => by have := free_lt P hf x hx; omega) (by omega)).2).mono⟩)
    · obtain ⟨p, hp, rfl⟩ := List.mem_map.mp hx
      have hf := List.mem_of_mem_take (List.mem_filter.mp hp).1
      have h2 := free_two P hf
      refine .inl ⟨p ++ [0], rfl, nf _ ?_, by simp [h2], fun y hy => ?_⟩
      · rintro ⟨a, b, h, _⟩
        have := congrArg List.length h
        simp [h2] at this
      · rcases List.mem_append.mp hy with hy | hy
        · have := free_lt P hf y hy; omega
        · rw [List.mem_singleton.mp hy]; omega
  · obtain ⟨p, hp, rfl⟩ := List.mem_map.mp hx
    have hf := List.mem_of_mem_take (List.mem_filter.mp hp).1
    obtain ⟨a, b, rfl, h3, h4⟩ := mem_prs.mp ((mem_free P).mp hf).1
    exact .inr (.inr ⟨b, by omega, rfl⟩)
theorem odd_run {x : D} (h : OddP n r x) (d : Nat) (om : List D) : cl (d + 7) 22 [.sh (pos n r), .sh x] om = .exc 4 [(kPromise, .str sFree), (kWitness, x)] om := by
  rw [call22]
  rcases h with ⟨p, rfl, h1, h2, _⟩ | ⟨h1, h2, _⟩ | ⟨b, _, rfl⟩
  · have := fun om => need_free_no P d (p := p) (by omega) h1 om
    simp -dsimp -implicitDefEqProofs [B22, this]
  · have := fun om => need_free_ty P d h1 h2 om
    simp -dsimp -implicitDefEqProofs [B22, this]
  · have := fun om => need_free_bl P d b om
    simp -dsimp -implicitDefEqProofs [B22, this]
theorem odd_fit {x : D} (h : OddP n r x) : Fit 300 2 x := by
  rcases h with ⟨p, rfl, _, h2, h3⟩ | ⟨_, _, h⟩ | ⟨b, hb, rfl⟩
  · exact (fit_ns (m := 3) (fun x hx => by have := h3 x hx; omega) h2).1.mono
  · exact h
  · refine Fit.mono (fit_tup (n := 41) (dep := 0) (m := 2) (fun d hd => ?_) (by simp)) (by omega) (by omega)
    simp only [List.mem_cons, List.mem_nil_iff, or_false] at hd
    rcases hd with rfl | rfl
    · exact (fit_bl _).mono
    · exact fit_nat (by omega)
theorem odd_repr {x : D} (h : OddP n r x) : ∃ y, biD .repr [.tup [.str sNot, .str sFree, x]] = some (.sh (.str y)) ∧ sOk y := by
  refine reprD_fit (n := 1000) (dep := 3) (Fit.mono (fit_tup (n := 300) (dep := 2) (m := 3) (fun d hd => ?_) (by simp)) (by omega) (by omega)) (by omega) (by omega)
  simp only [List.mem_cons, List.mem_nil_iff, or_false] at hd
  rcases hd with rfl | rfl | rfl
  · exact Fit.mono (n := 10 * sNot.length + 2) (fit_str (by decide) (by unfold sOk; decide +kernel)) (by decide) (by omega)
  · exact Fit.mono (n := 10 * sFree.length + 2) (fit_str (by decide) (by unfold sOk; decide +kernel)) (by decide) (by omega)
  · exact odd_fit P h
theorem ti_M (d : Nat) {xs : List D} (hx : ∀ x ∈ xs, OddP n r x) (y7 y10 : C) (om : List D) : ∃ c15, forRun (cl (d + 7)) flds exm (.nm 15) tiM xs ⟨[.hd 0, .sh (nI n), .sh (tN r), .sh (pos n r), .sh (.lst (tNs (prs n))), .sh (.lst (tNs (freeL n r))), .sh (nI t), y7, .un, .ow (.lst (toldT n r t)), y10, .un, .un, .ow (.lst (tNs (takenL n r))), .sh (.lst (oddB n r)), .un], om⟩ = .nx ⟨[.hd 0, .sh (nI n), .sh (tN r), .sh (pos n r), .sh (.lst (tNs (prs n))), .sh (.lst (tNs (freeL n r))), .sh (nI t), y7, .un, .ow (.lst (toldT n r t)), y10, .un, .un, .ow (.lst (tNs (takenL n r))), .sh (.lst (oddB n r)), c15], om⟩ := by
  obtain ⟨I, hI⟩ := named (fun (_ : Nat) (s : S) => ∃ c15, s = ⟨[.hd 0, .sh (nI n), .sh (tN r), .sh (pos n r), .sh (.lst (tNs (prs n))), .sh (.lst (tNs (freeL n r))), .sh (nI t), y7, .un, .ow (.lst (toldT n r t)), y10, .un, .un, .ow (.lst (tNs (takenL n r))), .sh (.lst (oddB n r)), c15], om⟩)
  obtain ⟨s', e, hs⟩ := forRun_nx (cm := cl (d + 7)) (flds := flds) (exm := exm) (g := .nm 15) (b := tiM) (ds := xs) I (s := ⟨[.hd 0, .sh (nI n), .sh (tN r), .sh (pos n r), .sh (.lst (tNs (prs n))), .sh (.lst (tNs (freeL n r))), .sh (nI t), y7, .un, .ow (.lst (toldT n r t)), y10, .un, .un, .ow (.lst (tNs (takenL n r))), .sh (.lst (oddB n r)), .un], om⟩) (by rw [hI]; exact ⟨_, rfl⟩) (by
    intro k hk s hs
    rw [hI] at hs
    obtain ⟨c15, rfl⟩ := hs
    have ho := hx _ (List.getElem_mem hk)
    generalize xs[k] = x at ho
    have er := fun om => odd_run P ho d om
    obtain ⟨y, ey, ok⟩ := odd_repr P ho
    have s3 : (3 : Nat) ≤ sizeLine := by decide
    simp -dsimp -implicitDefEqProofs [er, met4, ey, cmp_str_ne ok, s3]
    rw [hI]
    exact ⟨_, rfl⟩)
  rw [hI] at hs
  obtain ⟨c15, rfl⟩ := hs
  exact ⟨c15, e⟩
theorem ties_right (d : Nat) {c : Nat} {p : D} (PP : Pen c p) (hc : c < 100000) : ∃ p', Pen (c + 21) p' ∧ cl (d + 8) 44 [.hd 0, .sh (nI n), .sh (tN r)] [p] = .ok (.sh (.bl true)) [p'] := by
  have eA := ti_A P (d + 1) [p]
  obtain ⟨c5, hc5, eB⟩ := ti_B P (d + 7) [p]
  obtain ⟨p', y7, y10, PP', hy, eC⟩ := ti_C P d PP hc
  have eD := ti_D P (d + 7) y7 y10 [p'] hy
  have eE := ti_E P (d + 7) y7 y10 [p'] hy
  have eF := ti_F P (d + 7) y7 y10 [p'] hy
  obtain ⟨c15, eM⟩ := ti_M P d (odd_all P) y7 y10 [p']
  refine ⟨p', PP', ?_⟩
  have hB : exSs (cl (d + 7)) flds exm tiC ⟨[.hd 0, .sh (nI n), .sh (tN r), .sh (pos n r), .sh (.lst (tNs (prs n))), c5, .sh (nI t), .un, .un, .ow (.lst (toldT n r t)), .un, .un, .un, .un, .un, .un], [p]⟩ = .nx ⟨[.hd 0, .sh (nI n), .sh (tN r), .sh (pos n r), .sh (.lst (tNs (prs n))), .sh (.lst (tNs (freeL n r))), .sh (nI t), y7, .un, .ow (.lst (toldT n r t)), y10, .un, .un, .un, .un, .un], [p']⟩ := by
    subst hc5
    exact eC
  rw [call44, b44_is]
  rw [if_pos (show [C.hd 0, .sh (nI n), .sh (tN r)].length = 3 from rfl), show ([C.hd 0, .sh (nI n), .sh (tN r)] ++ List.replicate 13 C.un) = [C.hd 0, .sh (nI n), .sh (tN r), .un, .un, .un, .un, .un, .un, .un, .un, .un, .un, .un, .un, .un] from rfl]
  rw [exSs_app, eA, SO.thn_nx, exSs_app, eB, SO.thn_nx, exSs_app, hB, SO.thn_nx, exSs_app, eD, SO.thn_nx, exSs_app, eE, SO.thn_nx, exSs_app, eF, SO.thn_nx]
  simp -dsimp -implicitDefEqProofs [eM]
end
end LW

set_option Elab.async false
set_option linter.all false
set_option maxRecDepth 100000
set_option maxHeartbeats 4000000
/-! KD: k96: _law_errors_right -/
namespace LW
open PySem L2 VM
abbrev OKL : List Nat := [0, 1, 2, 3, 4, 5, 6, 7, 8, 9, 10, 11, 12, 13, 14, 15, 16, 17, 18, 19, 20, 21, 22, 23, 24, 25, 26, 27, 28, 29, 30, 31, 32, 33, 34, 35, 36, 37, 38, 39, 40, 41, 43]
abbrev sBH : Str := ⟨#[66, 97, 100, 72, 117, 101, 105, 110, 103]⟩
abbrev sBN : Str := ⟨#[66, 97, 100, 78, 117, 109, 98, 101, 114]⟩
abbrev sBNm : Str := ⟨#[66, 97, 100, 78, 97, 109, 101]⟩
abbrev sM : Str := ⟨#[109]⟩
abbrev sNo : Str := ⟨#[110, 111]⟩
abbrev sPlaces : Str := ⟨#[112, 108, 97, 99, 101, 115]⟩
abbrev kHueing : Str := Str.ofString "hueing"
abbrev kName : Str := Str.ofString "name"
abbrev kWhat : Str := Str.ofString "what"
abbrev kNumber : Str := Str.ofString "number"
theorem flds3 : flds 3 = [kHueing] := rfl
theorem flds2 : flds 2 = [kName] := rfl
theorem flds1 : flds 1 = [kWhat, kNumber] := rfl
theorem met3 (x : D) (s : S) : metOf HS (.exc 3 [(kHueing, x)] s) = .ok (.sh (.tup [.str sBH, x])) s := by
  unfold metOf
  kernel_rfl
theorem met2 (x : D) (s : S) : metOf HS (.exc 2 [(kName, x)] s) = .ok (.sh (.tup [.str sBNm, x])) s := by
  unfold metOf
  kernel_rfl
theorem met1 (w x : D) (s : S) : metOf HS (.exc 1 [(kWhat, w), (kNumber, x)] s) = .ok (.sh (.tup [.str sBN, w, x])) s := by
  unfold metOf
  kernel_rfl
@[simp] theorem fn24 : fnAt OKL (.sh (.fn 24)) = some 24 := rfl
@[simp] theorem fn26 : fnAt OKL (.sh (.fn 26)) = some 26 := rfl
@[simp] theorem fn27 : fnAt OKL (.sh (.fn 27)) = some 27 := rfl
@[simp] theorem fn29 : fnAt OKL (.sh (.fn 29)) = some 29 := rfl
@[simp] theorem fn30 : fnAt OKL (.sh (.fn 30)) = some 30 := rfl
@[simp] theorem isnot_ff : cmpD .IsNot (.bl false) (.bl false) = some false := rfl
@[simp] theorem is_tt : cmpD .Is (.bl true) (.bl true) = some true := rfl
/-- shown, tested -/
def fitB (d : D) : Bool := match toP d with
  | some p => p.showable && decide (p.shown.length ≤ 300) && decide (p.depth ≤ 3) && p.shown.cps.toList.all fun c => decide (c < 0x110000)
  | none => false
theorem fitB_ok {d : D} (h : fitB d = true) : Fit 300 3 d := by
  unfold fitB at h
  cases q : toP d with
  | none => rw [q] at h; cases h
  | some p =>
    rw [q] at h
    have h : (p.showable && decide (p.shown.length ≤ 300) && decide (p.depth ≤ 3) && p.shown.cps.toList.all fun c => decide (c < 0x110000)) = true := h
    simp only [Bool.and_eq_true, decide_eq_true_eq, List.all_eq_true] at h
    exact ⟨p, q, h.1.1.1, h.1.1.2, h.1.2, fun c hc => h.2 c hc⟩
theorem tup_repr {a : Str} {xs : List D} (ha : fitB (.str a) = true) (hx : ∀ x ∈ xs, Fit 300 3 x) (hl : xs.length ≤ 2) : Fit 1000 4 (.tup (.str a :: xs)) := by
  refine Fit.mono (fit_tup (n := 300) (dep := 3) (m := 3) (fun d hd => ?_) (by simp; omega)) (by omega) (by omega)
  rcases List.mem_cons.mp hd with rfl | hd
  · exact fitB_ok ha
  · exact hx d hd
/-- the five that ask need_game first -/
theorem five (d k : Nat) (fs : List (Str × D)) (a b c : C) (na : ∀ x, a = .sh x → True) {x y z : D} (om : List D) (h : ∀ om, cl (d + 7) 14 [.sh x, .sh y, .sh z] om = .exc k fs om) :
    (∀ om, cl (d + 8) 24 [.sh x, .sh y, .sh z] om = .exc k fs om) ∧ (∀ om, cl (d + 8) 26 [.sh x, .sh y, .sh z] om = .exc k fs om) ∧ (∀ om, cl (d + 8) 27 [.sh x, .sh y, .sh z] om = .exc k fs om) ∧ (∀ om, cl (d + 8) 29 [.sh x, .sh y, .sh z] om = .exc k fs om) ∧ (∀ om, cl (d + 8) 30 [.sh x, .sh y, .sh z] om = .exc k fs om) := by
  refine ⟨fun om => ?_, fun om => ?_, fun om => ?_, fun om => ?_, fun om => ?_⟩
  · rw [call24]
    simp -dsimp -implicitDefEqProofs [B24, h]
  · rw [call26]
    simp -dsimp -implicitDefEqProofs [B26, h]
  · rw [call27]
    simp -dsimp -implicitDefEqProofs [B27, h]
  · rw [call29]
    simp -dsimp -implicitDefEqProofs [B29, h]
  · rw [call30]
    simp -dsimp -implicitDefEqProofs [B30, h]
abbrev er1 : List MS := [.ife (.cmp .IsNot (.call 9 [(.slot 5)]) (.const (.bl false))) [.ret (.const (.bl false))] [], .asg (.nm 6) (.lst [(.met HS (.call 17 [(.slot 5)]))]), .expr (.meth .append (.slot 6) [(.met HS (.call 19 [(.slot 5)]))]), .expr (.meth .append (.slot 6) [(.met HS (.call 22 [(.slot 5), (.const .non)]))]), .for (.nm 7) (.seq (.lst [(.glob 24), (.glob 26), (.glob 27), (.glob 29), (.glob 30)])) [.expr (.meth .append (.slot 6) [(.met HS (.callv 7 OKL [(.slot 5), (.const .non), (.const .non)]))])], .ife (.cmp .NotEq (.bi .repr [(.slot 6)]) (.bi .repr [(.bin .Mult (.lst [(.tup [(.const (.str ⟨#[66, 97, 100, 72, 117, 101, 105, 110, 103]⟩)), (.slot 5)])]) (.const (.int 8)))])) [.ret (.const (.bl false))] []]
abbrev er3 : List MS := [.ife (.cmp .NotEq (.bi .repr [(.met HS (.callv 7 OKL [(.slot 8), (.const (.str ⟨#[110, 111]⟩)), (.slot 5)]))]) (.bi .repr [(.tup [(.const (.str ⟨#[66, 97, 100, 78, 117, 109, 98, 101, 114]⟩)), (.const (.str ⟨#[109]⟩)), (.slot 5)])])) [.ret (.const (.bl false))] []]
abbrev er4 : List MS := [.ife (.cmp .NotEq (.bi .repr [(.met HS (.callv 7 OKL [(.slot 4), (.slot 5), (.const (.int 2))]))]) (.bi .repr [(.tup [(.const (.str ⟨#[66, 97, 100, 78, 97, 109, 101]⟩)), (.slot 5)])])) [.ret (.const (.bl false))] []]
abbrev er5 : List MS := [.ife (.cmp .NotEq (.bi .repr [(.met HS (.callv 7 OKL [(.slot 4), (.call 33 [(.brw 0), (.lst [(.const (.str ⟨#[109, 97, 107, 101]⟩)), (.const (.str ⟨#[115, 104, 117, 110]⟩))])]), (.const (.int 2))]))]) (.bi .repr [(.tup [(.const (.str ⟨#[78, 111, 116, 75, 101, 112, 116]⟩)), (.const (.str ⟨#[98, 111, 116, 104]⟩)), (.const (.int 2))])])) [.ret (.const (.bl false))] []]
abbrev er6 : List MS := [.ife (.cmp .NotEq (.bi .repr [(.met HS (.call 15 [(.slot 5)]))]) (.bi .repr [(.tup [(.const (.str ⟨#[66, 97, 100, 78, 117, 109, 98, 101, 114]⟩)), (.const (.str ⟨#[112, 108, 97, 99, 101, 115]⟩)), (.slot 5)])])) [.ret (.const (.bl false))] []]
abbrev oddN : List D := [.non, .lst [.int 2, .int 3, .tup [.int 2]], .tup [.int 2, .int 3], .tup [.int 2, .int 3, .tup []], .tup [.int 2, .int 3, .tup [.int 3]], .tup [.int 2, .int 2, .tup [.int 0]], .tup [.int 2, .int 4, .tup [.int 2]], .tup [.int 2, .int 3, .tup [.int 1]], .tup [.int 2, .int 3, .lst [.int 2]], .tup [.int 3, .int 3, .tup [.int 0, .int 0, .int 2]], .tup [.int 3, .int 3, .tup [.int 1, .int 1, .int 0]], .tup [.int 3, .int 3, .tup [.int 0, .int 1, .int 1]], .tup [.int 3, .int 3, .tup [.int 0, .int 0, .int 0]], .tup [.bl true, .int 3, .tup []], .tup [.int 2, .int 3, .tup [.bl true]]]
/-- no position -/
structure NoPos (x : D) : Prop where
  no : ∀ d om, cl (d + 5) 9 [.sh x] om = .ok (.sh (.bl false)) om
  lk : lkV x = .val x
  fit : Fit 300 3 x
theorem rep8 (x : D) : binD .Mult (.lst [x]) (.int 8) = some (.ow (.lst [x, x, x, x, x, x, x, x])) := mul_lst1 x 8 (by omega)
theorem np0 : NoPos (.non) := by
  refine ⟨fun d om => ?_, rfl, fitB_ok (by decide +kernel)⟩
  unfold cl
  kernel_rfl
theorem np1 : NoPos (.lst [.int 2, .int 3, .tup [.int 2]]) := by
  refine ⟨fun d om => ?_, rfl, fitB_ok (by decide +kernel)⟩
  unfold cl
  kernel_rfl
theorem np2 : NoPos (.tup [.int 2, .int 3]) := by
  refine ⟨fun d om => ?_, rfl, fitB_ok (by decide +kernel)⟩
  unfold cl
  kernel_rfl
theorem np3 : NoPos (.tup [.int 2, .int 3, .tup []]) := by
  refine ⟨fun d om => ?_, rfl, fitB_ok (by decide +kernel)⟩
  unfold cl
  kernel_rfl
theorem np4 : NoPos (.tup [.int 2, .int 3, .tup [.int 3]]) := by
  refine ⟨fun d om => ?_, rfl, fitB_ok (by decide +kernel)⟩
  unfold cl
  kernel_rfl
theorem np5 : NoPos (.tup [.int 2, .int 2, .tup [.int 0]]) := by
  refine ⟨fun d om => ?_, rfl, fitB_ok (by decide +kernel)⟩
  unfold cl
  kernel_rfl
theorem np6 : NoPos (.tup [.int 2, .int 4, .tup [.int 2]]) := by
  refine ⟨fun d om => ?_, rfl, fitB_ok (by decide +kernel)⟩
  unfold cl
  kernel_rfl
theorem np7 : NoPos (.tup [.int 2, .int 3, .tup [.int 1]]) := by
  refine ⟨fun d om => ?_, rfl, fitB_ok (by decide +kernel)⟩
  unfold cl
  kernel_rfl
theorem np8 : NoPos (.tup [.int 2, .int 3, .lst [.int 2]]) := by
  refine ⟨fun d om => ?_, rfl, fitB_ok (by decide +kernel)⟩
  unfold cl
  kernel_rfl
theorem np9 : NoPos (.tup [.int 3, .int 3, .tup [.int 0, .int 0, .int 2]]) := by
  refine ⟨fun d om => ?_, rfl, fitB_ok (by decide +kernel)⟩
  unfold cl
  kernel_rfl
theorem np10 : NoPos (.tup [.int 3, .int 3, .tup [.int 1, .int 1, .int 0]]) := by
  refine ⟨fun d om => ?_, rfl, fitB_ok (by decide +kernel)⟩
  unfold cl
  kernel_rfl
theorem np11 : NoPos (.tup [.int 3, .int 3, .tup [.int 0, .int 1, .int 1]]) := by
  refine ⟨fun d om => ?_, rfl, fitB_ok (by decide +kernel)⟩
  unfold cl
  kernel_rfl
theorem np12 : NoPos (.tup [.int 3, .int 3, .tup [.int 0, .int 0, .int 0]]) := by
  refine ⟨fun d om => ?_, rfl, fitB_ok (by decide +kernel)⟩
  unfold cl
  kernel_rfl
theorem np13 : NoPos (.tup [.bl true, .int 3, .tup []]) := by
  refine ⟨fun d om => ?_, rfl, fitB_ok (by decide +kernel)⟩
  unfold cl
  kernel_rfl
theorem np14 : NoPos (.tup [.int 2, .int 3, .tup [.bl true]]) := by
  refine ⟨fun d om => ?_, rfl, fitB_ok (by decide +kernel)⟩
  unfold cl
  kernel_rfl
theorem np_all : ∀ x ∈ oddN, NoPos x := by
  intro x hx
  simp only [List.mem_cons, List.mem_nil_iff, or_false] at hx
  rcases hx with rfl | rfl | rfl | rfl | rfl | rfl | rfl | rfl | rfl | rfl | rfl | rfl | rfl | rfl | rfl
  · exact np0
  · exact np1
  · exact np2
  · exact np3
  · exact np4
  · exact np5
  · exact np6
  · exact np7
  · exact np8
  · exact np9
  · exact np10
  · exact np11
  · exact np12
  · exact np13
  · exact np14
theorem er_1 (d : Nat) {x : D} (h : NoPos x) (c0 c1 c2 c3 c4 c6 c7 c8 : C) (om : List D) : ∃ y6 y7, exSs (cl (d + 9)) flds exm er1 ⟨[c0, c1, c2, c3, c4, .sh x, c6, c7, c8], om⟩ = .nx ⟨[c0, c1, c2, c3, c4, .sh x, y6, y7, c8], om⟩ := by
  have h10 : ∀ d om, cl (d + 6) 10 [.sh x] om = .exc 3 [(kHueing, x)] om := fun d om => by
    rw [call10]
    simp -dsimp -implicitDefEqProofs [B10, h.no, flds3]
  have h14 : ∀ om, cl (d + 8) 14 [.sh x, .sh .non, .sh .non] om = .exc 3 [(kHueing, x)] om := fun om => by
    rw [call14]
    simp -dsimp -implicitDefEqProofs [B14, h10]
  obtain ⟨f24, f26, f27, f29, f30⟩ := five (d + 1) 3 _ .un .un .un (fun _ _ => trivial) om h14
  have f17 : ∀ om, cl (d + 9) 17 [.sh x] om = .exc 3 [(kHueing, x)] om := fun om => by
    rw [call17]
    simp -dsimp -implicitDefEqProofs [B17, h10]
  have f19 : ∀ om, cl (d + 9) 19 [.sh x] om = .exc 3 [(kHueing, x)] om := fun om => by
    rw [call19]
    simp -dsimp -implicitDefEqProofs [B19, h10]
  have f20 : ∀ om, cl (d + 8) 20 [.sh x, .sh .non] om = .exc 3 [(kHueing, x)] om := fun om => by
    rw [call20]
    simp -dsimp -implicitDefEqProofs [B20, h10]
  have f22 : ∀ om, cl (d + 9) 22 [.sh x, .sh .non] om = .exc 3 [(kHueing, x)] om := fun om => by
    rw [call22]
    simp -dsimp -implicitDefEqProofs [B22, f20]
  have f9 := h.no (d + 4)
  have ft : Fit 1000 4 (.tup [.str sBH, x]) := tup_repr (by decide +kernel) (fun y hy => by rw [List.mem_singleton.mp hy]; exact h.fit) (by simp)
  obtain ⟨y, e, ok⟩ := reprD_fit (d := .lst [.tup [.str sBH, x], .tup [.str sBH, x], .tup [.str sBH, x], .tup [.str sBH, x], .tup [.str sBH, x], .tup [.str sBH, x], .tup [.str sBH, x], .tup [.str sBH, x]]) (fit_lst (m := 8) (n := 1000) (dep := 4) (fun d hd => by
    simp only [List.mem_cons, List.mem_nil_iff, or_false, or_self] at hd
    rw [hd]; exact ft) (by simp)) (by omega) (by omega)
  refine ⟨.ow (.lst [.tup [.str sBH, x], .tup [.str sBH, x], .tup [.str sBH, x], .tup [.str sBH, x], .tup [.str sBH, x], .tup [.str sBH, x], .tup [.str sBH, x], .tup [.str sBH, x]]), .sh (.fn 30), ?_⟩
  simp -dsimp -implicitDefEqProofs [f9, f17, f19, f22, f24, f26, f27, f29, f30, met3, me_append, forRun_cons, forRun_nil, rep8, bi_repr_lst, e, cmp_str_ne ok]
end LW

set_option Elab.async false
set_option linter.all false
set_option maxRecDepth 100000
set_option maxHeartbeats 4000000
/-! KE1: k96: _law_errors_right, the other loops -/
namespace LW
open PySem L2 VM
abbrev small2 : D := .tup [.int 2, .int 3, .tup [.int 2]]
abbrev both4 : D := .tup [.int 4, .int 3, .tup [.int 0, .int 1, .int 0, .int 1, .int 1, .int 0]]
abbrev odd3 : List D := [.non, .int 1, .int 0, .int (-1), .bl true, .str ⟨#[50]⟩, .tup [.int 3]]
abbrev odd4 : List D := [.non, .str ⟨#[]⟩, .str ⟨#[77, 97, 107, 101]⟩, .str ⟨#[109, 97, 107, 101, 115]⟩, .str ⟨#[119, 105, 110]⟩, .int 0, .tup [.str ⟨#[109, 97, 107, 101]⟩], .lst [.str ⟨#[109, 97, 107, 101]⟩]]
abbrev odd6 : List D := [.non, .int (-1), .bl true, .str ⟨#[49]⟩]
structure Odd3 (x : D) : Prop where
  no : ∀ d om, cl (d + 7) 14 [.sh small2, .sh (.str sNo), .sh x] om = .exc 1 [(kWhat, .str sM), (kNumber, x)] om
  lk : lkV x = .val x
  fit : Fit 300 3 x
structure Odd4 (x : D) : Prop where
  no : ∀ d om, cl (d + 7) 14 [.sh both4, .sh x, .sh (.int 2)] om = .exc 2 [(kName, x)] om
  lk : lkV x = .val x
  fit : Fit 300 3 x
structure Odd6 (x : D) : Prop where
  no : ∀ d om, cl (d + 4) 15 [.sh x] om = .exc 1 [(kWhat, .str sPlaces), (kNumber, x)] om
  lk : lkV x = .val x
  fit : Fit 300 3 x
theorem o3_0 : Odd3 (.non) := by
  refine ⟨fun d om => ?_, rfl, fitB_ok (by decide +kernel)⟩
  unfold cl
  kernel_rfl
theorem o3_1 : Odd3 (.int 1) := by
  refine ⟨fun d om => ?_, rfl, fitB_ok (by decide +kernel)⟩
  unfold cl
  kernel_rfl
theorem o3_2 : Odd3 (.int 0) := by
  refine ⟨fun d om => ?_, rfl, fitB_ok (by decide +kernel)⟩
  unfold cl
  kernel_rfl
theorem o3_3 : Odd3 (.int (-1)) := by
  refine ⟨fun d om => ?_, rfl, fitB_ok (by decide +kernel)⟩
  unfold cl
  kernel_rfl
theorem o3_4 : Odd3 (.bl true) := by
  refine ⟨fun d om => ?_, rfl, fitB_ok (by decide +kernel)⟩
  unfold cl
  kernel_rfl
theorem o3_5 : Odd3 (.str ⟨#[50]⟩) := by
  refine ⟨fun d om => ?_, rfl, fitB_ok (by decide +kernel)⟩
  unfold cl
  kernel_rfl
theorem o3_6 : Odd3 (.tup [.int 3]) := by
  refine ⟨fun d om => ?_, rfl, fitB_ok (by decide +kernel)⟩
  unfold cl
  kernel_rfl
theorem o3_all : ∀ x ∈ odd3, Odd3 x := by
  intro x hx
  simp only [List.mem_cons, List.mem_nil_iff, or_false] at hx
  rcases hx with rfl | rfl | rfl | rfl | rfl | rfl | rfl
  · exact o3_0
  · exact o3_1
  · exact o3_2
  · exact o3_3
  · exact o3_4
  · exact o3_5
  · exact o3_6
theorem o4_0 : Odd4 (.non) := by
  refine ⟨fun d om => ?_, rfl, fitB_ok (by decide +kernel)⟩
  unfold cl
  kernel_rfl
theorem o4_1 : Odd4 (.str ⟨#[]⟩) := by
  refine ⟨fun d om => ?_, rfl, fitB_ok (by decide +kernel)⟩
  unfold cl
  kernel_rfl
theorem o4_2 : Odd4 (.str ⟨#[77, 97, 107, 101]⟩) := by
  refine ⟨fun d om => ?_, rfl, fitB_ok (by decide +kernel)⟩
  unfold cl
  kernel_rfl
theorem o4_3 : Odd4 (.str ⟨#[109, 97, 107, 101, 115]⟩) := by
  refine ⟨fun d om => ?_, rfl, fitB_ok (by decide +kernel)⟩
  unfold cl
  kernel_rfl
theorem o4_4 : Odd4 (.str ⟨#[119, 105, 110]⟩) := by
  refine ⟨fun d om => ?_, rfl, fitB_ok (by decide +kernel)⟩
  unfold cl
  kernel_rfl
theorem o4_5 : Odd4 (.int 0) := by
  refine ⟨fun d om => ?_, rfl, fitB_ok (by decide +kernel)⟩
  unfold cl
  kernel_rfl
theorem o4_6 : Odd4 (.tup [.str ⟨#[109, 97, 107, 101]⟩]) := by
  refine ⟨fun d om => ?_, rfl, fitB_ok (by decide +kernel)⟩
  unfold cl
  kernel_rfl
theorem o4_7 : Odd4 (.lst [.str ⟨#[109, 97, 107, 101]⟩]) := by
  refine ⟨fun d om => ?_, rfl, fitB_ok (by decide +kernel)⟩
  unfold cl
  kernel_rfl
theorem o4_all : ∀ x ∈ odd4, Odd4 x := by
  intro x hx
  simp only [List.mem_cons, List.mem_nil_iff, or_false] at hx
  rcases hx with rfl | rfl | rfl | rfl | rfl | rfl | rfl | rfl
  · exact o4_0
  · exact o4_1
  · exact o4_2
  · exact o4_3
  · exact o4_4
  · exact o4_5
  · exact o4_6
  · exact o4_7
theorem o6_0 : Odd6 (.non) := by
  refine ⟨fun d om => ?_, rfl, fitB_ok (by decide +kernel)⟩
  unfold cl
  kernel_rfl
theorem o6_1 : Odd6 (.int (-1)) := by
  refine ⟨fun d om => ?_, rfl, fitB_ok (by decide +kernel)⟩
  unfold cl
  kernel_rfl
theorem o6_2 : Odd6 (.bl true) := by
  refine ⟨fun d om => ?_, rfl, fitB_ok (by decide +kernel)⟩
  unfold cl
  kernel_rfl
theorem o6_3 : Odd6 (.str ⟨#[49]⟩) := by
  refine ⟨fun d om => ?_, rfl, fitB_ok (by decide +kernel)⟩
  unfold cl
  kernel_rfl
theorem o6_all : ∀ x ∈ odd6, Odd6 x := by
  intro x hx
  simp only [List.mem_cons, List.mem_nil_iff, or_false] at hx
  rcases hx with rfl | rfl | rfl | rfl
  · exact o6_0
  · exact o6_1
  · exact o6_2
  · exact o6_3
theorem er_3 (d : Nat) {x : D} (h : Odd3 x) (c0 c1 c2 c3 c4 c6 c7 : C) (om : List D) : forRun (cl (d + 8)) flds exm (.nm 7) er3 [.fn 24, .fn 26, .fn 27, .fn 29, .fn 30] ⟨[c0, c1, c2, c3, c4, .sh x, c6, c7, .sh small2], om⟩ = .nx ⟨[c0, c1, c2, c3, c4, .sh x, c6, .sh (.fn 30), .sh small2], om⟩ := by
  obtain ⟨f24, f26, f27, f29, f30⟩ := five d 1 _ .un .un .un (fun _ _ => trivial) om (h.no d)
  have ft : Fit 1000 4 (.tup [.str sBN, .str sM, x]) := tup_repr (by decide +kernel) (fun y hy => by
    simp only [List.mem_cons, List.mem_nil_iff, or_false] at hy
    rcases hy with rfl | rfl
    · exact fitB_ok (by decide +kernel)
    · exact h.fit) (by simp)
  obtain ⟨y, e, ok⟩ := reprD_fit ft (by omega) (by omega)
  simp -dsimp -implicitDefEqProofs [f24, f26, f27, f29, f30, met1, forRun_cons, forRun_nil, bi_repr_tup, e, cmp_str_ne ok]
theorem er_4 (d : Nat) {x : D} (h : Odd4 x) (c0 c1 c2 c3 c6 c7 c8 : C) (om : List D) : forRun (cl (d + 8)) flds exm (.nm 7) er4 [.fn 24, .fn 26, .fn 27, .fn 29, .fn 30] ⟨[c0, c1, c2, c3, .sh both4, .sh x, c6, c7, c8], om⟩ = .nx ⟨[c0, c1, c2, c3, .sh both4, .sh x, c6, .sh (.fn 30), c8], om⟩ := by
  obtain ⟨f24, f26, f27, f29, f30⟩ := five d 2 _ .un .un .un (fun _ _ => trivial) om (h.no d)
  have ft : Fit 1000 4 (.tup [.str sBNm, x]) := tup_repr (by decide +kernel) (fun y hy => by
    rw [List.mem_singleton.mp hy]
    exact h.fit) (by simp)
  obtain ⟨y, e, ok⟩ := reprD_fit ft (by omega) (by omega)
  simp -dsimp -implicitDefEqProofs [f24, f26, f27, f29, f30, met2, forRun_cons, forRun_nil, bi_repr_tup, e, cmp_str_ne ok]
theorem er_6 (d : Nat) {x : D} (h : Odd6 x) (c0 c1 c2 c3 c4 c6 c7 c8 : C) (om : List D) : exSs (cl (d + 8)) flds exm er6 ⟨[c0, c1, c2, c3, c4, .sh x, c6, c7, c8], om⟩ = .nx ⟨[c0, c1, c2, c3, c4, .sh x, c6, c7, c8], om⟩ := by
  have f := h.no (d + 4)
  have ft : Fit 1000 4 (.tup [.str sBN, .str sPlaces, x]) := tup_repr (by decide +kernel) (fun y hy => by
    simp only [List.mem_cons, List.mem_nil_iff, or_false] at hy
    rcases hy with rfl | rfl
    · exact fitB_ok (by decide +kernel)
    · exact h.fit) (by simp)
  obtain ⟨y, e, ok⟩ := reprD_fit ft (by omega) (by omega)
  simp -dsimp -implicitDefEqProofs [f, met1, bi_repr_tup, e, cmp_str_ne ok]
/-- make or shun -/
theorem pick_rule (d : Nat) {c : Nat} {p : D} (PP : Pen c p) (hc : c < 100000) : ∃ ru p', (ru = Rule.make ∨ ru = Rule.shun) ∧ Pen (c + 1) p' ∧ cl (d + 2) 33 [.hd 0, .sh (.lst [.str sMake, .str sShun])] [p] = .ok (.sh (.str ru.s)) [p'] := by
  obtain ⟨v, p', hv, h1, e⟩ := pick_lst (cm := cl (d + 1)) (flds := flds) (exm := exm) (draws d) PP (xs := [.str sMake, .str sShun]) (by simp) (by simp) (by omega)
  have hv2 : v = 0 ∨ v = 1 := by simp at hv; omega
  rcases hv2 with rfl | rfl
  · exact ⟨.make, p', .inl rfl, h1, by rw [call33]; exact e⟩
  · exact ⟨.shun, p', .inr rfl, h1, by rw [call33]; exact e⟩
theorem pos4 : IsP 4 [0, 1, 0, 1, 1, 0] 0 := ⟨by omega, by decide, by decide, by decide, by omega⟩
theorem both_no (d : Nat) (ru : Rule) (h : ru = Rule.make ∨ ru = Rule.shun) (om : List D) : cl (d + 7) 14 [.sh both4, .sh (.str ru.s), .sh (.int 2)] om = .exc 4 [(kPromise, .str sBoth), (kWitness, .int 2)] om := by
  have e := need_game pos4 d (m := 2) (by omega) (by omega) (h0 := true) (h1 := true) (by decide +kernel) (by decide +kernel) om ru
  rcases h with rfl | rfl
  · exact e
  · exact e
theorem er_5 (d : Nat) {c : Nat} {p : D} (PP : Pen c p) (hc : c < 100000) (f : Nat) (hf : f = 24 ∨ f = 26 ∨ f = 27 ∨ f = 29 ∨ f = 30) (c1 c2 c3 c5 c6 c7 c8 : C) : ∃ p', Pen (c + 1) p' ∧ (optB (asgC (.nm 7) (.sh (.fn f)) ⟨[.hd 0, c1, c2, c3, .sh both4, c5, c6, c7, c8], [p]⟩) fun s => exSs (cl (d + 8)) flds exm er5 s) = .nx ⟨[.hd 0, c1, c2, c3, .sh both4, c5, c6, .sh (.fn f), c8], [p']⟩ := by
  obtain ⟨ru, p', hr, h1, e⟩ := pick_rule (d + 6) PP hc
  obtain ⟨f24, f26, f27, f29, f30⟩ := five d 4 _ .un .un .un (fun _ _ => trivial) [p'] (both_no d ru hr)
  have ft : Fit 1000 4 (.tup [.str sNot, .str sBoth, .int 2]) := tup_repr (by decide +kernel) (fun y hy => by
    simp only [List.mem_cons, List.mem_nil_iff, or_false] at hy
    rcases hy with rfl | rfl
    · exact fitB_ok (by decide +kernel)
    · exact fitB_ok (by decide +kernel)) (by simp)
  obtain ⟨y, e2, ok⟩ := reprD_fit ft (by omega) (by omega)
  refine ⟨p', h1, ?_⟩
  rcases hf with rfl | rfl | rfl | rfl | rfl <;> simp -dsimp -implicitDefEqProofs [f24, f26, f27, f29, f30, e, met4, bi_repr_tup, e2, cmp_str_ne ok]
end LW

set_option Elab.async false
set_option linter.all false
set_option maxRecDepth 100000
set_option maxHeartbeats 4000000
/-! KF: k96: _law_errors_right, _law_play -/
namespace LW
open PySem L2 VM
theorem no_pos (d : Nat) (om : List D) : cl (d + 1) 43 [] om = .ok (.ow (.lst oddN)) om := by
  unfold cl
  kernel_rfl
theorem seven (d : Nat) : cl (d + 1) 43 [] = fun om => .ok (.ow (.lst oddN)) om := funext fun om => no_pos d om
section
variable {n : Nat} {r : List Nat}
theorem lp_1 (d : Nat) (om : List D) : ∃ c5 c6 c7, forRun (cl (d + 9)) flds exm (.nm 5) er1 oddN ⟨[.hd 0, .sh (nI n), .sh (tN r), .sh (pos n r), .sh both4, .un, .un, .un, .un], om⟩ = .nx ⟨[.hd 0, .sh (nI n), .sh (tN r), .sh (pos n r), .sh both4, c5, c6, c7, .un], om⟩ := by
  obtain ⟨I, hI⟩ := named (fun (_ : Nat) (s : S) => ∃ c5 c6 c7, s = ⟨[.hd 0, .sh (nI n), .sh (tN r), .sh (pos n r), .sh both4, c5, c6, c7, .un], om⟩)
  obtain ⟨s', e, hs⟩ := forRun_nx (cm := cl (d + 9)) (flds := flds) (exm := exm) (g := .nm 5) (b := er1) (ds := oddN) I (s := ⟨[.hd 0, .sh (nI n), .sh (tN r), .sh (pos n r), .sh both4, .un, .un, .un, .un], om⟩) (by rw [hI]; exact ⟨_, _, _, rfl⟩) (by
    intro k hk s hs
    rw [hI] at hs
    obtain ⟨c5, c6, c7, rfl⟩ := hs
    have ho := np_all _ (List.getElem_mem hk)
    generalize oddN[k] = x at ho
    obtain ⟨y6, y7, e⟩ := er_1 d ho (.hd 0) (.sh (nI n)) (.sh (tN r)) (.sh (pos n r)) (.sh both4) c6 c7 .un om
    rw [forStep_eq, asgC_nm, putC_sh, if_pos (by simp)]
    show StepQ (exSs (cl (d + 9)) flds exm er1 ⟨[.hd 0, .sh (nI n), .sh (tN r), .sh (pos n r), .sh both4, .sh x, c6, c7, .un], om⟩) _ _ _
    rw [e, stepQ_nx, hI]
    exact ⟨_, _, _, rfl⟩)
  rw [hI] at hs
  obtain ⟨c5, c6, c7, rfl⟩ := hs
  exact ⟨c5, c6, c7, e⟩
theorem lp_3 (d : Nat) (c5 c6 c7 : C) (om : List D) : ∃ y5 y7, forRun (cl (d + 8)) flds exm (.nm 5) [.for (.nm 7) (.seq (.lst [(.glob 24), (.glob 26), (.glob 27), (.glob 29), (.glob 30)])) er3] odd3 ⟨[.hd 0, .sh (nI n), .sh (tN r), .sh (pos n r), .sh both4, c5, c6, c7, .sh small2], om⟩ = .nx ⟨[.hd 0, .sh (nI n), .sh (tN r), .sh (pos n r), .sh both4, y5, c6, y7, .sh small2], om⟩ := by
  obtain ⟨I, hI⟩ := named (fun (_ : Nat) (s : S) => ∃ y5 y7, s = ⟨[.hd 0, .sh (nI n), .sh (tN r), .sh (pos n r), .sh both4, y5, c6, y7, .sh small2], om⟩)
  obtain ⟨s', e, hs⟩ := forRun_nx (cm := cl (d + 8)) (flds := flds) (exm := exm) (g := .nm 5) (b := [.for (.nm 7) (.seq (.lst [(.glob 24), (.glob 26), (.glob 27), (.glob 29), (.glob 30)])) er3]) (ds := odd3) I (s := ⟨[.hd 0, .sh (nI n), .sh (tN r), .sh (pos n r), .sh both4, c5, c6, c7, .sh small2], om⟩) (by rw [hI]; exact ⟨_, _, rfl⟩) (by
    intro k hk s hs
    rw [hI] at hs
    obtain ⟨z5, z7, rfl⟩ := hs
    have ho := o3_all _ (List.getElem_mem hk)
    generalize odd3[k] = x at ho
    have e := er_3 d ho (.hd 0) (.sh (nI n)) (.sh (tN r)) (.sh (pos n r)) (.sh both4) c6 z7 om
    have e : forRun (cl (d + 8)) flds exm (.nm 7) er3 [.fn 24, .fn 26, .fn 27, .fn 29, .fn 30] ⟨[.hd 0, .sh (nI n), .sh (tN r), .sh (pos n r), .sh both4, .sh x, c6, z7, .sh small2], om⟩ = _ := e
    simp -dsimp -implicitDefEqProofs [-forRun_cons, e]
    rw [hI]
    exact ⟨_, _, rfl⟩)
  rw [hI] at hs
  obtain ⟨y5, y7, rfl⟩ := hs
  exact ⟨y5, y7, e⟩
theorem lp_4 (d : Nat) (c5 c6 c7 c8 : C) (om : List D) : ∃ y5 y7, forRun (cl (d + 8)) flds exm (.nm 5) [.for (.nm 7) (.seq (.lst [(.glob 24), (.glob 26), (.glob 27), (.glob 29), (.glob 30)])) er4] odd4 ⟨[.hd 0, .sh (nI n), .sh (tN r), .sh (pos n r), .sh both4, c5, c6, c7, c8], om⟩ = .nx ⟨[.hd 0, .sh (nI n), .sh (tN r), .sh (pos n r), .sh both4, y5, c6, y7, c8], om⟩ := by
  obtain ⟨I, hI⟩ := named (fun (_ : Nat) (s : S) => ∃ y5 y7, s = ⟨[.hd 0, .sh (nI n), .sh (tN r), .sh (pos n r), .sh both4, y5, c6, y7, c8], om⟩)
  obtain ⟨s', e, hs⟩ := forRun_nx (cm := cl (d + 8)) (flds := flds) (exm := exm) (g := .nm 5) (b := [.for (.nm 7) (.seq (.lst [(.glob 24), (.glob 26), (.glob 27), (.glob 29), (.glob 30)])) er4]) (ds := odd4) I (s := ⟨[.hd 0, .sh (nI n), .sh (tN r), .sh (pos n r), .sh both4, c5, c6, c7, c8], om⟩) (by rw [hI]; exact ⟨_, _, rfl⟩) (by
    intro k hk s hs
    rw [hI] at hs
    obtain ⟨z5, z7, rfl⟩ := hs
    have ho := o4_all _ (List.getElem_mem hk)
    generalize odd4[k] = x at ho
    have e := er_4 d ho (.hd 0) (.sh (nI n)) (.sh (tN r)) (.sh (pos n r)) c6 z7 c8 om
    simp -dsimp -implicitDefEqProofs [e]
    rw [hI]
    exact ⟨_, _, rfl⟩)
  rw [hI] at hs
  obtain ⟨y5, y7, rfl⟩ := hs
  exact ⟨y5, y7, e⟩
theorem lp_6 (d : Nat) (c5 c6 c7 c8 : C) (om : List D) : ∃ y5 y7, forRun (cl (d + 8)) flds exm (.nm 5) er6 odd6 ⟨[.hd 0, .sh (nI n), .sh (tN r), .sh (pos n r), .sh both4, c5, c6, c7, c8], om⟩ = .nx ⟨[.hd 0, .sh (nI n), .sh (tN r), .sh (pos n r), .sh both4, y5, c6, y7, c8], om⟩ := by
  obtain ⟨I, hI⟩ := named (fun (_ : Nat) (s : S) => ∃ y5 y7, s = ⟨[.hd 0, .sh (nI n), .sh (tN r), .sh (pos n r), .sh both4, y5, c6, y7, c8], om⟩)
  obtain ⟨s', e, hs⟩ := forRun_nx (cm := cl (d + 8)) (flds := flds) (exm := exm) (g := .nm 5) (b := er6) (ds := odd6) I (s := ⟨[.hd 0, .sh (nI n), .sh (tN r), .sh (pos n r), .sh both4, c5, c6, c7, c8], om⟩) (by rw [hI]; exact ⟨_, _, rfl⟩) (by
    intro k hk s hs
    rw [hI] at hs
    obtain ⟨z5, z7, rfl⟩ := hs
    have ho := o6_all _ (List.getElem_mem hk)
    generalize odd6[k] = x at ho
    have e := er_6 d ho (.hd 0) (.sh (nI n)) (.sh (tN r)) (.sh (pos n r)) (.sh both4) c6 z7 c8 om
    rw [forStep_eq, asgC_nm, putC_sh, if_pos (by simp)]
    show StepQ (exSs (cl (d + 8)) flds exm er6 ⟨[.hd 0, .sh (nI n), .sh (tN r), .sh (pos n r), .sh both4, .sh x, c6, z7, c8], om⟩) _ _ _
    rw [e, stepQ_nx]
    rw [hI]
    exact ⟨_, _, rfl⟩)
  rw [hI] at hs
  obtain ⟨y5, y7, rfl⟩ := hs
  exact ⟨y5, y7, e⟩
theorem lp_5 (d : Nat) {c : Nat} {p : D} (PP : Pen c p) (hc : c < 99000) (c5 c6 c7 c8 : C) : ∃ p', Pen (c + 5) p' ∧ forRun (cl (d + 8)) flds exm (.nm 7) er5 [.fn 24, .fn 26, .fn 27, .fn 29, .fn 30] ⟨[.hd 0, .sh (nI n), .sh (tN r), .sh (pos n r), .sh both4, c5, c6, c7, c8], [p]⟩ = .nx ⟨[.hd 0, .sh (nI n), .sh (tN r), .sh (pos n r), .sh both4, c5, c6, .sh (.fn 30), c8], [p']⟩ := by
  obtain ⟨p1, P1, e1⟩ := er_5 d PP (by omega) 24 (by simp) (.sh (nI n)) (.sh (tN r)) (.sh (pos n r)) c5 c6 c7 c8
  obtain ⟨p2, P2, e2⟩ := er_5 d P1 (by omega) 26 (by simp) (.sh (nI n)) (.sh (tN r)) (.sh (pos n r)) c5 c6 (.sh (.fn 24)) c8
  obtain ⟨p3, P3, e3⟩ := er_5 d P2 (by omega) 27 (by simp) (.sh (nI n)) (.sh (tN r)) (.sh (pos n r)) c5 c6 (.sh (.fn 26)) c8
  obtain ⟨p4, P4, e4⟩ := er_5 d P3 (by omega) 29 (by simp) (.sh (nI n)) (.sh (tN r)) (.sh (pos n r)) c5 c6 (.sh (.fn 27)) c8
  obtain ⟨p5, P5, e5⟩ := er_5 d P4 (by omega) 30 (by simp) (.sh (nI n)) (.sh (tN r)) (.sh (pos n r)) c5 c6 (.sh (.fn 29)) c8
  refine ⟨p5, P5.mono, ?_⟩
  rw [forRun_cons, e1, SO.lop_nx, forRun_cons, e2, SO.lop_nx, forRun_cons, e3, SO.lop_nx, forRun_cons, e4, SO.lop_nx, forRun_cons, e5, SO.lop_nx, forRun_nil]
end
theorem errors_right {n : Nat} {r : List Nat} {t : Nat} (P : IsP n r t) (d : Nat) {c : Nat} {p : D} (PP : Pen c p) (hc : c < 99000) : ∃ p', Pen (c + 5) p' ∧ cl (d + 10) 46 [.hd 0, .sh (nI n), .sh (tN r)] [p] = .ok (.sh (.bl true)) [p'] := by
  obtain ⟨a5, a6, a7, e1⟩ := lp_1 (n := n) (r := r) d [p]
  obtain ⟨b5, b7, e3⟩ := lp_3 (n := n) (r := r) (d + 1) a5 a6 a7 [p]
  obtain ⟨g5, g7, e4⟩ := lp_4 (n := n) (r := r) (d + 1) b5 a6 b7 (.sh small2) [p]
  obtain ⟨p', P', e5⟩ := lp_5 (n := n) (r := r) (d + 1) PP hc g5 a6 g7 (.sh small2)
  obtain ⟨h5, h7, e6⟩ := lp_6 (n := n) (r := r) (d + 1) g5 a6 (.sh (.fn 30)) (.sh small2) [p']
  have ip := is_position P (d + 5)
  have n0 := no_pos (d + 8)
  refine ⟨p', P', ?_⟩
  have f1 : exS (cl (d + 9)) flds exm (.par [3, 4] [(.tup [(.slot 1), (.const (.int 3)), (.slot 2)]), (.tup [(.const (.int 4)), (.const (.int 3)), (.tup [(.const (.int 0)), (.const (.int 1)), (.const (.int 0)), (.const (.int 1)), (.const (.int 1)), (.const (.int 0))])])]) ⟨[.hd 0, .sh (nI n), .sh (tN r), .un, .un, .un, .un, .un, .un], [p]⟩ = .nx ⟨[.hd 0, .sh (nI n), .sh (tN r), .sh (pos n r), .sh both4, .un, .un, .un, .un], [p]⟩ := by
    simp -dsimp -implicitDefEqProofs
  have f2 : exS (cl (d + 9)) flds exm (.for (.nm 5) (.seq (.call 43 [])) er1) ⟨[.hd 0, .sh (nI n), .sh (tN r), .sh (pos n r), .sh both4, .un, .un, .un, .un], [p]⟩ = .nx ⟨[.hd 0, .sh (nI n), .sh (tN r), .sh (pos n r), .sh both4, a5, a6, a7, .un], [p]⟩ := by
    rw [← e1]
    simp -dsimp -implicitDefEqProofs [n0]
  have f3 : exS (cl (d + 9)) flds exm (.asg (.nm 8) (.tup [(.const (.int 2)), (.const (.int 3)), (.tup [(.const (.int 2))])])) ⟨[.hd 0, .sh (nI n), .sh (tN r), .sh (pos n r), .sh both4, a5, a6, a7, .un], [p]⟩ = .nx ⟨[.hd 0, .sh (nI n), .sh (tN r), .sh (pos n r), .sh both4, a5, a6, a7, .sh small2], [p]⟩ := by
    simp -dsimp -implicitDefEqProofs
  have f4 : exS (cl (d + 9)) flds exm (.for (.nm 5) (.seq (.lst [(.const .non), (.const (.int 1)), (.const (.int 0)), (.neg (.const (.int 1))), (.const (.bl true)), (.const (.str ⟨#[50]⟩)), (.tup [(.const (.int 3))])])) [.for (.nm 7) (.seq (.lst [(.glob 24), (.glob 26), (.glob 27), (.glob 29), (.glob 30)])) er3]) ⟨[.hd 0, .sh (nI n), .sh (tN r), .sh (pos n r), .sh both4, a5, a6, a7, .sh small2], [p]⟩ = .nx ⟨[.hd 0, .sh (nI n), .sh (tN r), .sh (pos n r), .sh both4, b5, a6, b7, .sh small2], [p]⟩ := by
    rw [← e3]
    simp -dsimp -implicitDefEqProofs
  have f5 : exS (cl (d + 9)) flds exm (.for (.nm 5) (.seq (.lst [(.const .non), (.const (.str ⟨#[]⟩)), (.const (.str ⟨#[77, 97, 107, 101]⟩)), (.const (.str ⟨#[109, 97, 107, 101, 115]⟩)), (.const (.str ⟨#[119, 105, 110]⟩)), (.const (.int 0)), (.tup [(.const (.str ⟨#[109, 97, 107, 101]⟩))]), (.lst [(.const (.str ⟨#[109, 97, 107, 101]⟩))])])) [.for (.nm 7) (.seq (.lst [(.glob 24), (.glob 26), (.glob 27), (.glob 29), (.glob 30)])) er4]) ⟨[.hd 0, .sh (nI n), .sh (tN r), .sh (pos n r), .sh both4, b5, a6, b7, .sh small2], [p]⟩ = .nx ⟨[.hd 0, .sh (nI n), .sh (tN r), .sh (pos n r), .sh both4, g5, a6, g7, .sh small2], [p]⟩ := by
    rw [← e4]
    simp -dsimp -implicitDefEqProofs
  have f6 : exS (cl (d + 9)) flds exm (.for (.nm 7) (.seq (.lst [(.glob 24), (.glob 26), (.glob 27), (.glob 29), (.glob 30)])) er5) ⟨[.hd 0, .sh (nI n), .sh (tN r), .sh (pos n r), .sh both4, g5, a6, g7, .sh small2], [p]⟩ = .nx ⟨[.hd 0, .sh (nI n), .sh (tN r), .sh (pos n r), .sh both4, g5, a6, .sh (.fn 30), .sh small2], [p']⟩ := by
    rw [← e5]
    simp -dsimp -implicitDefEqProofs
  have f7 : exS (cl (d + 9)) flds exm (.for (.nm 5) (.seq (.lst [(.const .non), (.neg (.const (.int 1))), (.const (.bl true)), (.const (.str ⟨#[49]⟩))])) er6) ⟨[.hd 0, .sh (nI n), .sh (tN r), .sh (pos n r), .sh both4, g5, a6, .sh (.fn 30), .sh small2], [p']⟩ = .nx ⟨[.hd 0, .sh (nI n), .sh (tN r), .sh (pos n r), .sh both4, h5, a6, h7, .sh small2], [p']⟩ := by
    rw [← e6]
    simp -dsimp -implicitDefEqProofs
  have f8 : exS (cl (d + 9)) flds exm (.ret (.cmp .Is (.call 9 [(.slot 3)]) (.const (.bl true)))) ⟨[.hd 0, .sh (nI n), .sh (tN r), .sh (pos n r), .sh both4, h5, a6, h7, .sh small2], [p']⟩ = .rt (.sh (.bl true)) ⟨[.hd 0, .sh (nI n), .sh (tN r), .sh (pos n r), .sh both4, h5, a6, h7, .sh small2], [p']⟩ := by
    simp -dsimp -implicitDefEqProofs [ip]
  rw [call46]
  unfold B46
  rw [if_pos (show [C.hd 0, .sh (nI n), .sh (tN r)].length = 3 from rfl), show ([C.hd 0, .sh (nI n), .sh (tN r)] ++ List.replicate 6 C.un) = [C.hd 0, .sh (nI n), .sh (tN r), .un, .un, .un, .un, .un, .un] from rfl]
  rw [exSs_cons, f1, SO.thn_nx, exSs_cons, f2, SO.thn_nx, exSs_cons, f3, SO.thn_nx, exSs_cons, f4, SO.thn_nx, exSs_cons, f5, SO.thn_nx, exSs_cons, f6, SO.thn_nx, exSs_cons, f7, SO.thn_nx, exSs_cons, f8]
  rfl
end LW

set_option Elab.async false
set_option linter.all false
set_option maxRecDepth 100000
set_option maxHeartbeats 4000000
/-! KG: k96: _law_play, the law -/
namespace LW
open PySem L2 VM
theorem count_set2 (x v : Nat) (hx : x ≠ 2) : ∀ (l : List Nat) (i : Nat), l[i]? = some 2 → (l.set i v).count x = l.count x + (if v = x then 1 else 0)
  | [], i, h => by simp at h
  | y :: l, 0, h => by
    simp at h
    subst h
    rw [List.set_cons_zero, List.count_cons, List.count_cons]
    have : ¬ (2 : Nat) = x := fun z => hx z.symm
    simp [this]
  | y :: l, i + 1, h => by
    rw [List.set_cons_succ, List.count_cons, List.count_cons, count_set2 x v hx l i (by simpa using h)]
    omega
/-- the row behind k ties at the places of q -/
structure PI (m : Nat) (q : List Nat) (k : Nat) (rr : List Nat) : Prop where
  len : rr.length = m
  le : ∀ x ∈ rr, x ≤ 2
  c0 : rr.count 0 = (k + 1) / 2
  c1 : rr.count 1 = k / 2
  free : ∀ i, i < m → i ∉ q.take k → rr[i]? = some 2
theorem pi_zero (m : Nat) (q : List Nat) : PI m q 0 (List.replicate m 2) := by
  refine ⟨by simp, fun x hx => by rw [(List.mem_replicate.mp hx).2]; omega, ?_, ?_, fun i hi _ => ?_⟩
  · rw [List.count_replicate]; simp
  · rw [List.count_replicate]; simp
  · rw [List.getElem?_replicate, if_pos hi]
theorem pi_step {m : Nat} {q : List Nat} (hq : q.Nodup) (hlt : ∀ x ∈ q, x < m) {k : Nat} (hk : k < q.length) {rr : List Nat} (h : PI m q k rr) : PI m q (k + 1) (rr.set q[k] (k % 2)) := by
  have hn : q[k] ∉ q.take k := by
    intro z
    obtain ⟨j, hj⟩ := List.mem_iff_getElem?.mp z
    rw [List.getElem?_take] at hj
    split at hj
    · next h1 =>
      have := (List.getElem?_inj (by omega) hq).mp (hj.trans (List.getElem?_eq_getElem hk).symm)
      omega
    · cases hj
  have h2 := h.free q[k] (hlt _ (List.getElem_mem hk)) hn
  refine ⟨by simp [h.len], fun x hx => ?_, ?_, ?_, fun i hi hi2 => ?_⟩
  · rcases List.mem_or_eq_of_mem_set hx with z | z
    · exact h.le x z
    · omega
  · rw [count_set2 0 _ (by omega) _ _ h2, h.c0]
    split <;> omega
  · rw [count_set2 1 _ (by omega) _ _ h2, h.c1]
    split <;> omega
  · rw [List.take_succ, List.getElem?_eq_getElem hk] at hi2
    simp only [Option.toList_some, List.mem_append, List.mem_singleton, not_or] at hi2
    rw [List.getElem?_set_ne (fun z => hi2.2 z.symm)]
    exact h.free i hi hi2.1
theorem enumD_len : ∀ (xs : List D) (k : Nat), (enumD k xs).length = xs.length
  | [], _ => rfl
  | x :: xs, k => by rw [enumD, List.length_cons, List.length_cons, enumD_len xs]
theorem enumD_get : ∀ (xs : List D) (k i : Nat) (h : i < (enumD k xs).length), (enumD k xs)[i] = .prs [nI (k + i), xs[i]'(by rwa [enumD_len] at h)]
  | x :: xs, k, 0, _ => rfl
  | x :: xs, k, i + 1, h => by
    have e : (enumD k (x :: xs))[i + 1] = (enumD (k + 1) xs)[i]'(by simpa [enumD] using h) := rfl
    rw [e, enumD_get xs (k + 1) i]
    congr 3
    omega
theorem set_lst (rr : List Nat) (i v : Nat) (h : i < rr.length) : setD (.lst (ns rr)) (nI i) (nI v) = some (.lst (ns (rr.set i v))) := by
  show (ixN (ns rr).length (i : Int)).map (fun j => D.lst ((ns rr).set j (nI v))) = _
  have e : ixN (ns rr).length (i : Int) = some i := by
    unfold ixN
    simp [h]
  rw [e, Option.map_some]
  unfold ns
  rw [List.map_set]
theorem play (d : Nat) {n many : Nat} (hn : n < 8) (hm : many ≤ (prs n).length) {c : Nat} {p : D} (PP : Pen c p) (hc : c < 90000) : ∃ r t p', IsP n r t ∧ Pen (c + 21) p' ∧ cl (d + 4) 39 [.hd 0, .sh (nI n), .sh (nI many)] [p] = .ok (.sh (tN r)) [p'] := by
  have hp := prs_le n hn
  have lp := law_pairs (d + 2) n hn
  obtain ⟨ys, p', h1, h2, e⟩ := mixed (d + 1) PP (ns (List.range (prs n).length)) (by rw [ns_length, List.length_range]; omega) (by omega)
  obtain ⟨o, rfl, ho⟩ := perm_ns h1
  have hol : o.length = (prs n).length := by rw [ho.length_eq, List.length_range]
  have hq : (o.take many).Nodup := (ho.nodup_iff.mpr List.nodup_range).sublist (List.take_sublist _ _)
  have hlt : ∀ x ∈ o.take many, x < (prs n).length := fun x hx => List.mem_range.mp (ho.subset (List.mem_of_mem_take hx))
  have hql : (o.take many).length = many := by rw [List.length_take]; omega
  obtain ⟨I, hI⟩ := named (fun (k : Nat) (s : S) => ∃ rr x4 x5, PI (prs n).length (o.take many) k rr ∧ s = ⟨[.hd 0, .sh (nI n), .sh (nI many), .ow (.lst (ns rr)), x4, x5], [p']⟩)
  obtain ⟨s', e2, hs⟩ := forRun_nx (cm := cl (d + 3)) (flds := flds) (exm := exm) (g := .tp [(.nm 4), (.nm 5)]) (b := [.setI (.slot 3) (.slot 5) (.bin .Mod (.bi .int1 [(.slot 4)]) (.const (.int 2)))]) (ds := enumD 0 (ns (o.take many))) I (s := ⟨[.hd 0, .sh (nI n), .sh (nI many), .ow (.lst (ns (List.replicate (prs n).length 2))), .un, .un], [p']⟩) (by rw [hI]; exact ⟨_, _, _, pi_zero _ _, rfl⟩) (by
    intro k hk s hs
    rw [hI] at hs
    obtain ⟨rr, x4, x5, hpi, rfl⟩ := hs
    have hk2 : k < (o.take many).length := by rw [enumD_len, ns_length] at hk; exact hk
    rw [enumD_get, ns_get, Nat.zero_add]
    have hj := hlt _ (List.getElem_mem hk2)
    have st := pi_step hq hlt hk2 hpi
    have se := set_lst rr ((o.take many)[k]) (k % 2) (by rw [hpi.len]; exact hj)
    have md : binD .Mod (nI k) (.int 2) = some (.sh (nI (k % 2))) := bin_mod_nat (a := k) (b := 2) (by omega)
    generalize (o.take many)[k] = j at st se
    simp -dsimp -implicitDefEqProofs [md, se]
    rw [hI]
    exact ⟨_, _, _, st, rfl⟩)
  rw [hI] at hs
  obtain ⟨rr, x4, x5, hpi, rfl⟩ := hs
  rw [enumD_len, ns_length, hql] at hpi
  refine ⟨rr, (many + 1) / 2 - many / 2, p', ⟨hn, hpi.len, hpi.le, by rw [hpi.c0, hpi.c1]; omega, by omega⟩, h2.mono (by rw [ns_length, List.length_range]; omega), ?_⟩
  have m : binD .Mult (.lst [.int 2]) (.int ((prs n).length : Int)) = some (.ow (.lst (ns (List.replicate (prs n).length 2)))) := by
    have z := mul_lst1 (.int 2) (prs n).length (by omega)
    rw [show List.replicate (prs n).length (D.int 2) = ns (List.replicate (prs n).length 2) from ns_replicate _ 2] at z
    exact z
  have l1 : biD .len [.lst (tNs (prs n))] = some (.sh (nI (prs n).length)) := by rw [bi_len_lst, tNs_length]
  have l2 : biD .len [.lst (ns (List.replicate (prs n).length 2))] = some (.sh (nI (prs n).length)) := by rw [bi_len_lst, ns_length, List.length_replicate]
  have l3 := bi_listR (prs n).length (by omega)
  have ct : cutD (ns o) none (some (many : Int)) = ns (o.take many) := by
    rw [cut_take]
    unfold ns
    rw [List.map_take]
  have s1 : (1 : Nat) ≤ sizeLine := by decide
  rw [call39]
  simp -dsimp -implicitDefEqProofs [B39, lp, l1, l2, l3, m, e, ct, e2, s1]
theorem lap (c : Nat) (p : D) (PP : Pen c p) (hc : c < 80000) : ∃ n r many p1 p2 p3 p4 p5, Pen (c + 100) p5 ∧ cl 29 32 [.hd 0, .sh (.int 8)] [p] = .ok (.sh (nI n)) [p1] ∧ ((n : Int) * ((n : Int) - 1)).fdiv 2 = ((prs n).length : Int) ∧ small (n : Int) = true ∧
    cl 29 32 [.hd 0, .sh (.int ((prs n).length + 1))] [p1] = .ok (.sh (nI many)) [p2] ∧ cl 29 39 [.hd 0, .sh (nI n), .sh (nI many)] [p2] = .ok (.sh (tN r)) [p3] ∧ cl 29 44 [.hd 0, .sh (nI n), .sh (tN r)] [p3] = .ok (.sh (.bl true)) [p4] ∧ cl 29 45 [.sh (nI n), .sh (tN r)] [p4] = .ok (.sh (.bl true)) [p4] ∧ cl 29 46 [.hd 0, .sh (nI n), .sh (tN r)] [p4] = .ok (.sh (.bl true)) [p5] := by
  obtain ⟨n, p1, hn, P1, e1⟩ := draws 28 c 8 p PP (by omega) (by omega) (by omega)
  have hp := prs_le n hn
  obtain ⟨many, p2, hm, P2, e2⟩ := draws 28 (c + 1) ((prs n).length + 1) p1 P1 (by omega) (by omega) (by omega)
  obtain ⟨r, t, p3, hP, P3, e3⟩ := play 25 hn (many := many) (by omega) P2 (by omega)
  obtain ⟨p4, P4, e4⟩ := ties_right hP 21 P3 (by omega)
  have e5 := ends_right hP 20 [p4]
  obtain ⟨p5, P5, e6⟩ := errors_right hP 19 P4 (by omega)
  exact ⟨n, r, many, p1, p2, p3, p4, p5, P5.mono, e1, half n hn, small_nat (by omega), e2, e3, e4, e5, e6⟩
theorem law_ok (ns' : List Int) : ∃ om', cl 30 47 [.sh (.rol (ns'.map D.int))] [] = .ok (.sh (.bl true)) om' := by
  obtain ⟨p0, e0, P0⟩ := pen_made (cm := cl 28) (flds := flds) (exm := exm) ns'
  have e0 : cl 29 31 [.sh (.rol (ns'.map D.int))] [] = .ok (.ow p0) [] := by
    rw [call31]
    exact e0
  obtain ⟨n1, r1, m1, p1, p2, p3, p4, p5, P5, a1, a2, a3, a4, a5, a6, a7, a8⟩ := lap 0 p0 P0 (by omega)
  obtain ⟨n2, r2, m2, q1, q2, q3, q4, q5, Q5, b1, b2, b3, b4, b5, b6, b7, b8⟩ := lap 100 p5 P5 (by omega)
  obtain ⟨n3, r3, m3, s1, s2, s3, s4, s5, S5, c1, c2, c3, c4, c5, c6, c7, c8⟩ := lap 200 q5 Q5 (by omega)
  have rg : rngD 0 3 = [.int 0, .int 1, .int 2] := rfl
  have ir : inRng 3 = true := rfl
  have h2 : (2 : Int) ≠ 0 := by decide
  have h2b : (2 : Int).natAbs < 1073741824 := by decide
  refine ⟨[s5], ?_⟩
  rw [call47]
  simp -dsimp -implicitDefEqProofs [B47, e0, ir, rg, forRun_cons, forRun_nil, bin_div h2 h2b, a1, a2, bin_mul_l a3, a4, a5, a6, a7, a8, b1, b2, bin_mul_l b3, b4, b5, b6, b7, b8, c1, c2, bin_mul_l c3, c4, c5, c6, c7, c8]
end LW

namespace LW
theorem law_ev (ns' : List Int) : ∃ om', VM.callN tab flds exm 30 47 [.sh (.rol (ns'.map VM.D.int))] [] = .ok (.sh (.bl true)) om' := by
  have h := law_ok ns'
  unfold cl at h
  exact h
end LW

open PySem PySem.W PyProof.Rows
set_option maxRecDepth 100000 in
set_option maxHeartbeats 8000000 in
theorem PySem.Challenge.cw_surehues_k96_whole_ties_by_turns_holds : PySem.Challenge.rw_surehues_k96_whole_ties_by_turns.Holds := by
  exact LW.holds_of fun ns _ _ => LW.law_ev ns
