import PyProof.Rows.All
import Wide.All
import OpenK.AllK
import Wide.FinOn
import KE.KStateDown
import Lean
import HandS.ForMost
import HandS.ForExc
import HandS.Words
import HandS.WordsExc
import HandS.Defaults
import HandS.TupAny
import HandS.Deep
import HandS.Style
import HandS.Replace
import HandS.Strs
import HandS.Conv
import HandS.ExcValue
import HandS.ExcIs
import KE.SortData
import HandS.SetFor
import HandS.Head0
import HandS.Head1
import HandS.Head2
import HandS.HeadEnd
import HandS.HeadHook1
import HandS.HeadHook2
import HandS.IsInst
import HandS.Zip
import HandS.Iter
import HandS.Text
import HandS.TryOnly
import KE.GoesMore
import KE.GoesZip
import KE.GoesEnum
import HandS.Codes
import KE.KDictPairs
import KE.KDictKeyed
import KE.KeyNested
import HandS.DictTup
import HandS.TupMul
import HandS.HeadHook4
import HandS.FStr
import HandS.Conv
import HandS.TupLen
import KE.DataFind
import PySem.Challenge.RW_partworld_k81_whole_there_and_back
set_option Elab.async false
set_option linter.all false
set_option maxRecDepth 100000
set_option maxHeartbeats 0
/-! Mini: a small interpreter. Values with tuples (and new lists) as plain values; a heap of lists, dicts, instances. -/
namespace Mi

inductive D where
  | non | bl (b : Bool) | int (i : Int) | str (s : List Nat) | tup (xs : List D) | lst (xs : List D) | ref (n : Nat) | exc (c : String) | cst (xs : List D)
  deriving Repr

mutual
def D.beq : D → D → Bool
  | .non, .non => true
  | .bl a, .bl b => a == b
  | .int a, .int b => a == b
  | .str a, .str b => a == b
  | .tup a, .tup b => D.beqs a b
  | .lst a, .lst b => D.beqs a b
  | .ref a, .ref b => a == b
  | .exc a, .exc b => a == b
  | .cst a, .cst b => D.beqs a b
  | _, _ => false
def D.beqs : List D → List D → Bool
  | [], [] => true
  | x :: xs, y :: ys => D.beq x y && D.beqs xs ys
  | _, _ => false
end
mutual
theorem D.beq_iff : ∀ a b : D, D.beq a b = true ↔ a = b
  | .non, b => by cases b <;> simp [D.beq]
  | .bl _, b => by cases b <;> simp [D.beq]
  | .int _, b => by cases b <;> simp [D.beq]
  | .str _, b => by cases b <;> simp [D.beq]
  | .tup xs, b => by
    cases b <;> simp [D.beq]
    exact D.beqs_iff xs _
  | .lst xs, b => by
    cases b <;> simp [D.beq]
    exact D.beqs_iff xs _
  | .ref _, b => by cases b <;> simp [D.beq]
  | .exc _, b => by cases b <;> simp [D.beq]
  | .cst xs, b => by
    cases b <;> simp [D.beq]
    exact D.beqs_iff xs _
theorem D.beqs_iff : ∀ a b : List D, D.beqs a b = true ↔ a = b
  | [], b => by cases b <;> simp [D.beqs]
  | x :: xs, b => by
    cases b with
    | nil => simp [D.beqs]
    | cons y ys => simp [D.beqs, D.beq_iff x y, D.beqs_iff xs ys]
end
instance : DecidableEq D := fun a b => decidable_of_iff _ (D.beq_iff a b)

inductive Ob where
  | lst (xs : List D) | frz (xs : List D) | dic (t : Bool) (kvs : List (D × D)) | ins (c : String) (fs : List (String × D))
  deriving DecidableEq, Repr

/-- the newest object stands first; its address is the number of those behind it -/
abbrev Hp := List Ob
def get : Hp → Nat → Option Ob
  | [], _ => none
  | o :: h, a => if a = h.length then some o else get h a
def put : Hp → Nat → Ob → Hp
  | [], _, _ => []
  | o :: h, a, u => if a = h.length then u :: h else o :: put h a u
/-- the oldest n objects -/
def trunc (n : Nat) : Hp → Hp
  | [] => []
  | o :: h => if n ≤ h.length then trunc n h else o :: h

inductive Out (α : Type) where
  | ok (a : α) (h : Hp)
  | exc (c : String) (h : Hp)
  | bad
  deriving Repr
def Out.bd {α β : Type} (x : Out α) (f : α → Hp → Out β) : Out β := match x with
  | .ok a h => f a h
  | .exc c h => .exc c h
  | .bad => .bad
def ofO {α : Type} (x : Option α) (h : Hp) : Out α := match x with
  | some a => .ok a h
  | none => .bad
/-- no exception may come out -/
def Out.calm {α : Type} (x : Out α) : Out α := match x with
  | .exc _ _ => .bad
  | x => x

/-! ### the text -/
inductive BO where | add | sub | mul | fdv | mod | pow | band
  deriving DecidableEq, Repr
inductive CO where | eq | ne | lt | le | gt | ge | inn | nin
  deriving DecidableEq, Repr
inductive IK where | e | rng | rng2 | enum | zip
  deriving DecidableEq, Repr
inductive Bi where
  | len | tuple | list | sorted | sortedSet | lenSet | all | any | sum | max | min | max2 | min2 | dict | str | int | ord | sortedItems | valuesL | maxDef
  deriving DecidableEq, Repr
inductive Ty where | int | str | bool | list | tuple | dict | own (c : String)
  deriving DecidableEq, Repr
inductive Tg where
  | v (i : Nat) | t (is : List Nat)
  deriving DecidableEq, Repr
inductive E where
  | nil | non | bl (b : Bool) | int (i : Int) | str (s : List Nat) | var (i : Nat) | glo (x : String)
  | bin (o : BO) (a b : E) | neg (a : E) | not (a : E) | and (es : List E) | or (es : List E)
  | cmp (o : CO) (a b : E) | chain (o1 o2 : CO) (a b c : E) | isN (a : E) | notN (a : E) | ite (c a b : E)
  | call (f : String) (es : List E) | bi (f : Bi) (es : List E) | mth (m : String) (o : E) (es : List E) | new (c : String) (es : List E)
  | fld (o : E) (f : String) | idx (a b : E) | slc (a lo hi : E) | rev (a : E)
  | tup (es : List E) | lst (es : List E) | dic (t : Bool) (ks vs : List E)
  | comp (own : List Nat) (t : Tg) (k : IK) (a b : E) (cond elt : E)
  | lsI (k : IK) (a b : E) | isi (a : E) (ty : Ty) | isB (a : E) (b neg : Bool)
  deriving Repr
inductive Hd where
  | keep (i j : Nat) | retv (i : Nat) | cont
  deriving Repr
inductive S where
  | asg (t : Tg) (e : E) | fset (o : E) (f : String) (e : E) | sset (o i e : E) | ex (e : E) | ret (e : E) | ite (c : E) (a b : List S)
  | forr (t : Tg) (k : IK) (a b : E) (body : List S) | whil (c : E) (body : List S) | brk | cnt | pass | raise (c : String)
  | tryy (body : List S) (c : String) (h : Hd)
  deriving Repr
structure Fd where
  np : Nat
  nl : Nat
  body : List S
abbrev Env := List (Option D)

/-! ### operations on values -/
def lim : Nat := 16777216
def okLen (n : Nat) : Bool := decide (n ≤ 16777216)

mutual
/-- == of values without objects (new lists are values) -/
def eqD : D → D → Bool
  | .non, .non => true
  | .bl a, .bl b => a == b
  | .bl a, .int j => (if a then 1 else 0) == j
  | .int i, .bl b => i == (if b then 1 else 0)
  | .int a, .int b => a == b
  | .str a, .str b => a == b
  | .tup a, .tup b => eqDs a b
  | .lst a, .lst b => eqDs a b
  | _, _ => false
def eqDs : List D → List D → Bool
  | [], [] => true
  | x :: xs, y :: ys => eqD x y && eqDs xs ys
  | _, _ => false
end
mutual
/-- a value as plain data: lists of the heap are read (n: how deep) -/
def plainD (h : Hp) : Nat → D → Option D
  | _, .non => some .non
  | _, .bl b => some (.bl b)
  | _, .int i => some (.int i)
  | _, .str s => some (.str s)
  | 0, _ => none
  | n + 1, .tup xs => (plainDs h n xs).map .tup
  | n + 1, .lst xs => (plainDs h n xs).map .lst
  | n + 1, .ref a => (match get h a with
    | some (.lst xs) => (plainDs h n xs).map .lst
    | some (.frz xs) => (plainDs h n xs).map .lst
    | _ => none)
  | n + 1, .cst xs => (plainDs h n xs).map .lst
  | _, .exc _ => none
def plainDs (h : Hp) : Nat → List D → Option (List D)
  | _, [] => some []
  | n, x :: xs => (plainD h n x).bind fun y => (plainDs h n xs).map fun ys => y :: ys
end
def deep : Nat := 40
def eqV (x y : D) (h : Hp) : Option Bool := (plainD h deep x).bind fun a => (plainD h deep y).map fun b => eqD a b

mutual
/-- as the kit's data -/
def toPy : D → PySem.PyData
  | .non => .none
  | .bl b => .bool b
  | .int i => .int i
  | .str s => .str ⟨s.toArray⟩
  | .tup xs => .tuple (toPys xs)
  | .lst xs => .list (toPys xs)
  | .ref _ => .none
  | .exc _ => .none
  | .cst _ => .none
def toPys : List D → List PySem.PyData
  | [] => []
  | x :: xs => toPy x :: toPys xs
end
/-- ≤ of alike values (ints, texts, tuples of such) -/
def leD (a b : D) : Bool := !PySem.W.dataLt (toPy b) (toPy a)
def srt (xs : List D) : List D := xs.mergeSort leD
mutual
def alikeD : D → D → Bool
  | .int _, .int _ => true
  | .str _, .str _ => true
  | .tup xs, .tup ys => alikeDs xs ys
  | _, _ => false
def alikeDs : List D → List D → Bool
  | x :: xs, y :: ys => alikeD x y && alikeDs xs ys
  | [], _ => true
  | _ :: _, [] => true
end
def tup1 : D → Bool
  | .tup (_ :: _) => true
  | _ => false
def notTup : D → Bool
  | .tup _ => false
  | _ => true
/-- what sorted may be given -/
def sortable (xs : List D) : Bool := (xs.all fun a => decide ((toPy a).depth ≤ 40) && xs.all fun b => alikeD a b) && (xs.all tup1 || xs.all notTup)

def truth (d : D) (h : Hp) : Option Bool := match d with
  | .non => some false
  | .bl b => some b
  | .int i => some (i != 0)
  | .str s => some (!s.isEmpty)
  | .tup xs => some (!xs.isEmpty)
  | .lst xs => some (!xs.isEmpty)
  | .ref a => (match get h a with
    | some (.lst xs) => some (!xs.isEmpty)
    | some (.frz xs) => some (!xs.isEmpty)
    | _ => none)
  | .cst xs => some (!xs.isEmpty)
  | .exc _ => none
/-- the items of a list (a new one, or one of the heap) -/
def listOf (d : D) (h : Hp) : Option (List D) := match d with
  | .lst xs => some xs
  | .cst xs => some xs
  | .ref a => (match get h a with
    | some (.lst xs) => some xs
    | some (.frz xs) => some xs
    | _ => none)
  | _ => none
/-- .. that is no locked one -/
def mutOf (d : D) (h : Hp) : Option (List D) := match d with
  | .lst xs => some xs
  | .ref a => (match get h a with
    | some (.lst xs) => some xs
    | _ => none)
  | _ => none
def seqOf (d : D) (h : Hp) : Option (List D) := match d with
  | .tup xs => some xs
  | d => listOf d h
/-- what is walked -/
def itemsOf (d : D) (h : Hp) : Option (List D) := match d with
  | .tup xs => some xs
  | .str s => some (s.map fun c => .str [c])
  | d => listOf d h

def atI {α : Type} (xs : List α) (i : Int) : Option α :=
  if 0 ≤ i then xs[i.toNat]? else if -(xs.length : Int) ≤ i then xs[(i + xs.length).toNat]? else none
def sIx (n d : Nat) : Option Int → Nat
  | none => d
  | some v => if v < 0 then (v + (n : Int)).toNat else min v.toNat n
def cut {α : Type} (xs : List α) (lo hi : Option Int) : List α := (xs.drop (sIx xs.length 0 lo)).take (sIx xs.length xs.length hi - sIx xs.length 0 lo)

def smallI (i : Int) : Bool := decide (-18446744073709551616 < i) && decide (i < 18446744073709551616)
def binV (o : BO) (x y : D) (h : Hp) : Option D := match o with
  | .add => (match x, y with
    | .int i, .int j => some (.int (i + j))
    | .str s, .str t => if okLen (s.length + t.length) then some (.str (s ++ t)) else none
    | .tup s, .tup t => if okLen (s.length + t.length) then some (.tup (s ++ t)) else none
    | x, y => (match mutOf x h, mutOf y h with
      | some s, some t => if okLen (s.length + t.length) then some (.lst (s ++ t)) else none
      | _, _ => none))
  | .sub => (match x, y with
    | .int i, .int j => some (.int (i - j))
    | _, _ => none)
  | .mul => (match x, y with
    | .int i, .int j => if smallI i || smallI j then some (.int (i * j)) else none
    | .lst [d], .int j => if okLen j.toNat = true ∧ -9223372036854775808 ≤ j then some (.lst (List.replicate j.toNat d)) else none
    | _, _ => none)
  | .fdv => (match x, y with
    | .int i, .int j => if 0 < j ∧ j < 1073741824 then some (.int (i / j)) else none
    | _, _ => none)
  | .mod => (match x, y with
    | .int i, .int j => if 0 < j then some (.int (i % j)) else none
    | _, _ => none)
  | .pow => (match x, y with
    | .int i, .int j => if 0 ≤ j ∧ j ≤ 1000000 ∧ smallI i = true then some (.int (i ^ j.toNat)) else none
    | _, _ => none)
  | .band => (match x, y with
    | .int i, .int j => if 0 ≤ i ∧ 0 ≤ j then some (.int ((i.toNat &&& j.toNat : Nat) : Int)) else none
    | _, _ => none)
/-- a dict of the heap (false: keys are whole numbers and texts; true: tuples of such) -/
def dicOf (x : D) (h : Hp) : Option (Bool × List (D × D)) := match x with
  | .ref a => (match get h a with
    | some (.dic t kvs) => some (t, kvs)
    | _ => none)
  | _ => none
mutual
/-- a key of a dict whose keys are tuples, nested perhaps -/
def keyN : Nat → D → Bool
  | _, .non => true
  | _, .int _ => true
  | _, .str _ => true
  | 0, _ => false
  | n + 1, .tup xs => keyNs n xs
  | _ + 1, .bl _ => false
  | _ + 1, .lst _ => false
  | _ + 1, .ref _ => false
  | _ + 1, .exc _ => false
  | _ + 1, .cst _ => false
def keyNs : Nat → List D → Bool
  | _, [] => true
  | n, x :: xs => keyN n x && keyNs n xs
end
def keyB (t : Bool) (k : D) : Bool := match k with
  | .int _ => !t
  | .str _ => !t
  | .tup xs => t && keyNs 5 xs
  | _ => false
def lookD (k : D) : List (D × D) → Option D
  | [] => none
  | (j, v) :: r => if eqD j k then some v else lookD k r
def inV (x y : D) (h : Hp) : Option Bool := match y with
  | .str t => (match x with
    | .str [c] => some (t.contains c)
    | _ => none)
  | y => (match dicOf y h with
    | some p => if keyB p.1 x = true then some (lookD x p.2).isSome else none
    | none => (plainD h deep x).bind fun a => (seqOf y h).bind fun ys => (plainDs h deep ys).map fun bs => bs.any fun b => eqD b a)
def cmpV (o : CO) (x y : D) (h : Hp) : Option Bool := match o with
  | .eq => eqV x y h
  | .ne => (eqV x y h).map (!·)
  | .lt => (match x, y with
    | .int i, .int j => some (decide (i < j))
    | _, _ => none)
  | .le => (match x, y with
    | .int i, .int j => some (decide (i ≤ j))
    | _, _ => none)
  | .gt => (match x, y with
    | .int i, .int j => some (decide (j < i))
    | _, _ => none)
  | .ge => (match x, y with
    | .int i, .int j => some (decide (j ≤ i))
    | _, _ => none)
  | .inn => inV x y h
  | .nin => (inV x y h).map (!·)
def idxV (x y : D) (h : Hp) : Option D := match x with
  | .str s => (match y with
    | .int i => (atI s i).map fun c => .str [c]
    | _ => none)
  | .tup xs => (match y with
    | .int i => atI xs i
    | _ => none)
  | x => (match dicOf x h with
    | some p => if keyB p.1 y = true then lookD y p.2 else none
    | none => (listOf x h).bind fun xs => (match y with
      | .int i => atI xs i
      | _ => none))
def slcV (x : D) (lo hi : Option Int) (h : Hp) : Option D := match x with
  | .str s => some (.str (cut s lo hi))
  | .tup xs => some (.tup (cut xs lo hi))
  | x => (listOf x h).map fun xs => .lst (cut xs lo hi)
def revV (x : D) (h : Hp) : Option D := (listOf x h).map fun xs => .lst xs.reverse

/-- a new list gets its place -/
def sto (d : D) (h : Hp) : D × Hp := match d with
  | .lst xs => (.ref h.length, .lst xs :: h)
  | d => (d, h)

mutual
def below (n : Nat) : D → Bool
  | .ref a => decide (a < n)
  | .tup xs => belows n xs
  | .lst xs => belows n xs
  | .cst xs => belows n xs
  | _ => true
def belows (n : Nat) : List D → Bool
  | [] => true
  | x :: xs => below n x && belows n xs
end
def belowO (n : Nat) : Ob → Bool
  | .lst xs => belows n xs
  | .frz xs => belows n xs
  | .dic _ kvs => kvs.all fun p => below n p.1 && below n p.2
  | .ins _ fs => fs.all fun p => below n p.2
/-- behind a call: what it made and nobody holds is forgotten; a list of its own that it tells is a new list again -/
def gcOk (h0 t : Hp) : Bool := decide (t = h0) || t.all (belowO h0.length)
def closeD (h0 : Hp) (d : D) (h' : Hp) : Out D :=
  if h'.length = h0.length then .ok d h'
  else if gcOk h0 (trunc h0.length h') = true then
    (if below h0.length d then .ok d (trunc h0.length h')
    else match d with
      | .ref a => (match get h' a with
        | some (.lst xs) => if belows h0.length xs then .ok (.lst xs) (trunc h0.length h') else .ok d h'
        | _ => .ok d h')
      | _ => .ok d h')
  else .ok d h'
def close (h0 : Hp) : Out D → Out D
  | .ok d h' => closeD h0 d h'
  | .exc c h' => if h'.length = h0.length then .exc c h' else if gcOk h0 (trunc h0.length h') = true then .exc c (trunc h0.length h') else .exc c h'
  | .bad => .bad

/-- texts, each once -/
def uniqT : List (List Nat) → List (List Nat)
  | [] => []
  | z :: zs => if z ∈ zs then uniqT zs else z :: uniqT zs
def leT (a b : List Nat) : Bool := !decide (b < a)
def setT (zs : List (List Nat)) : List (List Nat) := (uniqT zs).mergeSort leT

def boolsOf : List D → Option (List Bool)
  | [] => some []
  | .bl b :: r => (boolsOf r).map (b :: ·)
  | _ => none
def intsOf : List D → Option (List Int)
  | [] => some []
  | .int i :: r => (intsOf r).map (i :: ·)
  | _ => none
def storeD (k v : D) (kvs : List (D × D)) : List (D × D) := if kvs.any (fun p => eqD p.1 k) = true then kvs.map fun p => if eqD p.1 k = true then (p.1, v) else p else kvs ++ [(k, v)]
def dropD (k : D) (kvs : List (D × D)) : List (D × D) := kvs.filter fun p => !eqD p.1 k
def pairsOf : List D → Option (List (D × D))
  | [] => some []
  | .tup [k, v] :: r => (pairsOf r).map ((k, v) :: ·)
  | _ => none
def mergeD (acc : List (D × D)) : List (D × D) → List (D × D)
  | [] => acc
  | (k, v) :: r => mergeD (storeD k v acc) r
def strI (i : Int) : List Nat := (toString i).toList.map Char.toNat
def maxL : List Int → Option Int
  | [] => none
  | [x] => some x
  | x :: r => (maxL r).map fun m => if m > x then m else x
def minL : List Int → Option Int
  | [] => none
  | [x] => some x
  | x :: r => (minL r).map fun m => if m < x then m else x
/-- a dict's items -/
def itD (kvs : List (D × D)) : List D := kvs.map fun p => .tup [p.1, p.2]
def strsOf : List D → Option (List (List Nat))
  | [] => some []
  | .str s :: r => (strsOf r).map (s :: ·)
  | _ => none

def biV (f : Bi) (ds : List D) (h : Hp) : Out D := match f, ds with
  | .len, [d] => (match d with
    | .str s => .ok (.int s.length) h
    | d => (match dicOf d h with
      | some p => .ok (.int p.2.length) h
      | none => ofO ((seqOf d h).map fun xs => .int xs.length) h))
  | .tuple, [d] => ofO ((seqOf d h).map .tup) h
  | .list, [d] => (match dicOf d h with
    | some p => .ok (.lst (p.2.map (·.1))) h
    | none => ofO ((itemsOf d h).map .lst) h)
  | .sorted, [d] => ofO ((listOf d h).bind fun xs => if sortable xs = true then some (.lst (srt xs)) else none) h
  | .sortedSet, [d] => ofO (((itemsOf d h).bind strsOf).bind fun zs => if zs.length ≤ 4000 then some (.lst ((setT zs).map .str)) else none) h
  | .lenSet, [d] => ofO (((itemsOf d h).bind strsOf).bind fun zs => if zs.length ≤ 4000 then some (.int (uniqT zs).length) else none) h
  | .all, [d] => ofO (((listOf d h).bind boolsOf).map fun bs => .bl (bs.all id)) h
  | .any, [d] => ofO (((listOf d h).bind boolsOf).map fun bs => .bl (bs.any id)) h
  | .sum, [d] => ofO (((listOf d h).bind intsOf).map fun bs => .int bs.sum) h
  | .max, [d] => ofO (((listOf d h).bind intsOf).bind fun bs => (maxL bs).map .int) h
  | .min, [d] => ofO (((listOf d h).bind intsOf).bind fun bs => (minL bs).map .int) h
  | .max2, [.int i, .int j] => .ok (.int (if j > i then j else i)) h
  | .min2, [.int i, .int j] => .ok (.int (if j < i then j else i)) h
  | .str, [.int i] => if i.natAbs.log2 < 1920 ∧ okLen (strI i).length = true then .ok (.str (strI i)) h else .bad
  | .int, [.bl b] => .ok (.int (if b then 1 else 0)) h
  | .int, [.int i] => .ok (.int i) h
  | .ord, [.str [c]] => .ok (.int c) h
  | .dict, [d] => (match dicOf d h with
    | some (false, kvs) => .ok (.ref h.length) (.dic false kvs :: h)
    | some _ => .bad
    | none => (match (seqOf d h).bind pairsOf with
      | some ps => if (ps.all fun p => keyB false p.1) = true then .ok (.ref h.length) (.dic false (mergeD [] ps) :: h) else .bad
      | none => .bad))
  | .sortedItems, [d] => (match dicOf d h with
    | some (false, kvs) => if sortable (itD kvs) = true then .ok (.lst (srt (itD kvs))) h else .bad
    | _ => .bad)
  | .valuesL, [d] => (match dicOf d h with
    | some p => .ok (.lst (p.2.map (·.2))) h
    | none => .bad)
  | .maxDef, [d] => ofO (((listOf d h).bind intsOf).map fun bs => .int ((maxL bs).getD 0)) h
  | _, _ => .bad

def findI (x : D) : Nat → List D → Option Nat
  | _, [] => none
  | i, y :: ys => if eqD y x then some i else findI x (i + 1) ys
def joinS (sep : List Nat) : List (List Nat) → List Nat
  | [] => []
  | [s] => s
  | s :: r => s ++ sep ++ joinS sep r
def splitS (c : Nat) : List Nat → List (List Nat)
  | [] => [[]]
  | x :: r => if x = c then [] :: splitS c r else (match splitS c r with
    | [] => [[x]]
    | s :: t => (x :: s) :: t)
def lookF (f : String) : List (String × D) → Option D
  | [] => none
  | (g, v) :: r => if g = f then some v else lookF f r
def putF (f : String) (v : D) : List (String × D) → List (String × D)
  | [] => [(f, v)]
  | (g, u) :: r => if g = f then (g, v) :: r else (g, u) :: putF f v r

/-- which kind of object (0: none that has methods here) -/
def kindD (x : D) (h : Hp) : Nat := match x with
  | .str _ => 1
  | .lst _ => 2
  | .ref a => (match get h a with
    | some (.lst _) => 2
    | some (.dic _ _) => 3
    | _ => 0)
  | _ => 0
/-- the methods of a kind -/
def mok (m : String) : Nat → Bool
  | 1 => m == "join" || m == "upper" || m == "lower" || m == "index"
  | 3 => m == "get" || m == "pop" || m == "setdefault" || m == "update"
  | 2 => m == "append" || m == "extend" || m == "pop" || m == "reverse" || m == "clear" || m == "index" || m == "count" || m == "remove"
  | _ => false
/-- an instance: its class, its fields -/
def insOf (x : D) (h : Hp) : Option (String × List (String × D)) := match x with
  | .ref a => (match get h a with
    | some (.ins c fs) => some (c, fs)
    | _ => none)
  | _ => none
def upC (c : Nat) : Nat := if 97 ≤ c ∧ c ≤ 122 then c - 32 else c
def loC (c : Nat) : Nat := if 65 ≤ c ∧ c ≤ 90 then c + 32 else c
def ascS (s : List Nat) : Bool := decide (s.length ≤ 5592405) && s.all fun c => decide (c < 128)
def strM (m : String) (s : List Nat) (ds : List D) (h : Hp) : Out D :=
  if m = "join" then (match ds with
    | [d] => (match (listOf d h).bind strsOf with
      | some xs => if (xs.map List.length).sum + xs.length * s.length ≤ 16777216 then .ok (.str (joinS s xs)) h else .bad
      | none => .bad)
    | _ => .bad)
  else if m = "upper" then (match ds with
    | [] => if ascS s = true then .ok (.str (s.map upC)) h else .bad
    | _ => .bad)
  else if m = "lower" then (match ds with
    | [] => if ascS s = true then .ok (.str (s.map loC)) h else .bad
    | _ => .bad)
  else if m = "index" then (match ds with
    | [.str [c]] => (match s.findIdx? (· == c) with
      | some i => .ok (.int i) h
      | none => .bad)
    | _ => .bad)
  else .bad
/-- what a list tells -/
def lstM0 (m : String) (xs : List D) (ds : List D) (h : Hp) : Out D :=
  if m = "index" then (match ds with
    | [d] => (match (plainDs h deep xs).bind fun ys => (plainD h deep d).bind fun x => findI x 0 ys with
      | some i => .ok (.int i) h
      | none => .bad)
    | _ => .bad)
  else if m = "count" then (match ds with
    | [d] => (match (plainDs h deep xs).bind fun ys => (plainD h deep d).map fun x => (ys.filter fun y => eqD y x).length with
      | some i => .ok (.int i) h
      | none => .bad)
    | _ => .bad)
  else .bad
def lstM (m : String) (a : Nat) (xs : List D) (ds : List D) (h : Hp) : Out D :=
  if m = "append" then (match ds with
    | [d] => if xs.length < 16777216 then .ok .non (put h a (.lst (xs ++ [d]))) else .bad
    | _ => .bad)
  else if m = "extend" then (match ds with
    | [d] => (match mutOf d h with
      | some ys => if okLen (xs.length + ys.length) then .ok .non (put h a (.lst (xs ++ ys))) else .bad
      | none => .bad)
    | _ => .bad)
  else if m = "pop" then (match ds with
    | [] => (match xs[xs.length - 1]? with
      | some d => .ok d (put h a (.lst xs.dropLast))
      | none => .bad)
    | [.int i] => if -4611686018427387904 ≤ i ∧ i ≤ 16777216 then (match PySem.seqIndex? i xs.length with
      | some k => (match xs[k]? with
        | some d => .ok d (put h a (.lst (xs.eraseIdx k)))
        | none => .bad)
      | none => .bad) else .bad
    | _ => .bad)
  else if m = "remove" then (match ds with
    | [d] => (match (plainDs h deep xs).bind fun ys => (plainD h deep d).bind fun x => findI x 0 ys with
      | some i => .ok .non (put h a (.lst (xs.eraseIdx i)))
      | none => .bad)
    | _ => .bad)
  else if m = "reverse" then (match ds with
    | [] => .ok .non (put h a (.lst xs.reverse))
    | _ => .bad)
  else if m = "clear" then (match ds with
    | [] => .ok .non (put h a (.lst []))
    | _ => .bad)
  else lstM0 m xs ds h
def dicM (m : String) (a : Nat) (t : Bool) (kvs : List (D × D)) (ds : List D) (h : Hp) : Out D :=
  if m = "get" then (match ds with
    | [k] => if keyB t k = true then .ok ((lookD k kvs).getD .non) h else .bad
    | [k, x] => if keyB t k = true then .ok ((lookD k kvs).getD x) h else .bad
    | _ => .bad)
  else if m = "pop" then (match ds with
    | [k] => if keyB t k = true then (match lookD k kvs with
      | some v => .ok v (put h a (.dic t (dropD k kvs)))
      | none => .bad) else .bad
    | [k, x] => if keyB t k = true then (match lookD k kvs with
      | some v => .ok v (put h a (.dic t (dropD k kvs)))
      | none => .ok x h) else .bad
    | _ => .bad)
  else if m = "setdefault" then (match ds with
    | [k, x] => if keyB t k = true ∧ kvs.length < 16777216 then (match lookD k kvs with
      | some v => .ok v h
      | none => .ok x (put h a (.dic t (storeD k x kvs)))) else .bad
    | _ => .bad)
  else if m = "update" then (match ds with
    | [.ref b] => (match get h b with
      | some (.dic false ps) => if b ≠ a ∧ t = false ∧ kvs.length + ps.length ≤ 16777216 then .ok .non (put h a (.dic false (mergeD kvs ps))) else .bad
      | _ => .bad)
    | _ => .bad)
  else .bad
def mthV (m : String) (x : D) (ds : List D) (h : Hp) : Out D := match x with
  | .str s => strM m s ds h
  | .lst xs => lstM0 m xs ds h
  | .ref a => (match get h a with
    | some (.lst xs) => lstM m a xs ds h
    | some (.dic t kvs) => dicM m a t kvs ds h
    | _ => .bad)
  | _ => .bad

def tyB (d : D) (t : Ty) (h : Hp) : Option Bool := match d with
  | .exc _ => none
  | .non => some false
  | .bl _ => some (t = .bool || t = .int)
  | .int _ => some (t = .int)
  | .str _ => some (t = .str)
  | .tup _ => some (t = .tuple)
  | .lst _ => some (t = .list)
  | .cst _ => some (t = .list)
  | .ref a => (match get h a with
    | some (.lst _) => some (t = .list)
    | some (.frz _) => some (t = .list)
    | _ => none)
def tyV (d : D) (t : Ty) (h : Hp) (sub : String → String → Option Bool) : Option Bool := match t with
  | .own b => (match d with
    | .exc c => sub c b
    | _ => none)
  | .int => tyB d .int h
  | .str => tyB d .str h
  | .bool => tyB d .bool h
  | .list => tyB d .list h
  | .tuple => tyB d .tuple h
  | .dict => tyB d .dict h

/-! ### the run -/
/-- what stands around: functions, module's constants, classes of errors (below) -/
structure Ctx where
  fn : String × String → List D → Hp → Out D
  fi : String × String → List D → Hp → Out D
  glo : String → Option D
  sub : String → String → Option Bool
  isb : String → String → Option Bool
  hm : String × String → Bool

def wipe (own : List Nat) (ρ : Env) : Env := own.foldl (fun r i => r.set i none) ρ
def bind1 (is : List Nat) (ds : List D) (ρ : Env) : Option Env := match is, ds with
  | [], [] => some ρ
  | i :: is, d :: ds => bind1 is ds (ρ.set i (some d))
  | _, _ => none
/-- a target: a value that stands (no new list) -/
def bindT (t : Tg) (d : D) (ρ : Env) (h : Hp) : Option Env := match t with
  | .v i => some (ρ.set i (some d))
  | .t is => (seqOf d h).bind fun xs => bind1 is xs ρ

/-- the items that a walk gives, and the places that must stay as they are meanwhile -/
def walkV (k : IK) (x y : D) (h : Hp) : Option (List D) := match k with
  | .e => itemsOf x h
  | .rng => (match x with
    | .int n => if -4611686018427387904 ≤ n ∧ n ≤ 16777216 then some ((List.range n.toNat).map fun (i : Nat) => .int (i : Int)) else none
    | _ => none)
  | .rng2 => (match x, y with
    | .int a, .int b => if (-4611686018427387904 ≤ a ∧ a ≤ 16777216) ∧ (-4611686018427387904 ≤ b ∧ b ≤ 16777216) ∧ b - a ≤ 16777216 then some ((List.range (b - a).toNat).map fun (i : Nat) => .int (a + (i : Int))) else none
    | _, _ => none)
  | .enum => (itemsOf x h).map fun xs => xs.zipIdx.map fun p => .tup [.int p.2, p.1]
  | .zip => (itemsOf x h).bind fun xs => (itemsOf y h).map fun ys => (xs.zip ys).map fun p => .tup [p.1, p.2]
def refs : D → List Nat
  | .ref a => [a]
  | _ => []
def same (as : List Nat) (h0 h : Hp) : Bool := as.all fun a => decide (get h a = get h0 a)

def compL (f : D → Hp → Out (Option D)) : List D → Hp → Out (List D)
  | [], h => .ok [] h
  | d :: ds, h => (f d h).bd fun r h1 => (compL f ds h1).bd fun rs h2 => .ok (match r with
    | some x => x :: rs
    | none => rs) h2
/-- one turn of a comprehension -/
def compT (t : Tg) (ρ : Env) (h0 : Hp) (as : List Nat) (c e : Env → Hp → Out D) (d : D) (h : Hp) : Out (Option D) :=
  if same as h0 h then (match bindT t d ρ h with
    | some ρ1 => (c ρ1 h).bd fun b h1 => (match truth b h1 with
      | some true => (e ρ1 h1).bd fun x h2 => .ok (some (sto x h2).1) (sto x h2).2
      | some false => .ok none h1
      | none => .bad)
    | none => .bad)
  else .bad

def optI (d : D) : Option (Option Int) := match d with
  | .int i => some (some i)
  | _ => none
def E.isNil : E → Bool
  | .nil => true
  | _ => false
/-- a part that may be left out -/
def evN (e : E) (f : Env → Hp → Out D) (ρ : Env) (h : Hp) : Out D := if e.isNil then .ok .non h else f ρ h
def evI (e : E) (f : Env → Hp → Out D) (ρ : Env) (h : Hp) : Out (Option Int) := if e.isNil then .ok none h else (f ρ h).bd fun x h1 => ofO (optI x) h1
mutual
def ev (C : Ctx) : E → Env → Hp → Out D
  | .nil, _, _ => .bad
  | .non, _, h => .ok .non h
  | .bl b, _, h => .ok (.bl b) h
  | .int i, _, h => .ok (.int i) h
  | .str s, _, h => .ok (.str s) h
  | .var i, ρ, h => (match ρ[i]? with
    | some (some d) => .ok d h
    | _ => .bad)
  | .glo x, _, h => ofO (C.glo x) h
  | .bin o a b, ρ, h => (ev C a ρ h).bd fun x h1 => (ev C b ρ h1).bd fun y h2 => ofO (binV o x y h2) h2
  | .neg a, ρ, h => (ev C a ρ h).bd fun x h1 => (match x with
    | .int i => .ok (.int (-i)) h1
    | _ => .bad)
  | .not a, ρ, h => (ev C a ρ h).bd fun x h1 => ofO ((truth x h1).map fun b => .bl (!b)) h1
  | .and es, ρ, h => evA C es ρ h
  | .or es, ρ, h => evO C es ρ h
  | .cmp o a b, ρ, h => (ev C a ρ h).bd fun x h1 => (ev C b ρ h1).bd fun y h2 => ofO ((cmpV o x y h2).map .bl) h2
  | .chain o1 o2 a b c, ρ, h => (ev C a ρ h).bd fun x h1 => (ev C b ρ h1).bd fun y h2 => (match cmpV o1 x y h2 with
    | some true => (ev C c ρ h2).bd fun z h3 => ofO ((cmpV o2 y z h3).map .bl) h3
    | some false => .ok (.bl false) h2
    | none => .bad)
  | .isN a, ρ, h => (ev C a ρ h).bd fun x h1 => .ok (.bl (decide (x = .non))) h1
  | .notN a, ρ, h => (ev C a ρ h).bd fun x h1 => .ok (.bl (!decide (x = .non))) h1
  | .ite c a b, ρ, h => (ev C c ρ h).bd fun x h1 => (match truth x h1 with
    | some true => ev C a ρ h1
    | some false => ev C b ρ h1
    | none => .bad)
  | .call f es, ρ, h => (evs C es ρ h).bd fun ds h1 => C.fn ("", f) ds h1
  | .bi f es, ρ, h => (evr C es ρ h).bd fun ds h1 => biV f ds h1
  | .mth m o es, ρ, h => (ev C o ρ h).bd fun x h1 => (match insOf x h1 with
    | some p => if C.hm (p.1, m) = true ∧ (lookF m p.2).isNone = true then (evs C es ρ h1).bd fun ds h2 => C.fn (p.1, m) (x :: ds) h2 else .bad
    | none => if mok m (kindD x h1) = true then (evs C es ρ h1).bd fun ds h2 => if kindD x h2 = kindD x h1 then mthV m x ds h2 else .bad else .bad)
  | .new c es, ρ, h => (evs C es ρ h).bd fun ds h1 => (C.fi (c, "__init__") (.ref h1.length :: ds) (.ins c [] :: h1)).calm.bd fun r h2 => (match r with
    | .non => .ok (.ref h1.length) h2
    | _ => .bad)
  | .fld o f, ρ, h => (ev C o ρ h).bd fun x h1 => (match x with
    | .ref a => (match get h1 a with
      | some (.ins _ fs) => ofO (lookF f fs) h1
      | _ => .bad)
    | _ => .bad)
  | .idx a b, ρ, h => (ev C a ρ h).bd fun x h1 => (ev C b ρ h1).bd fun y h2 => ofO (idxV x y h2) h2
  | .slc a lo hi, ρ, h => (ev C a ρ h).bd fun x h1 => (evI lo (ev C lo) ρ h1).bd fun l h2 => (evI hi (ev C hi) ρ h2).bd fun u h3 => ofO (slcV x l u h3) h3
  | .rev a, ρ, h => (ev C a ρ h).bd fun x h1 => ofO (revV x h1) h1
  | .tup es, ρ, h => (evs C es ρ h).bd fun ds h1 => .ok (.tup ds) h1
  | .lst es, ρ, h => (evs C es ρ h).bd fun ds h1 => .ok (.lst ds) h1
  | .dic t ks vs, _, h => if ks.isEmpty && vs.isEmpty then .ok (.ref h.length) (.dic t [] :: h) else .bad
  | .comp own t k a b c e, ρ, h => (ev C a ρ h).bd fun x h1 => (evN b (ev C b) ρ h1).bd fun y h2 => (match walkV k x y h2 with
      | some ds => ((compL (compT t (wipe own ρ) h2 (refs x ++ refs y) (fun ρ1 h => ev C c ρ1 h) (fun ρ1 h => ev C e ρ1 h)) ds h2).bd fun rs h3 => if same (refs x ++ refs y) h2 h3 then .ok (.lst rs) h3 else .bad).calm
      | none => .bad)
  | .lsI k a b, ρ, h => (ev C a ρ h).bd fun x h1 => (evN b (ev C b) ρ h1).bd fun y h2 => ofO ((walkV k x y h2).map .lst) h2
  | .isi a t, ρ, h => (ev C a ρ h).bd fun x h1 => ofO ((tyV x t h1 C.isb).map .bl) h1
  | .isB a b neg, ρ, h => (ev C a ρ h).bd fun x h1 => (match x with
    | .bl c => .ok (.bl (if neg then !(c == b) else c == b)) h1
    | _ => .bad)
/-- arguments: each new list gets its place -/
def evs (C : Ctx) : List E → Env → Hp → Out (List D)
  | [], _, h => .ok [] h
  | e :: es, ρ, h => (ev C e ρ h).bd fun d h1 => (evs C es ρ (sto d h1).2).bd fun ds h2 => .ok ((sto d h1).1 :: ds) h2
/-- .. of a built-in: new lists as they are -/
def evr (C : Ctx) : List E → Env → Hp → Out (List D)
  | [], _, h => .ok [] h
  | e :: es, ρ, h => (ev C e ρ h).bd fun d h1 => (evr C es ρ h1).bd fun ds h2 => .ok (d :: ds) h2
def evA (C : Ctx) : List E → Env → Hp → Out D
  | [], _, _ => .bad
  | e :: es, ρ, h => (ev C e ρ h).bd fun x h1 => (match es with
    | [] => .ok x h1
    | _ :: _ => (match truth x h1 with
      | some true => evA C es ρ h1
      | some false => .ok x h1
      | none => .bad))
def evO (C : Ctx) : List E → Env → Hp → Out D
  | [], _, _ => .bad
  | e :: es, ρ, h => (ev C e ρ h).bd fun x h1 => (match es with
    | [] => .ok x h1
    | _ :: _ => (match truth x h1 with
      | some false => evO C es ρ h1
      | some true => .ok x h1
      | none => .bad))
end

/-- how a statement ends -/
inductive Fl where
  | nx (ρ : Env) (h : Hp) | rt (d : D) (h : Hp) | bk (ρ : Env) (h : Hp) | ct (ρ : Env) (h : Hp) | ex (c : String) (ρ : Env) (h : Hp) | bad
  deriving Repr
def Fl.sq (x : Fl) (f : Env → Hp → Fl) : Fl := match x with
  | .nx ρ h => f ρ h
  | x => x
def Out.fl {α : Type} (x : Out α) (ρ : Env) (f : α → Hp → Fl) : Fl := match x with
  | .ok a h => f a h
  | .exc c h => .ex c ρ h
  | .bad => .bad
def forL (turn : D → Env → Hp → Fl) (ok : Hp → Bool) : List D → Env → Hp → Fl
  | [], ρ, h => if ok h then .nx ρ h else .bad
  | d :: ds, ρ, h => if ok h then (match turn d ρ h with
    | .nx ρ1 h1 => forL turn ok ds ρ1 h1
    | .ct ρ1 h1 => forL turn ok ds ρ1 h1
    | .bk ρ1 h1 => .nx ρ1 h1
    | r => r) else .bad
def whileL (c : Env → Hp → Out Bool) (body : Env → Hp → Fl) : Nat → Env → Hp → Fl
  | 0, _, _ => .bad
  | n + 1, ρ, h => (c ρ h).fl ρ fun b h1 => if b = true then (match body ρ h1 with
    | .nx ρ1 h2 => whileL c body n ρ1 h2
    | .ct ρ1 h2 => whileL c body n ρ1 h2
    | .bk ρ1 h2 => .nx ρ1 h2
    | r => r) else .nx ρ h1
def cnd (C : Ctx) (e : E) (ρ : Env) (h : Hp) : Out Bool := (ev C e ρ h).bd fun x h1 => ofO (truth x h1) h1
def handle (hd : Hd) (c : String) (ρ : Env) (h : Hp) : Fl := match hd with
  | .keep i j => .nx ((ρ.set i none).set j (some (.exc c))) h
  | .retv i => (match ρ[i]? with
    | some (some d) => .rt d h
    | _ => .bad)
  | .cont => .ct ρ h
/-- most turns of a while -/
def turns : Nat := 100000
mutual
def ex (C : Ctx) : S → Env → Hp → Fl
  | .asg t e, ρ, h => (ev C e ρ h).fl ρ fun d h1 => (match bindT t (sto d h1).1 ρ (sto d h1).2 with
    | some ρ1 => .nx ρ1 (sto d h1).2
    | none => .bad)
  | .fset o f e, ρ, h => (ev C e ρ h).fl ρ fun d h1 => (ev C o ρ (sto d h1).2).fl ρ fun x h2 => (match x with
    | .ref a => (match get h2 a with
      | some (.ins c fs) => if fs.length < 1000 then .nx ρ (put h2 a (.ins c (putF f (sto d h1).1 fs))) else .bad
      | _ => .bad)
    | _ => .bad)
  | .sset o i e, ρ, h => (ev C e ρ h).fl ρ fun d h1 => (ev C o ρ (sto d h1).2).fl ρ fun x h2 => (ev C i ρ h2).fl ρ fun k h3 => (match x with
    | .ref a => (match get h3 a with
      | some (.lst xs) => (match k with
        | .int j => if -(xs.length : Int) ≤ j ∧ j < xs.length then .nx ρ (put h3 a (.lst (xs.set (if 0 ≤ j then j.toNat else (j + xs.length).toNat) (sto d h1).1))) else .bad
        | _ => .bad)
      | some (.dic t kvs) => if keyB t k = true ∧ kvs.length < 16777216 then .nx ρ (put h3 a (.dic t (storeD k (sto d h1).1 kvs))) else .bad
      | _ => .bad)
    | _ => .bad)
  | .ex e, ρ, h => (ev C e ρ h).fl ρ fun _ h1 => .nx ρ h1
  | .ret e, ρ, h => (ev C e ρ h).fl ρ fun d h1 => .rt d h1
  | .ite c a b, ρ, h => (cnd C c ρ h).fl ρ fun v h1 => if v = true then exs C a ρ h1 else exs C b ρ h1
  | .forr t k a b body, ρ, h => (ev C a ρ h).fl ρ fun x h1 => (evN b (ev C b) ρ h1).fl ρ fun y h2 => (match walkV k x y h2 with
      | some ds => forL (fun d ρ1 h3 => (match bindT t d ρ1 h3 with
        | some ρ2 => exs C body ρ2 h3
        | none => .bad)) (same (refs x ++ refs y) h2) ds ρ h2
      | none => .bad)
  | .whil c body, ρ, h => whileL (cnd C c) (exs C body) turns ρ h
  | .brk, ρ, h => .bk ρ h
  | .cnt, ρ, h => .ct ρ h
  | .pass, ρ, h => .nx ρ h
  | .raise c, ρ, h => .ex c ρ h
  | .tryy body c hd, ρ, h => (match exs C body ρ h with
    | .ex c' ρ1 h1 => (match C.sub c' c with
      | some true => handle hd c' ρ1 h1
      | some false => .ex c' ρ1 h1
      | none => .bad)
    | r => r)
def exs (C : Ctx) : List S → Env → Hp → Fl
  | [], ρ, h => .nx ρ h
  | s :: r, ρ, h => (ex C s ρ h).sq fun ρ1 h1 => exs C r ρ1 h1
end
def ends : Fl → Out D
  | .nx _ h => .ok .non h
  | .rt d h => .ok d h
  | .ex c _ h => .exc c h
  | _ => .bad

/-- a program: its functions (a class's name, or none, with the function's), constants, classes of errors -/
structure Prog where
  fn : String × String → Option Fd
  glo : String → Option D
  sub : String → String → Option Bool
  isb : String → String → Option Bool
def hasM (P : Prog) (q : String × String) : Bool := decide (q.1 ≠ "") && (P.fn q).isSome
/-- the function, and that one level lower -/
def calls (P : Prog) : Nat → (String × String → List D → Hp → Out D) × (String × String → List D → Hp → Out D)
  | 0 => (fun _ _ _ => .bad, fun _ _ _ => .bad)
  | n + 1 => (fun f ds h => (match P.fn f with
    | some d => if ds.length = d.np then close h (ends (exs ⟨(calls P n).1, (calls P n).2, P.glo, P.sub, P.isb, hasM P⟩ d.body (ds.map some ++ List.replicate (d.nl - d.np) none) h)) else .bad
    | none => .bad), (calls P n).1)
def call (P : Prog) (n : Nat) : String × String → List D → Hp → Out D := (calls P n).1
abbrev ctx (P : Prog) (n : Nat) : Ctx := ⟨call P n, call P (n - 1), P.glo, P.sub, P.isb, hasM P⟩
theorem calls_2 {P : Prog} : ∀ {n : Nat}, (calls P n).2 = call P (n - 1)
  | 0 => rfl
  | _ + 1 => rfl
theorem call_zero {P : Prog} {f : String × String} {ds : List D} {h : Hp} : call P 0 f ds h = .bad := rfl
theorem call_succ {P : Prog} {n : Nat} {f : String × String} {ds : List D} {h : Hp} : call P (n + 1) f ds h = (match P.fn f with
    | some d => if ds.length = d.np then close h (ends (exs (ctx P n) d.body (ds.map some ++ List.replicate (d.nl - d.np) none) h)) else .bad
    | none => .bad) := by
  have e : call P (n + 1) f ds h = (match P.fn f with
    | some d => if ds.length = d.np then close h (ends (exs ⟨(calls P n).1, (calls P n).2, P.glo, P.sub, P.isb, hasM P⟩ d.body (ds.map some ++ List.replicate (d.nl - d.np) none) h)) else .bad
    | none => .bad) := rfl
  rw [e, calls_2]
  rfl
theorem leT_iff {a b : List Nat} : leT a b = true ↔ a ≤ b := by
  unfold leT
  rw [Bool.not_eq_true', decide_eq_false_iff_not]
  exact List.not_lt
section
variable {h : Hp}
theorem get_lt : ∀ {h : Hp} {n : Nat} {o : Ob}, get h n = some o → n < h.length
  | [], _, _, e => nomatch (show (none : Option Ob) = some _ from e)
  | u :: h, n, o, e => by
    unfold get at e
    split at e
    · rename_i q; subst q; exact Nat.lt_succ_self _
    · exact Nat.lt_succ_of_lt (get_lt e)
theorem get_of_lt : ∀ {h : Hp} {n : Nat}, n < h.length → ∃ o, get h n = some o
  | [], _, e => absurd e (Nat.not_lt_zero _)
  | u :: h, n, e => by
    unfold get
    by_cases q : n = h.length
    · exact ⟨u, by rw [if_pos q]⟩
    · rw [if_neg q]
      exact get_of_lt (by simp only [List.length_cons] at e; omega)
theorem get_cons_ne {o : Ob} {n : Nat} (q : n ≠ h.length) : get (o :: h) n = get h n := by
  show (if n = h.length then some o else get h n) = _
  rw [if_neg q]
theorem get_cons_self {o : Ob} : get (o :: h) h.length = some o := by
  show (if h.length = h.length then some o else get h h.length) = _
  rw [if_pos rfl]
theorem put_length : ∀ (h : Hp) (a : Nat) (u : Ob), (put h a u).length = h.length
  | [], _, _ => rfl
  | o :: h, a, u => by
    show (if a = h.length then u :: h else o :: put h a u).length = _
    split
    · rfl
    · simp [put_length h a u]
theorem get_put_self : ∀ {h : Hp} {a : Nat} {u : Ob}, a < h.length → get (put h a u) a = some u
  | [], _, _, e => absurd e (Nat.not_lt_zero _)
  | o :: h, a, u, e => by
    show get (if a = h.length then u :: h else o :: put h a u) a = _
    by_cases q : a = h.length
    · rw [if_pos q, q]; exact get_cons_self
    · rw [if_neg q, get_cons_ne (by rw [put_length]; exact q)]
      exact get_put_self (by simp only [List.length_cons] at e; omega)
theorem get_put_ne : ∀ {h : Hp} {a b : Nat} {u : Ob}, b ≠ a → get (put h a u) b = get h b
  | [], _, _, _, _ => rfl
  | o :: h, a, b, u, e => by
    show get (if a = h.length then u :: h else o :: put h a u) b = _
    by_cases q : a = h.length
    · rw [if_pos q, get_cons_ne (by omega), get_cons_ne (by omega)]
    · rw [if_neg q]
      show (if b = (put h a u).length then some o else get (put h a u) b) = (if b = h.length then some o else get h b)
      rw [put_length, get_put_ne e]
theorem trunc_le : ∀ {n : Nat} {h : Hp}, h.length ≤ n → trunc n h = h
  | _, [], _ => rfl
  | n, o :: h, e => by
    show (if n ≤ h.length then trunc n h else o :: h) = _
    rw [if_neg (by simp only [List.length_cons] at e; omega)]
theorem trunc_cons {n : Nat} {o : Ob} {h : Hp} (e : n ≤ h.length) : trunc n (o :: h) = trunc n h := by
  show (if n ≤ h.length then trunc n h else o :: h) = _
  rw [if_pos e]
theorem trunc_length : ∀ {n : Nat} {h : Hp}, (trunc n h).length = min n h.length
  | _, [] => by simp [trunc]
  | n, o :: h => by
    show (if n ≤ h.length then trunc n h else o :: h).length = _
    split
    · rw [trunc_length, List.length_cons]; omega
    · rw [List.length_cons]; omega
theorem get_trunc : ∀ {n : Nat} {h : Hp} {a : Nat}, get (trunc n h) a = if a < n then get h a else none
  | n, [], a => by simp [trunc, get]
  | n, o :: h, a => by
    show get (if n ≤ h.length then trunc n h else o :: h) a = _
    by_cases q : n ≤ h.length
    · rw [if_pos q, get_trunc]
      by_cases z : a < n
      · rw [if_pos z, if_pos z, get_cons_ne (by omega)]
      · rw [if_neg z, if_neg z]
    · rw [if_neg q]
      by_cases z : a < n
      · rw [if_pos z]
      · rw [if_neg z]
        cases e : get (o :: h) a with
        | none => rfl
        | some u =>
          have := get_lt e
          simp only [List.length_cons] at this
          omega

end
/-- a def: its name, its slots' names, Mini's text -/
structure FnI where
  cls : String
  name : String
  N : List PySem.Str
  d : Fd
/-- the program's parts: defs, constants, classes of errors, built-ins that are named -/
structure Pt where
  fns : List FnI
  cons : List (String × D)
  errs : List String
  blts : List PySem.Str
  subs : List (String × String × Bool)
  isbs : List (String × String × Bool)
  clss : List String
  flds : List String
def FnI.is (i : FnI) (q : String × String) : Bool := decide (i.cls = q.1) && decide (i.name = q.2)
def Pt.prog (p : Pt) : Prog where
  fn := fun q => (p.fns.find? fun i => i.is q).map (·.d)
  glo := fun x => (p.cons.find? fun c => c.1 = x).map (·.2)
  sub := fun a b => (p.subs.find? fun q => decide (q.1 = a) && decide (q.2.1 = b)).map (·.2.2)
  isb := fun a b => (p.isbs.find? fun q => decide (q.1 = a) && decide (q.2.1 = b)).map (·.2.2)
end Mi

/-! how Mini's values and heap stand in the model's abstract heap -/
namespace Mi
open PySem PySem.Spec PyProof.Rows

abbrev AH := L2.Hp
abbrev V := L2.V
abbrev HO := L2.HO
/-- a text of the model -/
def sOf (s : List Nat) : Str := ⟨s.toArray⟩
theorem sOf_inj {s t : List Nat} (h : sOf s = sOf t) : s = t := by
  have := congrArg (fun z : Str => z.cps.toList) h
  simpa [sOf] using this
@[simp] theorem sOf_list (s : List Nat) : (sOf s).cps.toList = s := rfl
theorem sOf_len (s : List Nat) : (sOf s).length = s.length := by simp [sOf, Str.length]
theorem sOf_of (z : Str) : sOf z.cps.toList = z := rfl

/-- a text that the model may have -/
def okS (s : List Nat) : Prop := s.length ≤ 16777216 ∧ ∀ c ∈ s, c < 1114112
/-- what is written: the fragment, where the classes (by name) stand -/
structure Gd where
  K : PySem.W.Frag
  cl : String → Addr
  w : World
  flds : List String
/-- what a class of the text says -/
structure ClG (G : Gd) (c : String) : Prop where
  cls : L2.Cls G.K (G.cl c)
  no : ∀ f ∈ G.flds, L2.NoAttr G.K (G.cl c) (Str.ofString f)

/-- an exception that is held as a value -/
def exHO (C : Addr) (a : Addr) : HO := .ext fun h => ∃ oe : Obj, h.get? a = some oe ∧ L2.Zc (.ref C) none oe ∧ ∃ vs, oe.data = .fields vs

mutual
/-- a nested key -/
def nkD : NestedKey → D
  | .none => .non
  | .num i => .int i
  | .text x => .str x.cps.toList
  | .tup ks => .tup (nkDs ks)
def nkDs : List NestedKey → List D
  | [] => []
  | k :: ks => nkD k :: nkDs ks
end
/-- a dict whose keys are tuples -/
abbrev TEs := List (NestedKey × Addr × V)
def tdEnt (w : World) (p : NestedKey × Addr × V) (e : DictEntry) : Prop := e.hash = p.1.hash w ∧ e.key = .ref p.2.1 ∧ L2.RelV p.2.2 e.val
def tDO (w : World) (es : TEs) (a : Addr) : HO := .ext fun h => es.length ≤ sizeLine ∧ (a == sysModules) = false ∧ (es.map (·.1)).Nodup ∧ (∀ p ∈ es, p.1.depth ≤ 8) ∧ ∃ o ents ep, h.get? a = some o ∧ o.ExactDict ∧ o.data = .dict ents ep ∧ Paired (tdEnt w) es ents.toList

/-- a locked list, or one of the written part -/
def SqC (K : PySem.W.Frag) (H : AH) (a : Addr) (vs : List V) : Prop := (∃ ob, H a = some (.frz ob (.lst vs))) ∨
  ∃ (o : Obj) (its : Array Value) (n : Nat), K.lookup a = some o ∧ o.cls = .type "list" ∧ o.dict = none ∧ o.data = .seq its n ∧ its.size ≤ sizeLine ∧ L2.Vals vs its.toList
theorem SqC.l {K : PySem.W.Frag} {H : AH} {a : Addr} {vs : List V} (x : SqC K H a vs) : L2.SqL K H a vs := by
  rcases x with ⟨ob, x⟩ | x
  · exact .inl (.inr ⟨ob, x⟩)
  · exact .inr x
/-- a tuple, and that its object has no dict -/
def TpR (K : PySem.W.Frag) (H : AH) (a : Addr) (vs : List V) : Prop := L2.SqT K H a vs ∧ ((∃ ob u, H a = some (.frz ob u) ∧ ob.dict = none) ∨ ∃ o, K.lookup a = some o ∧ o.dict = none)
theorem TpR.sq {K : PySem.W.Frag} {H : AH} {a : Addr} {vs : List V} (x : TpR K H a vs) : L2.SqT K H a vs := x.1
mutual
def DR (G : Gd) (M : List Addr) (H : AH) : D → V → Prop
  | .non, v => v = .non
  | .bl b, v => v = .bl b
  | .int i, v => v = .int i
  | .str s, v => v = .str (sOf s) ∧ okS s
  | .tup xs, v => ∃ a vs, v = .ref a ∧ TpR G.K H a vs ∧ DRs G M H xs vs
  | .lst _, _ => False
  | .ref n, v => ∃ a, M[n]? = some a ∧ v = .ref a
  | .exc c, v => ∃ a oe, v = .ref a ∧ H a = some (.frz oe (exHO (G.cl c) a))
  | .cst xs, v => ∃ a vs, v = .ref a ∧ SqC G.K H a vs ∧ DRs G M H xs vs
def DRs (G : Gd) (M : List Addr) (H : AH) : List D → List V → Prop
  | [], vs => vs = []
  | x :: xs, vs => ∃ v r, vs = v :: r ∧ DR G M H x v ∧ DRs G M H xs r
end
/-- a dict's keys -/
def keyD : L2.Key → D
  | .inl i => .int i
  | .inr z => .str z.cps.toList
def ObR (G : Gd) (M : List Addr) (H : AH) (o : Ob) (a : Addr) : Prop := match o with
  | .lst xs => ∃ vs, H a = some (.lst vs) ∧ DRs G M H xs vs
  | .frz _ => False
  | .dic true kvs => ∃ es : TEs, H a = some (tDO G.w es a) ∧ kvs.map (·.1) = es.map (fun p => nkD p.1) ∧ DRs G M H (kvs.map (·.1)) (es.map fun p => L2.V.ref p.2.1) ∧ DRs G M H (kvs.map (·.2)) (es.map (·.2.2))
  | .dic false kvs => ∃ ks : List (L2.Key × V), H a = some (.dK ks) ∧ kvs.map (·.1) = ks.map (fun p => keyD p.1) ∧ (∀ p ∈ ks, ∀ z, p.1 = .inr z → okS z.cps.toList) ∧ DRs G M H (kvs.map (·.2)) (ks.map (·.2))
  | .ins c fs => ∃ dx gs, H a = some (.ins (G.cl c) dx gs) ∧ fs.map (fun p => Str.ofString p.1) = gs.map (·.1) ∧ DRs G M H (fs.map (·.2)) (gs.map (·.2)) ∧ ClG G c

/-- the heaps -/
structure HR (G : Gd) (M : List Addr) (h : Hp) (H : AH) : Prop where
  len : M.length = h.length
  nd : M.Nodup
  obj : ∀ n o, get h n = some o → ∃ a, M[n]? = some a ∧ ObR G M H o a
/-- what a step leaves: the places there were, with new ones; all else that was tracked is as it was -/
structure Post (G : Gd) (M : List Addr) (H : AH) (M' : List Addr) (h' : Hp) (H' : AH) : Prop where
  pre : ∃ x, M' = M ++ x ∧ ∀ a ∈ x, H a = none
  keep : ∀ a o, a ∉ M → H a = some o → H' a = some o
  hr : HR G M' h' H'
def EnvR (G : Gd) (M : List Addr) (H : AH) (ρ : Env) (σ : L2.St) : Prop :=
  ρ.length = σ.length ∧ ∀ (i : Nat) d, ρ[i]? = some (some d) → ∃ v, σ[i]? = some (some v) ∧ DR G M H d v
/-- a result: a new list is nobody's yet -/
def RD (G : Gd) (M' : List Addr) (H H' : AH) : D → V → Prop
  | .lst xs, v => ∃ a vs, v = .ref a ∧ H a = none ∧ a ∉ M' ∧ H' a = some (.lst vs) ∧ DRs G M' H' xs vs
  | d, v => DR G M' H' d v

section
variable {G : Gd} {M M' M'' : List Addr} {H H' H'' : AH} {h h' h'' : Hp}

theorem Post.len (p : Post G M H M' h' H') : M.length ≤ M'.length := by
  obtain ⟨x, rfl, _⟩ := p.pre
  simp
theorem Post.at (p : Post G M H M' h' H') {n : Nat} {a : Addr} (e : M[n]? = some a) : M'[n]? = some a := by
  obtain ⟨x, rfl, _⟩ := p.pre
  rw [List.getElem?_append_left (List.getElem?_eq_some_iff.mp e).1]
  exact e
theorem Post.mem (p : Post G M H M' h' H') {a : Addr} (e : a ∈ M) : a ∈ M' := by
  obtain ⟨x, rfl, _⟩ := p.pre
  exact List.mem_append_left _ e
theorem Post.new (p : Post G M H M' h' H') {a : Addr} (e : a ∉ M) (e' : a ∈ M') : H a = none := by
  obtain ⟨x, rfl, q⟩ := p.pre
  rcases List.mem_append.mp e' with z | z
  · exact absurd z e
  · exact q a z

theorem ObR.there {o : Ob} {a : Addr} (x : ObR G M H o a) : ∃ u, H a = some u := by
  cases o with
  | lst xs => obtain ⟨vs, e, _⟩ := x; exact ⟨_, e⟩
  | frz xs => exact x.elim
  | dic t kvs => cases t with
    | true => obtain ⟨es, e, _⟩ := x; exact ⟨_, e⟩
    | false => obtain ⟨ks, e, _⟩ := x; exact ⟨_, e⟩
  | ins c fs => obtain ⟨dx, gs, e, _⟩ := x; exact ⟨_, e⟩
theorem ObR.notTup {o : Ob} {a : Addr} (x : ObR G M H o a) : (∀ vs, H a ≠ some (.tup vs)) ∧ (∀ ob u, H a ≠ some (.frz ob u)) := by
  cases o with
  | lst xs => obtain ⟨vs, e, _⟩ := x; refine ⟨fun _ z => ?_, fun _ _ z => ?_⟩ <;> (rw [e] at z; cases z)
  | frz xs => exact x.elim
  | dic t kvs => cases t with
    | true => obtain ⟨es, e, _⟩ := x; (refine ⟨fun _ z => ?_, fun _ _ z => ?_⟩ <;> (rw [e] at z; cases z))
    | false => obtain ⟨ks, e, _⟩ := x; (refine ⟨fun _ z => ?_, fun _ _ z => ?_⟩ <;> (rw [e] at z; cases z))
  | ins c fs => obtain ⟨dx, gs, e, _⟩ := x; refine ⟨fun _ z => ?_, fun _ _ z => ?_⟩ <;> (rw [e] at z; cases z)
theorem HR.ob (r : HR G M h H) {a : Addr} (e : a ∈ M) : ∃ n o, get h n = some o ∧ M[n]? = some a ∧ ObR G M H o a := by
  obtain ⟨n, hn, q⟩ := List.mem_iff_getElem.mp e
  have hl : n < h.length := by rw [← r.len]; exact hn
  obtain ⟨o, ho⟩ := get_of_lt hl
  obtain ⟨b, hb, x⟩ := r.obj n o ho
  have : M[n]? = some a := by rw [List.getElem?_eq_getElem hn, q]
  rw [this] at hb; cases hb
  exact ⟨n, o, ho, this, x⟩
theorem HR.there (r : HR G M h H) {a : Addr} (e : a ∈ M) : ∃ u, H a = some u := by
  obtain ⟨n, o, _, _, x⟩ := r.ob e
  exact x.there
theorem Post.free (p : Post G M H M' h' H') (r : HR G M h H) {a : Addr} (e : H' a = none) : H a = none := by
  cases q : H a with
  | none => rfl
  | some u =>
    by_cases z : a ∈ M
    · obtain ⟨w, hw⟩ := p.hr.there (p.mem z)
      rw [e] at hw; cases hw
    · rw [p.keep a u z q] at e; cases e
/-- .. of all but lists -/
def KeepN (M : List Addr) (H H' : AH) : Prop := ∀ a o, a ∉ M → (∀ xs, o ≠ .lst xs) → H a = some o → H' a = some o
theorem HR.keepTup (r : HR G M h H) (p : KeepN M H H') {a : Addr} {vs : List V} (x : L2.SqT G.K H a vs) : L2.SqT G.K H' a vs := by
  rcases x with (x | ⟨ob, x⟩) | x
  · refine .inl (.inl (p a _ (fun z => ?_) (fun _ z => by cases z) x))
    obtain ⟨n, o, _, _, y⟩ := r.ob z
    exact y.notTup.1 _ x
  · refine .inl (.inr ⟨ob, p a _ (fun z => ?_) (fun _ z => by cases z) x⟩)
    obtain ⟨n, o, _, _, y⟩ := r.ob z
    exact y.notTup.2 _ _ x
  · exact .inr x
theorem HR.keepTp (r : HR G M h H) (p : KeepN M H H') {a : Addr} {vs : List V} (x : TpR G.K H a vs) : TpR G.K H' a vs := by
  refine ⟨r.keepTup p x.1, ?_⟩
  rcases x.2 with ⟨ob, u, e, d⟩ | e
  · refine .inl ⟨ob, u, p a _ (fun z => ?_) (fun _ z => by cases z) e, d⟩
    obtain ⟨n, o, _, _, y⟩ := r.ob z
    exact y.notTup.2 _ _ e
  · exact .inr e
theorem HR.keepCst (r : HR G M h H) (p : KeepN M H H') {a : Addr} {vs : List V} (x : SqC G.K H a vs) : SqC G.K H' a vs := by
  rcases x with ⟨ob, x⟩ | x
  · refine .inl ⟨ob, p a _ (fun z => ?_) (fun _ z => by cases z) x⟩
    obtain ⟨n, o, _, _, y⟩ := r.ob z
    exact y.notTup.2 _ _ x
  · exact .inr x
/-- what is kept of the heap, and of the places -/
def KeepA (M : List Addr) (H H' : AH) : Prop := ∀ a o, a ∉ M → H a = some o → H' a = some o
theorem KeepA.n (p : KeepA M H H') : KeepN M H H' := fun a o n _ e => p a o n e
mutual
theorem DR.keeps (r : HR G M h H) (p : KeepN M H H') (q : ∀ (n : Nat) (a : Addr), M[n]? = some a → M'[n]? = some a) : ∀ {d : D} {v : V}, DR G M H d v → DR G M' H' d v
  | .non, _, x => x
  | .bl _, _, x => x
  | .int _, _, x => x
  | .str _, _, x => x
  | .tup xs, v, x => by
    obtain ⟨a, vs, e, z, y⟩ := x
    exact ⟨a, vs, e, r.keepTp p z, DRs.keeps r p q y⟩
  | .lst _, _, x => x.elim
  | .ref n, v, x => by
    obtain ⟨a, e, z⟩ := x
    exact ⟨a, q n a e, z⟩
  | .exc c, v, x => by
    obtain ⟨a, oe, e, z⟩ := x
    refine ⟨a, oe, e, p a _ (fun w => ?_) (fun _ z => by cases z) z⟩
    obtain ⟨n, o, _, _, y⟩ := r.ob w
    exact y.notTup.2 _ _ z
  | .cst xs, v, x => by
    obtain ⟨a, vs, e, z, y⟩ := x
    exact ⟨a, vs, e, r.keepCst p z, DRs.keeps r p q y⟩
theorem DRs.keeps (r : HR G M h H) (p : KeepN M H H') (q : ∀ (n : Nat) (a : Addr), M[n]? = some a → M'[n]? = some a) : ∀ {ds : List D} {vs : List V}, DRs G M H ds vs → DRs G M' H' ds vs
  | [], _, x => x
  | d :: ds, vs, x => by
    obtain ⟨v, w, e, a, b⟩ := x
    exact ⟨v, w, e, DR.keeps r p q a, DRs.keeps r p q b⟩
end
theorem DR.mono (r : HR G M h H) (p : Post G M H M' h' H') {d : D} {v : V} (x : DR G M H d v) : DR G M' H' d v := DR.keeps r (KeepA.n p.keep) (fun _ _ e => p.at e) x
theorem DRs.mono (r : HR G M h H) (p : Post G M H M' h' H') {ds : List D} {vs : List V} (x : DRs G M H ds vs) : DRs G M' H' ds vs := DRs.keeps r (KeepA.n p.keep) (fun _ _ e => p.at e) x
theorem ObR.keeps (r : HR G M h H) (p : KeepN M H H') (q : ∀ (n : Nat) (a : Addr), M[n]? = some a → M'[n]? = some a) {o : Ob} {b : Addr} (e : H' b = H b) (y : ObR G M H o b) : ObR G M' H' o b := by
  have monos : ∀ {ds : List D} {vs : List V}, DRs G M H ds vs → DRs G M' H' ds vs := fun {ds vs} x => DRs.keeps r p q x
  cases o with
  | lst xs => obtain ⟨vs, z, w⟩ := y; exact ⟨vs, e.trans z, monos w⟩
  | frz xs => exact y.elim
  | dic t kvs => cases t with
    | true => obtain ⟨es, z, w1, w2, w3⟩ := y; exact ⟨es, e.trans z, w1, monos w2, monos w3⟩
    | false => obtain ⟨ks, z, w1, w2, w3⟩ := y; exact ⟨ks, e.trans z, w1, w2, monos w3⟩
  | ins c fs => obtain ⟨dx, gs, z, w1, w2, w3⟩ := y; exact ⟨dx, gs, e.trans z, w1, monos w2, w3⟩
theorem Post.trans (r : HR G M h H) (p : Post G M H M' h' H') (q : Post G M' H' M'' h'' H'') : Post G M H M'' h'' H'' := by
  refine ⟨?_, fun a o n e => ?_, q.hr⟩
  · obtain ⟨x, rfl, hx⟩ := p.pre
    obtain ⟨y, rfl, hy⟩ := q.pre
    refine ⟨x ++ y, by rw [List.append_assoc], fun a ha => ?_⟩
    rcases List.mem_append.mp ha with z | z
    · exact hx a z
    · exact p.free r (hy a z)
  · refine q.keep a o (fun z => ?_) (p.keep a o n e)
    rw [p.new n z] at e; cases e
theorem Post.refl (r : HR G M h H) : Post G M H M h H := ⟨⟨[], by simp, fun _ z => nomatch z⟩, fun _ _ _ e => e, r⟩
theorem EnvR.mono {ρ : Env} {σ : L2.St} (x : EnvR G M H ρ σ) (r : HR G M h H) (p : Post G M H M' h' H') : EnvR G M' H' ρ σ :=
  ⟨x.1, fun i d e => by
    obtain ⟨v, e1, e2⟩ := x.2 i d e
    exact ⟨v, e1, e2.mono r p⟩⟩
theorem DRs.length : ∀ {ds : List D} {vs : List V}, DRs G M H ds vs → ds.length = vs.length
  | [], vs, x => by rw [show vs = [] from x] <;> rfl
  | d :: ds, vs, x => by
    obtain ⟨v, w, e, _, b⟩ := x
    rw [e, List.length_cons, List.length_cons, b.length]
theorem DRs.get : ∀ {ds : List D} {vs : List V} {i : Nat} {d : D}, DRs G M H ds vs → ds[i]? = some d → ∃ v, vs[i]? = some v ∧ DR G M H d v
  | [], _, _, _, _, e => by simp at e
  | d :: ds, vs, 0, d', x, e => by
    obtain ⟨v, w, e1, a, _⟩ := x
    simp at e; subst e e1
    exact ⟨v, rfl, a⟩
  | d :: ds, vs, i + 1, d', x, e => by
    obtain ⟨v, w, e1, _, b⟩ := x
    subst e1
    obtain ⟨u, e2, e3⟩ := DRs.get (i := i) b (by simpa using e)
    exact ⟨u, by simpa using e2, e3⟩
theorem DRs.append : ∀ {ds ds' : List D} {vs vs' : List V}, DRs G M H ds vs → DRs G M H ds' vs' → DRs G M H (ds ++ ds') (vs ++ vs')
  | [], _, vs, _, x, y => by rw [show vs = [] from x]; exact y
  | d :: ds, _, vs, _, x, y => by
    obtain ⟨v, w, e, a, b⟩ := x
    subst e
    exact ⟨v, _, rfl, a, b.append y⟩
theorem DRs.take : ∀ {ds : List D} {vs : List V} (n : Nat), DRs G M H ds vs → DRs G M H (ds.take n) (vs.take n)
  | _, _, 0, _ => rfl
  | [], vs, n + 1, x => by rw [show vs = [] from x]; rfl
  | d :: ds, vs, n + 1, x => by
    obtain ⟨v, w, e, a, b⟩ := x
    subst e
    exact ⟨v, _, rfl, a, b.take n⟩
theorem DRs.drop : ∀ {ds : List D} {vs : List V} (n : Nat), DRs G M H ds vs → DRs G M H (ds.drop n) (vs.drop n)
  | _, _, 0, x => x
  | [], vs, n + 1, x => by rw [show vs = [] from x]; rfl
  | d :: ds, vs, n + 1, x => by
    obtain ⟨v, w, e, a, b⟩ := x
    subst e
    exact b.drop n
theorem DRs.reverse : ∀ {ds : List D} {vs : List V}, DRs G M H ds vs → DRs G M H ds.reverse vs.reverse
  | [], vs, x => by rw [show vs = [] from x]; rfl
  | d :: ds, vs, x => by
    obtain ⟨v, w, e, a, b⟩ := x
    subst e
    rw [List.reverse_cons, List.reverse_cons]
    exact b.reverse.append ⟨v, [], rfl, a, rfl⟩
theorem DRs.set : ∀ {ds : List D} {vs : List V} {d : D} {v : V} (i : Nat), DR G M H d v → DRs G M H ds vs → DRs G M H (ds.set i d) (vs.set i v)
  | [], vs, _, _, _, _, x => by rw [show vs = [] from x]; rfl
  | d :: ds, vs, _, _, 0, y, x => by
    obtain ⟨v, w, e, a, b⟩ := x
    subst e
    exact ⟨_, _, rfl, y, b⟩
  | d :: ds, vs, _, _, i + 1, y, x => by
    obtain ⟨v, w, e, a, b⟩ := x
    subst e
    exact ⟨v, _, rfl, a, b.set i y⟩
theorem DRs.eraseIdx : ∀ {ds : List D} {vs : List V} (i : Nat), DRs G M H ds vs → DRs G M H (ds.eraseIdx i) (vs.eraseIdx i)
  | [], vs, _, x => by rw [show vs = [] from x]; rfl
  | d :: ds, vs, 0, x => by
    obtain ⟨v, w, e, a, b⟩ := x
    subst e
    exact b
  | d :: ds, vs, i + 1, x => by
    obtain ⟨v, w, e, a, b⟩ := x
    subst e
    exact ⟨v, _, rfl, a, b.eraseIdx i⟩
theorem DRs.one {d : D} {v : V} (x : DR G M H d v) : DRs G M H [d] [v] := ⟨v, [], rfl, x, rfl⟩
theorem DRs.rep {d : D} {v : V} (x : DR G M H d v) : ∀ n : Nat, DRs G M H (List.replicate n d) (List.replicate n v)
  | 0 => rfl
  | n + 1 => ⟨v, _, rfl, x, DRs.rep x n⟩

/-! ### the abstract heap changes -/
theorem HR.inj (r : HR G M h H) {i j : Nat} {a : Addr} (x : M[i]? = some a) (y : M[j]? = some a) : i = j :=
  (List.getElem_inj r.nd).mp (((List.getElem?_eq_some_iff.mp x).2).trans ((List.getElem?_eq_some_iff.mp y).2).symm)
/-- a tracked object of the Mini heap changes -/
theorem Post.put {n : Nat} {a : Addr} {o o' : Ob} {u : HO} (r : HR G M h H) (e : get h n = some o) (ha : M[n]? = some a)
    (new : ObR G M (L2.upd H a u) o' a) : Post G M H M (put h n o') (L2.upd H a u) := by
  have mem : a ∈ M := List.mem_of_getElem? ha
  have kp : KeepA M H (L2.upd H a u) := fun b w nb q => by
    rw [L2.upd_ne (fun z => nb (by rw [z]; exact mem))]; exact q
  refine ⟨⟨[], by simp, fun _ z => nomatch z⟩, kp, ⟨by rw [put_length]; exact r.len, r.nd, fun k p q => ?_⟩⟩
  by_cases hk : k = n
  · subst hk
    rw [get_put_self (get_lt e)] at q; cases q
    exact ⟨a, ha, new⟩
  · rw [get_put_ne hk] at q
    obtain ⟨b, hb, y⟩ := r.obj k p q
    have nb : b ≠ a := fun z => hk (r.inj (by rw [z] at hb; exact hb) ha)
    exact ⟨b, hb, y.keeps r kp.n (fun _ _ e => e) (L2.upd_ne nb)⟩
theorem nd_snoc {M : List Addr} {a : Addr} (n : M.Nodup) (h : a ∉ M) : (M ++ [a]).Nodup := by
  rw [List.nodup_append]
  exact ⟨n, by simp, fun x hx y hy => by
    have : y = a := by simpa using hy
    subst this
    exact fun z => h (z ▸ hx)⟩
theorem at_snoc {M : List Addr} {a b : Addr} {n : Nat} (e : M[n]? = some b) : (M ++ [a])[n]? = some b := by
  rw [List.getElem?_append_left (List.getElem?_eq_some_iff.mp e).1]; exact e
theorem at_last {M : List Addr} {a : Addr} : (M ++ [a])[M.length]? = some a := by simp
/-- an object comes to the Mini heap -/
theorem HR.snoc {a : Addr} {o : Ob} (r : HR G M h H) (kp : KeepA M H H') (st : ∀ b ∈ M, H' b = H b) (na : a ∉ M) (new : ObR G (M ++ [a]) H' o a) : HR G (M ++ [a]) (o :: h) H' := by
  refine ⟨by simp [r.len], nd_snoc r.nd na, fun k p q => ?_⟩
  by_cases hk : k = h.length
  · subst hk
    rw [get_cons_self] at q; cases q
    exact ⟨a, by rw [← r.len]; exact at_last, new⟩
  · rw [get_cons_ne hk] at q
    obtain ⟨b, hb, y⟩ := r.obj k p q
    exact ⟨b, at_snoc hb, y.keeps r kp.n (fun _ _ e => at_snoc e) (st b (List.mem_of_getElem? hb))⟩
theorem KeepA.upd {a : Addr} {u : HO} (na : H a = none) : KeepA M H (L2.upd H a u) := fun b w _ q => by
  rw [L2.upd_ne (L2.ne_of_none q na)]; exact q
theorem HR.nmem (r : HR G M h H) {a : Addr} (na : H a = none) : a ∉ M := fun z => by
  obtain ⟨u, e⟩ := r.there z
  rw [na] at e; cases e
theorem Post.new1 {a : Addr} {o : Ob} {u : HO} (r : HR G M h H) (na : H a = none) (new : ObR G (M ++ [a]) (L2.upd H a u) o a) : Post G M H (M ++ [a]) (o :: h) (L2.upd H a u) :=
  ⟨⟨[a], rfl, fun b hb => by
    have : b = a := by simpa using hb
    rw [this]; exact na⟩, KeepA.upd na, r.snoc (KeepA.upd na) (fun b hb => L2.upd_ne fun z => r.nmem na (z ▸ hb)) (r.nmem na) new⟩
/-- an untracked thing (a tuple, a new list) is laid -/
theorem Post.lay {a : Addr} {u : HO} (r : HR G M h H) (na : H a = none) : Post G M H M h (L2.upd H a u) :=
  ⟨⟨[], by simp, fun _ z => nomatch z⟩, KeepA.upd na, ⟨r.len, r.nd, fun k p q => by
    obtain ⟨b, hb, y⟩ := r.obj k p q
    exact ⟨b, hb, y.keeps r (KeepA.upd na).n (fun _ _ e => e) (L2.upd_ne fun z => r.nmem na (z ▸ List.mem_of_getElem? hb))⟩⟩⟩
/-- a list that is nobody's changes -/
theorem Post.own {a : Addr} {vs ws : List V} (p : Post G M H M' h' H') (na : H a = none) (nm : a ∉ M') (e : H' a = some (.lst vs)) : Post G M H M' h' (L2.upd H' a (.lst ws)) ∧ KeepN M' H' (L2.upd H' a (.lst ws)) := by
  have kn : KeepN M' H' (L2.upd H' a (.lst ws)) := fun b o _ no q => by
    rw [L2.upd_ne (fun z => by
      rw [z, e] at q
      cases q
      exact no vs rfl)]
    exact q
  refine ⟨⟨p.pre, fun b o nb q => ?_, ⟨p.hr.len, p.hr.nd, fun k o q => ?_⟩⟩, kn⟩
  · rw [L2.upd_ne (L2.ne_of_none q na)]
    exact p.keep b o nb q
  · obtain ⟨b, hb, y⟩ := p.hr.obj k o q
    exact ⟨b, hb, y.keeps p.hr kn (fun _ _ e => e) (L2.upd_ne fun z => nm (z ▸ List.mem_of_getElem? hb))⟩
/-- a new list gets its place -/
theorem Post.sto {d : D} {v : V} (p : Post G M H M' h' H') (x : RD G M' H H' d v) : ∃ M1, Post G M H M1 (sto d h').2 H' ∧ DR G M1 H' (sto d h').1 v ∧ (∀ (n : Nat) (a : Addr), M'[n]? = some a → M1[n]? = some a) := by
  cases d with
  | lst xs =>
    obtain ⟨a, vs, rfl, h0, na, ha, y⟩ := x
    have kp : KeepA M' H' H' := fun _ _ _ e => e
    refine ⟨M' ++ [a], ⟨?_, p.keep, p.hr.snoc kp (fun _ _ => rfl) na ⟨vs, ha, y.keeps p.hr kp.n fun _ _ e => at_snoc e⟩⟩, ⟨a, by rw [← p.hr.len]; exact at_last, rfl⟩, fun n b e => at_snoc e⟩
    obtain ⟨z, rfl, hz⟩ := p.pre
    refine ⟨z ++ [a], by rw [List.append_assoc], fun b hb => ?_⟩
    rcases List.mem_append.mp hb with w | w
    · exact hz b w
    · have : b = a := by simpa using w
      rw [this]; exact h0
  | _ => exact ⟨M', p, x, fun _ _ e => e⟩

/-! ### behind a call -/
mutual
theorem DR.below : ∀ {d : D} {v : V}, DR G M H d v → below M.length d = true
  | .non, _, _ => rfl
  | .bl _, _, _ => rfl
  | .int _, _, _ => rfl
  | .str _, _, _ => rfl
  | .tup xs, v, x => by
    obtain ⟨_, _, _, _, y⟩ := x
    exact DRs.belows y
  | .lst _, _, x => x.elim
  | .ref n, v, x => by
    obtain ⟨a, e, _⟩ := x
    exact decide_eq_true (List.getElem?_eq_some_iff.mp e).1
  | .exc c, _, _ => rfl
  | .cst xs, v, x => by
    obtain ⟨_, _, _, _, y⟩ := x
    exact DRs.belows y
theorem DRs.belows : ∀ {ds : List D} {vs : List V}, DRs G M H ds vs → belows M.length ds = true
  | [], _, _ => rfl
  | d :: ds, vs, x => by
    obtain ⟨v, w, _, a, b⟩ := x
    show (Mi.below _ d && Mi.belows _ ds) = true
    rw [DR.below a, DRs.belows b] <;> rfl
end
mutual
theorem DR.cut {n : Nat} : ∀ {d : D} {v : V}, DR G M H d v → below n d = true → DR G (M.take n) H d v
  | .non, _, x, _ => x
  | .bl _, _, x, _ => x
  | .int _, _, x, _ => x
  | .str _, _, x, _ => x
  | .tup xs, v, x, b => by
    obtain ⟨a, vs, e, q, y⟩ := x
    exact ⟨a, vs, e, q, DRs.cut y b⟩
  | .lst _, _, x, _ => x.elim
  | .ref k, v, x, b => by
    obtain ⟨a, e, q⟩ := x
    have hk : k < n := of_decide_eq_true b
    exact ⟨a, by rw [List.getElem?_take_of_lt hk]; exact e, q⟩
  | .exc c, _, x, _ => x
  | .cst xs, v, x, b => by
    obtain ⟨a, vs, e, q, y⟩ := x
    exact ⟨a, vs, e, q, DRs.cut y b⟩
theorem DRs.cut {n : Nat} : ∀ {ds : List D} {vs : List V}, DRs G M H ds vs → belows n ds = true → DRs G (M.take n) H ds vs
  | [], _, x, _ => x
  | d :: ds, vs, x, b => by
    obtain ⟨v, w, e, y, z⟩ := x
    have b' : (Mi.below n d && Mi.belows n ds) = true := b
    rw [Bool.and_eq_true] at b'
    exact ⟨v, w, e, DR.cut y b'.1, DRs.cut z b'.2⟩
end
theorem belows_iff {n : Nat} : ∀ {ds : List D}, belows n ds = true ↔ ∀ d ∈ ds, below n d = true
  | [] => by simp [belows]
  | d :: ds => by simp [belows, belows_iff (ds := ds)]
theorem ObR.cut {n : Nat} {o : Ob} {a : Addr} (y : ObR G M H o a) (b : belowO n o = true) : ObR G (M.take n) H o a := by
  cases o with
  | lst xs => obtain ⟨vs, z, w⟩ := y; exact ⟨vs, z, w.cut b⟩
  | frz xs => exact y.elim
  | dic t kvs =>
    have b' : belows n (kvs.map (·.2)) = true := belows_iff.mpr fun d hd => by
      obtain ⟨p, hp, rfl⟩ := List.mem_map.mp hd
      have := List.all_eq_true.mp b p hp
      rw [Bool.and_eq_true] at this
      exact this.2
    have b2 : belows n (kvs.map (·.1)) = true := belows_iff.mpr fun d hd => by
      obtain ⟨p, hp, rfl⟩ := List.mem_map.mp hd
      have := List.all_eq_true.mp b p hp
      rw [Bool.and_eq_true] at this
      exact this.1
    cases t with
    | true => obtain ⟨es, z, w1, w2, w3⟩ := y; exact ⟨es, z, w1, w2.cut b2, w3.cut b'⟩
    | false => obtain ⟨ks, z, w1, w2, w3⟩ := y; exact ⟨ks, z, w1, w2, w3.cut b'⟩
  | ins c fs =>
    have b' : belows n (fs.map (·.2)) = true := belows_iff.mpr fun d hd => by
      obtain ⟨p, hp, rfl⟩ := List.mem_map.mp hd
      exact List.all_eq_true.mp b p hp
    obtain ⟨dx, gs, z, w1, w2, w3⟩ := y
    exact ⟨dx, gs, z, w1, w2.cut b', w3⟩
theorem keyD_below (n : Nat) (k : L2.Key) : below n (keyD k) = true := by cases k <;> rfl
theorem ObR.below {o : Ob} {a : Addr} (y : ObR G M H o a) : belowO M.length o = true := by
  cases o with
  | lst xs => obtain ⟨vs, z, w⟩ := y; exact w.belows
  | frz xs => exact y.elim
  | dic t kvs =>
    refine List.all_eq_true.mpr fun p hp => ?_
    rw [Bool.and_eq_true]
    have h1 : p.1 ∈ kvs.map (·.1) := List.mem_map.mpr ⟨p, hp, rfl⟩
    have h2 : p.2 ∈ kvs.map (·.2) := List.mem_map.mpr ⟨p, hp, rfl⟩
    cases t with
    | true =>
      obtain ⟨es, z, w1, w2, w3⟩ := y
      exact ⟨belows_iff.mp w2.belows _ h1, belows_iff.mp w3.belows _ h2⟩
    | false =>
      obtain ⟨ks, z, w1, w2, w3⟩ := y
      refine ⟨?_, belows_iff.mp w3.belows _ h2⟩
      rw [w1] at h1
      obtain ⟨q, _, e⟩ := List.mem_map.mp h1
      rw [← e]
      exact keyD_below _ _
  | ins c fs =>
    obtain ⟨dx, gs, z, w1, w2, w3⟩ := y
    refine List.all_eq_true.mpr fun p hp => ?_
    exact belows_iff.mp w2.belows _ (List.mem_map.mpr ⟨p, hp, rfl⟩)
theorem mem_get : ∀ {h : Hp} {o : Ob}, o ∈ h → ∃ n, get h n = some o
  | u :: h, o, e => by
    rcases List.mem_cons.mp e with z | z
    · exact ⟨h.length, by rw [z]; exact get_cons_self⟩
    · obtain ⟨n, q⟩ := mem_get z
      exact ⟨n, by rw [get_cons_ne (Nat.ne_of_lt (get_lt q))]; exact q⟩
theorem get_mem : ∀ {h : Hp} {n : Nat} {o : Ob}, get h n = some o → o ∈ h
  | [], _, _, e => nomatch (show (none : Option Ob) = some _ from e)
  | u :: h, n, o, e => by
    unfold get at e
    split at e
    · cases e; exact List.mem_cons_self
    · exact List.mem_cons_of_mem _ (get_mem e)
theorem HR.wf (r : HR G M h H) : h.all (belowO h.length) = true := List.all_eq_true.mpr fun o ho => by
  obtain ⟨n, e⟩ := mem_get ho
  obtain ⟨a, _, y⟩ := r.obj n o e
  rw [← r.len]
  exact y.below
/-- the newest objects are forgotten -/
theorem Post.trunc {h0 : Hp} (r : HR G M h0 H) (p : Post G M H M' h' H') (g : gcOk h0 (Mi.trunc h0.length h') = true) : Post G M H M (Mi.trunc h0.length h') H' := by
  obtain ⟨x, e, hx⟩ := p.pre
  have tk : M'.take h0.length = M := by rw [e, ← r.len]; simp
  have wf : (Mi.trunc h0.length h').all (belowO h0.length) = true := by
    unfold gcOk at g
    rw [Bool.or_eq_true] at g
    rcases g with g | g
    · rw [of_decide_eq_true g]; exact r.wf
    · exact g
  have ln : h0.length ≤ h'.length := by rw [← r.len, ← p.hr.len]; exact p.len
  refine ⟨⟨[], by simp, fun _ z => nomatch z⟩, p.keep, ⟨by rw [trunc_length, r.len]; omega, r.nd, fun k o q => ?_⟩⟩
  have q' := q
  rw [get_trunc] at q
  split at q
  · rename_i hk
    obtain ⟨a, ha, y⟩ := p.hr.obj k o q
    refine ⟨a, ?_, ?_⟩
    · rw [← tk, List.getElem?_take_of_lt hk]; exact ha
    · rw [← tk]
      exact y.cut (List.all_eq_true.mp wf o (get_mem q'))
  · cases q
/-- a result with the heap behind it -/
def Got {α : Type} (G : Gd) (W : L2.XK) (M : List Addr) (H : AH) (x : Out α) (k : α → List Addr → Hp → AH → Prop) : Prop := match x with
  | .ok a h' => ∀ M' H', Post G M H M' h' H' → k a M' h' H'
  | .exc c h' => ∀ M' H', Post G M H M' h' H' → W (.ref (G.cl c)) none H'
  | .bad => False
end
end Mi

/-! new tuples, their objects told (not yet used: see NOTES) -/
namespace Mi
open PySem PySem.Spec PyProof.Rows L2

section
variable {X : Cx} {pins : List (Addr × Obj)} {σ : L2.St} {H : AH} {s : Shared}
/-- a tuple is made -/
theorem tup_laid (I : Inv X pins σ H s) {vs : List V} {its : List Value} {t : Nat} (r : Vals vs its) (hz : vs.length ≤ sizeLine) :
    Inv X pins σ (upd H s.heap.objs.size (.frz { cls := .type "tuple", data := .seq its.toArray } (.tup vs))) { s with heap := s.heap.push { cls := .type "tuple", data := .seq its.toArray }, toks := t } :=
  I.laid (t' := t) (fun b o e => Heap.get?_push_of_some _ e) (Nat.le_refl _) (show ObjOk X.prog X.w _ _ _ (.frz _ (.tup vs)) from ⟨Heap.get?_push_size _ rfl, hz, its, r, IsTup.new _ _⟩)
/-- what a new tuple is for those that come after -/
def newT (H : AH) (vs : List V) (Q : VK) : Prop := ∀ (p : Addr) (ob : Obj), H p = none → ob.dict = none → Q (.ref p) (upd H p (.frz ob (.tup vs)))
theorem call_tuple_F : CallR X (.type "tuple") (fun xs H Q => ∃ p ys, xs = [.ref p] ∧ ((SqL X.K H p ys ∧ newT H ys Q) ∨ (SqT X.K H p ys ∧ Q (.ref p) H))) := by
  intro pins s σ H xs us Q I r h
  obtain ⟨p, ys, rfl, h⟩ := h
  obtain ⟨u, rfl, rx⟩ := vals1 r
  cases rx
  rcases h with ⟨hq, q⟩ | ⟨hq, q⟩
  · obtain ⟨its, r', pl, hz⟩ := I.list hq
    have hlen := r'.length
    refine call_tuple_list pl.isList (fun h' kp => ?_) (by simp only [List.size_toArray] <;> omega)
    have I1 : Inv X pins σ H { s with heap := h' } := I.kept (t' := s.toks) kp
    exact ⟨.ref h'.objs.size, _, tup_laid (t := s.toks) I1 r' hz, rfl, q _ _ (I1.hok.fresh (Nat.le_refl _)) rfl⟩
  · obtain ⟨its, r', pl, hz⟩ := I.tuple hq
    exact call_tuple_same pl ⟨.ref p, H, I, rfl, q⟩
theorem pe_tup_F {es : List Expr} {x1 : Nat} {pos : Pos} {t : TA} (h : PA X es t) : PE X (.Tuple es x1 pos) (fun σ H Q => t σ H fun vs H1 => vs.length ≤ sizeLine ∧ newT H1 vs Q) := by
  refine ⟨fun pins s σ H Q I hq => ?_⟩
  refine wpAny_Tuple_spliced (thn (h.run pos pins s σ H _ I hq) fun us s1 ⟨xs, H1, I1, r, z, q⟩ => ⟨by rw [← r.length]; exact z, ?_⟩)
  exact ⟨.ref s1.heap.objs.size, _, tup_laid (t := s1.toks) I1 r z, rfl, q _ _ (I1.hok.fresh (Nat.le_refl _)) rfl⟩
theorem op_cat_F : OpR X (binaryOp .Add) (fun x y H Q => ∃ a b xs ys, x = .ref a ∧ y = .ref b ∧ SqT X.K H a xs ∧ SqT X.K H b ys ∧ xs ≠ [] ∧ xs.length + ys.length ≤ sizeLine ∧ (ys = [] → Q (.ref a) H) ∧ (ys ≠ [] → newT H (xs ++ ys) Q)) := by
  intro pins s σ H x y v u Q I rx ry h
  obtain ⟨a, b, xs, ys, rfl, rfl, ha, hb, hx, hz, q1, q2⟩ := h
  cases rx
  cases ry
  obtain ⟨its, r1, p1, _⟩ := I.tuple ha
  obtain ⟨its2, r2, p2, _⟩ := I.tuple hb
  refine HT.cat_tup p1 p2 (fun z => hx (r1.nil_iff.mp z)) (fun z => ⟨.ref a, H, I, rfl, q1 (r2.nil_iff.mp z)⟩) (fun z => ?_) (by rw [← r1.length, ← r2.length]; exact hz)
  exact ⟨.ref s.heap.objs.size, _, tup_laid (t := s.toks) I (r1.append r2) (by rw [List.length_append]; exact hz), rfl, q2 (fun w => z (r2.nil_iff.mpr w)) _ _ (I.hok.fresh (Nat.le_refl _)) rfl⟩
theorem sl_tup_F : SlR X (fun x lo hi H Q => ∃ a xs, x = .ref a ∧ SqT X.K H a xs ∧ (HT.sIx xs.length 0 lo = 0 ∧ HT.sIx xs.length xs.length hi = xs.length → Q (.ref a) H) ∧
    (¬ (HT.sIx xs.length 0 lo = 0 ∧ HT.sIx xs.length xs.length hi = xs.length) → newT H (cutV xs lo hi) Q)) := by
  intro pins s σ H x v vl vu lo hi sl Q I rx hs pl pu h
  obtain ⟨a, xs, rfl, hx, q1, q2⟩ := h
  cases rx
  obtain ⟨its, r, ht, hz⟩ := I.tuple hx
  have hlen : its.toArray.size = xs.length := by rw [List.size_toArray]; exact r.length.symm
  refine ⟨"tuple", _, PyProof.Rows.slot_tuple_getitem.lookup, ht.typeIs, ?_⟩
  by_cases hw : HT.sIx xs.length 0 lo = 0 ∧ HT.sIx xs.length xs.length hi = xs.length
  · exact getItem_tuple_whole ht hs pl pu (by rw [hlen]; exact hw) ⟨.ref a, H, I, rfl, q1 hw⟩
  · refine HT.getItem_tuple_cut ht hs pl pu (by rw [hlen]; exact hw) ?_ (by rw [hlen]; exact hz)
    rw [hlen]
    exact ⟨.ref s.heap.objs.size, _, tup_laid (t := s.toks) I ((r.drop (HT.sIx xs.length 0 lo)).take (HT.sIx xs.length xs.length hi - HT.sIx xs.length 0 lo)) (Nat.le_trans (cutV_length xs lo hi) hz), rfl, q2 hw _ _ (I.hok.fresh (Nat.le_refl _)) rfl⟩
theorem op_cat_FA : OpR X (binaryOp .Add) (fun x y H Q => ∃ a b xs ys, x = .ref a ∧ y = .ref b ∧ SqT X.K H a xs ∧ SqT X.K H b ys ∧ xs.length + ys.length ≤ sizeLine ∧
    (xs = [] → Q (.ref b) H) ∧ (xs ≠ [] → ys = [] → Q (.ref a) H) ∧ (xs ≠ [] → ys ≠ [] → newT H (xs ++ ys) Q)) := by
  intro pins s σ H x y v u Q I rx ry h
  obtain ⟨a, b, xs, ys, rfl, rfl, ha, hb, hz, q0, q1, q2⟩ := h
  by_cases hx : xs = []
  · subst hx
    exact op_catA pins s σ H _ _ v u Q I rx ry ⟨a, b, [], ys, rfl, rfl, ha, hb, hz, q0, fun z => absurd rfl z, fun z => absurd rfl z⟩
  · exact op_cat_F pins s σ H _ _ v u Q I rx ry ⟨a, b, xs, ys, rfl, rfl, ha, hb, hx, hz, q1 hx, q2 hx⟩
end
end Mi

/-! Mini's expressions run as the model's -/
namespace Mi
open PySem PySem.Spec PyProof.Rows L2

section
variable {G : Gd} {M M' M1 M2 : List Addr} {H H' H0 H1 H2 : AH} {h h' h1 h2 : Hp} {W : XK}

theorem KeepA.refl : KeepA M H H := fun _ _ _ e => e
/-- a value that is read: a new list stands at a place of its own -/
def VR (G : Gd) (M : List Addr) (H : AH) : D → V → Prop
  | .lst xs, v => ∃ a vs, v = .ref a ∧ a ∉ M ∧ H a = some (.lst vs) ∧ DRs G M H xs vs
  | d, v => DR G M H d v
theorem RD.vr {d : D} {v : V} (x : RD G M' H H' d v) : VR G M' H' d v := by
  cases d with
  | lst xs => obtain ⟨a, vs, e, _, q⟩ := x; exact ⟨a, vs, e, q⟩
  | _ => exact x
theorem DR.rd {d : D} {v : V} (x : DR G M' H' d v) : RD G M' H H' d v := by
  cases d with
  | lst xs => exact x.elim
  | _ => exact x
theorem DR.vr {d : D} {v : V} (x : DR G M H d v) : VR G M H d v := by
  cases d with
  | lst xs => exact x.elim
  | _ => exact x
theorem VR.mono (r : HR G M h H) (p : Post G M H M' h' H') {d : D} {v : V} (x : VR G M H d v) : VR G M' H' d v := by
  cases d with
  | lst xs =>
    obtain ⟨a, vs, e, n, q, y⟩ := x
    refine ⟨a, vs, e, fun z => ?_, p.keep a _ n q, y.mono r p⟩
    rw [p.new n z] at q; cases q
  | _ => exact DR.mono r p x
theorem RD.mono (r : HR G M h H) (p : Post G M H M' h' H') (f : ∀ a, H a = none → H0 a = none) {d : D} {v : V} (x : RD G M H0 H d v) : RD G M' H0 H' d v := by
  cases d with
  | lst xs =>
    obtain ⟨a, vs, e, z, n, q, y⟩ := x
    refine ⟨a, vs, e, z, fun w => ?_, p.keep a _ n q, y.mono r p⟩
    rw [p.new n w] at q; cases q
  | _ => exact DR.mono r p x
/-- a result of a later step is one of the whole -/
theorem RD.back (r : HR G M h H) (p : Post G M H M1 h1 H1) {d : D} {v : V} (x : RD G M' H1 H' d v) : RD G M' H H' d v := by
  cases d with
  | lst xs =>
    obtain ⟨a, vs, e, z, q⟩ := x
    exact ⟨a, vs, e, p.free r z, q⟩
  | _ => exact x
theorem VR.lst (r : HR G M h H) {d : D} {v : V} {xs : List D} (x : VR G M H d v) (e : listOf d h = some xs) : ∃ a vs, v = .ref a ∧ SqL G.K H a vs ∧ DRs G M H xs vs := by
  cases d with
  | lst ys =>
    cases e
    obtain ⟨a, vs, e, n, q, y⟩ := x
    exact ⟨a, vs, e, .inl (.inl q), y⟩
  | cst ys =>
    cases e
    obtain ⟨a, vs, e, q, y⟩ := x
    exact ⟨a, vs, e, q.l, y⟩
  | ref n =>
    obtain ⟨a, ha, e1⟩ := x
    have e : (match get h n with
      | some (.lst xs) => some xs
      | some (.frz xs) => some xs
      | _ => none) = some xs := e
    cases g : get h n with
    | none => rw [g] at e; cases e
    | some o =>
      obtain ⟨b, hb, y⟩ := r.obj n o g
      rw [ha] at hb; cases hb
      rw [g] at e
      cases o with
      | lst ys => cases e; obtain ⟨vs, z, w⟩ := y; exact ⟨a, vs, e1, .inl (.inl z), w⟩
      | frz ys => exact y.elim
      | dic _ => cases e
      | ins _ _ => cases e
  | _ => cases e
theorem VR.seq (r : HR G M h H) {d : D} {v : V} {xs : List D} (x : VR G M H d v) (e : seqOf d h = some xs) : ∃ a vs, v = .ref a ∧ (SqL G.K H a vs ∨ SqT G.K H a vs) ∧ DRs G M H xs vs := by
  cases d with
  | tup ys =>
    cases e
    obtain ⟨a, vs, e, q, y⟩ := x
    exact ⟨a, vs, e, .inr q.sq, y⟩
  | _ =>
    obtain ⟨a, vs, e1, q, y⟩ := VR.lst r x e
    exact ⟨a, vs, e1, .inl q, y⟩

theorem Got.from {α : Type} {x : Out α} {k : α → List Addr → Hp → AH → Prop} (r : HR G M h H) (p : Post G M H M1 h1 H1) (g : Got G W M H x k) : Got G W M1 H1 x k := by
  cases x with
  | ok a h' => exact fun M' H' q => g M' H' (p.trans r q)
  | exc c h' => exact fun M' H' q => g M' H' (p.trans r q)
  | bad => exact g
theorem Got.bd {α β : Type} {x : Out α} {f : α → Hp → Out β} {k : β → List Addr → Hp → AH → Prop} (r : HR G M h H) (g : Got G W M H (x.bd f) k) :
    Got G W M H x fun a M1 h1 H1 => Got G W M1 H1 (f a h1) k := by
  cases x with
  | ok a h' => exact fun M' H' q => Got.from r q g
  | exc c h' => exact g
  | bad => exact g
theorem Got.imp {α : Type} {x : Out α} {k k' : α → List Addr → Hp → AH → Prop} (g : Got G W M H x k) (f : ∀ a M' h' H', Post G M H M' h' H' → k a M' h' H' → k' a M' h' H') : Got G W M H x k' := by
  cases x with
  | ok a h' => exact fun M' H' q => f _ _ _ _ q (g M' H' q)
  | exc c h' => exact g
  | bad => exact g
theorem Got.ofO {α : Type} {x : Option α} {k : α → List Addr → Hp → AH → Prop} (g : Got G W M H (ofO x h) k) : ∃ a, x = some a ∧ ∀ M' H', Post G M H M' h H' → k a M' h H' := by
  cases x with
  | none => exact g.elim
  | some a => exact ⟨a, rfl, g⟩
/-- the list's length has a bound -/
theorem sz_eq : sizeLine = 16777216 := sizeLine_eq
end

/-- the reading of a run by Mini -/
def tO (G : Gd) (W : WX) (f : Env → Hp → Out D) : TE := fun σ H Q => ∃ M h ρ, EnvR G M H ρ σ ∧ HR G M h H ∧ Got G (fun c d H' => W c d σ H') M H (f ρ h) fun d M' _ H' => ∀ v, RD G M' H H' d v → Q v H'
/-- arguments, each new list with its place -/
def tA (G : Gd) (W : WX) (f : Env → Hp → Out (List D)) : TA := fun σ H Q => ∃ M h ρ, EnvR G M H ρ σ ∧ HR G M h H ∧ Got G (fun c d H' => W c d σ H') M H (f ρ h) fun ds M' _ H' => ∀ vs, DRs G M' H' ds vs → Q vs H'
/-- arguments of a built-in -/
def VRs (G : Gd) (M : List Addr) (H : AH) : List D → List V → Prop
  | [], vs => vs = []
  | x :: xs, vs => ∃ v r, vs = v :: r ∧ VR G M H x v ∧ VRs G M H xs r
def tR (G : Gd) (W : WX) (f : Env → Hp → Out (List D)) : TA := fun σ H Q => ∃ M h ρ, EnvR G M H ρ σ ∧ HR G M h H ∧ Got G (fun c d H' => W c d σ H') M H (f ρ h) fun ds M' _ H' => ∀ vs, VRs G M' H' ds vs → Q vs H'
/-- a test -/
def tT (G : Gd) (W : WX) (f : Env → Hp → Out Bool) : TT := fun σ H Q => ∃ M h ρ, EnvR G M H ρ σ ∧ HR G M h H ∧ Got G (fun c d H' => W c d σ H') M H (f ρ h) fun b _ _ H' => Q b H'

section
variable {G : Gd} {M M' : List Addr} {H H' : AH} {h h' : Hp} {W : WX} {X : Cx} {e a b c : Expr} {f g : Env → Hp → Out D} {pins : List (Addr × Obj)} {s : Shared} {σ : L2.St} {ρ : Env} {pos : Pos} {C : Ctx}

/-- an expression is run -/
theorem use (ha : PE X e (tO G W f)) (I : Inv X pins σ H s) (er : EnvR G M H ρ σ) (hr : HR G M h H) {k : D → List Addr → Hp → AH → Prop} (g : Got G (fun c d H' => W c d σ H') M H (f ρ h) k) :
    wpAny (model X.prog X.w) X.A (eval e X.env) (fun u s1 => ∃ d M' h' H' v, Inv X pins σ H' s1 ∧ RelV v u ∧ Post G M H M' h' H' ∧ RD G M' H H' d v ∧ k d M' h' H') X.xe s :=
  thn (ha.run pins s σ H (fun v H' => ∃ d M' h', Post G M H M' h' H' ∧ RD G M' H H' d v ∧ k d M' h' H') I
    ⟨M, h, ρ, er, hr, g.imp fun d M' h' H' p q v x => ⟨d, M', h', p, x, q⟩⟩) fun u s1 ⟨v, H', I1, r, d, M', h', p, x, q⟩ => ⟨d, M', h', H', v, I1, r, p, x, q⟩
theorem useT {f : Env → Hp → Out Bool} (ha : PT X e (tT G W f)) (I : Inv X pins σ H s) (er : EnvR G M H ρ σ) (hr : HR G M h H) {k : Bool → List Addr → Hp → AH → Prop} (g : Got G (fun c d H' => W c d σ H') M H (f ρ h) k) :
    wpAny (model X.prog X.w) X.A (isTrue e X.env (eval e X.env)) (fun b s1 => ∃ M' h' H', Inv X pins σ H' s1 ∧ Post G M H M' h' H' ∧ k b M' h' H') X.xe s :=
  thn (ha.run pins s σ H (fun b H' => ∃ M' h', Post G M H M' h' H' ∧ k b M' h' H') I
    ⟨M, h, ρ, er, hr, g.imp fun d M' h' H' p q => ⟨M', h', p, q⟩⟩) fun u s1 ⟨H', I1, M', h', p, q⟩ => ⟨M', h', H', I1, p, q⟩
theorem useA {es : List Expr} {f : Env → Hp → Out (List D)} (ha : PA X es (tA G W f)) (I : Inv X pins σ H s) (er : EnvR G M H ρ σ) (hr : HR G M h H) {k : List D → List Addr → Hp → AH → Prop} (g : Got G (fun c d H' => W c d σ H') M H (f ρ h) k) :
    wpAny (model X.prog X.w) X.A (spliced (backTo pos (starEach es X.env))) (fun us s1 => ∃ ds M' h' H' vs, Inv X pins σ H' s1 ∧ Vals vs us ∧ Post G M H M' h' H' ∧ DRs G M' H' ds vs ∧ k ds M' h' H') X.xe s :=
  thn (ha.run pos pins s σ H (fun vs H' => ∃ ds M' h', Post G M H M' h' H' ∧ DRs G M' H' ds vs ∧ k ds M' h' H') I
    ⟨M, h, ρ, er, hr, g.imp fun d M' h' H' p q v x => ⟨d, M', h', p, x, q⟩⟩) fun u s1 ⟨v, H', I1, r, d, M', h', p, x, q⟩ => ⟨d, M', h', H', v, I1, r, p, x, q⟩
theorem useR {es : List Expr} {f : Env → Hp → Out (List D)} (ha : PA X es (tR G W f)) (I : Inv X pins σ H s) (er : EnvR G M H ρ σ) (hr : HR G M h H) {k : List D → List Addr → Hp → AH → Prop} (g : Got G (fun c d H' => W c d σ H') M H (f ρ h) k) :
    wpAny (model X.prog X.w) X.A (spliced (backTo pos (starEach es X.env))) (fun us s1 => ∃ ds M' h' H' vs, Inv X pins σ H' s1 ∧ Vals vs us ∧ Post G M H M' h' H' ∧ VRs G M' H' ds vs ∧ k ds M' h' H') X.xe s :=
  thn (ha.run pos pins s σ H (fun vs H' => ∃ ds M' h', Post G M H M' h' H' ∧ VRs G M' H' ds vs ∧ k ds M' h' H') I
    ⟨M, h, ρ, er, hr, g.imp fun d M' h' H' p q v x => ⟨d, M', h', p, x, q⟩⟩) fun u s1 ⟨v, H', I1, r, d, M', h', p, x, q⟩ => ⟨d, M', h', H', v, I1, r, p, x, q⟩

/-! ### names, constants -/
theorem m_var {i : Nat} {x : Str} (hN : X.N[i]? = some x) (hv : Vis X.env.scope x) (hd : (x == ("__debug__" : Str)) = false) (hc : (x == ("__classdict__" : Str)) = false) : PE X (.Name x pos) (tO G W (ev C (.var i))) := by
  constructor
  intro pins s σ H Q I ⟨M, h, ρ, er, hr, g⟩
  have g' : Got G (fun c d H' => W c d σ H') M H (match ρ[i]? with
    | some (some d) => Out.ok d h
    | _ => .bad) fun d M' _ H' => ∀ v, RD G M' H H' d v → Q v H' := g
  cases q : ρ[i]? with
  | none => rw [q] at g'; exact g'.elim
  | some o =>
    rw [q] at g'
    cases o with
    | none => exact g'.elim
    | some d =>
      obtain ⟨v, e, x⟩ := er.2 i d q
      exact (pe_var hN hv hd hc).run pins s σ H Q I ⟨v, e, g' M H (Post.refl hr) v x.rd⟩
theorem m_const {m : E} {d : D} {v : V} (he : PE X e (tC v)) (hm : ∀ ρ h, ev C m ρ h = .ok d h) (x : ∀ M H, DR G M H d v) : PE X e (tO G W (ev C m)) := by
  constructor
  intro pins s σ H Q I ⟨M, h, ρ, er, hr, g⟩
  rw [hm] at g
  exact he.run pins s σ H Q I (g M H (Post.refl hr) v (x M H).rd)
theorem m_glo {x : String} {y : Str} {d : D} {v : V} {u : Value} (hg : Gl X y) (hm : X.mg y = some u) (r : RelV v u) (q : C.glo x = some d) (dr : ∀ M H, DR G M H d v) (hd : (y == ("__debug__" : Str)) = false) : PE X (.Name y pos) (tO G W (ev C (.glo x))) :=
  m_const (pe_glob hg hm r hd) (fun ρ h => by show ofO (C.glo x) h = _; rw [q] <;> rfl) dr

/-! ### truth -/
theorem VR.truth (r : HR G M h H) {d : D} {v : V} {k : Bool} (x : VR G M H d v) (e : Mi.truth d h = some k) : TruV G.K v H k := by
  cases d with
  | non => cases e; rw [show v = .non from x] <;> rfl
  | bl c => cases e; rw [show v = .bl k from x] <;> rfl
  | int i => cases e; rw [show v = .int i from x] <;> rfl
  | str z =>
    cases e
    obtain ⟨rfl, y⟩ := x
    refine ⟨by rw [sOf_len, sz_eq]; exact y.1, ?_⟩
    rw [sOf_len]
    cases z with
    | nil => rfl
    | cons _ _ => simp; omega
  | tup xs =>
    cases e
    obtain ⟨a, vs, rfl, q, y⟩ := x
    refine .inr (.inl ⟨vs, q.sq, ?_⟩)
    cases xs with
    | nil => rw [show vs = [] from y] <;> rfl
    | cons _ _ => obtain ⟨_, _, rfl, _⟩ := y; rfl
  | exc c => cases e
  | cst xs =>
    cases e
    obtain ⟨a, vs, rfl, q, y⟩ := x
    refine .inl ⟨vs, q.l, ?_⟩
    cases xs with
    | nil => rw [show vs = [] from y] <;> rfl
    | cons _ _ => obtain ⟨_, _, rfl, _⟩ := y; rfl
  | lst xs =>
    cases e
    obtain ⟨a, vs, rfl, _, q, y⟩ := x
    refine .inl ⟨vs, .inl (.inl q), ?_⟩
    cases xs with
    | nil => rw [show vs = [] from y] <;> rfl
    | cons _ _ => obtain ⟨_, _, rfl, _⟩ := y; rfl
  | ref n =>
    obtain ⟨a, ha, e1⟩ := x
    subst e1
    have e : (match get h n with
      | some (.lst xs) => some (!xs.isEmpty)
      | some (.frz xs) => some (!xs.isEmpty)
      | _ => none) = some k := e
    cases g : get h n with
    | none => rw [g] at e; cases e
    | some o =>
      obtain ⟨b, hb, y⟩ := r.obj n o g
      rw [ha] at hb; cases hb
      rw [g] at e
      cases o with
      | lst xs =>
        cases e; obtain ⟨vs, z, y⟩ := y; refine .inl ⟨vs, .inl (.inl z), ?_⟩
        cases xs with
        | nil => rw [show vs = [] from y] <;> rfl
        | cons _ _ => obtain ⟨_, _, rfl, _⟩ := y; rfl
      | frz xs => exact y.elim
      | dic kvs => cases e
      | ins c fs => cases e
theorem truthy_run (hK : X.K = G.K) (I : Inv X pins σ H s) (r : HR G M h H) {d : D} {v : V} {u : Value} {k : Bool} (ru : RelV v u) (x : VR G M H d v) (e : Mi.truth d h = some k) {Q : Bool → Shared → Prop} (q : ∀ s', Inv X pins σ H s' → Q k s') :
    wpAny (model X.prog X.w) X.A (truthy u) Q X.xe s :=
  thn (tru_ok pins s σ H v u (fun c H' => c = k ∧ H' = H) I ru ⟨k, by rw [hK]; exact x.truth r e, rfl, rfl⟩) fun c s' ⟨H', I', e1, e2⟩ => by
    subst e1 e2
    exact q s' I'
end
end Mi

/-! operators on values -/
namespace Mi
open PySem PySem.Spec PyProof.Rows L2

section
variable {G : Gd} {M M' : List Addr} {H H' : AH} {h h' : Hp} {X : Cx} {pins : List (Addr × Obj)} {s : Shared} {σ : L2.St} {d d' z : D} {x y : V} {u w : Value}

theorem VR.mut (r : HR G M h H) {d : D} {v : V} {xs : List D} (x : VR G M H d v) (e : mutOf d h = some xs) : ∃ a vs, v = .ref a ∧ H a = some (.lst vs) ∧ DRs G M H xs vs := by
  cases d with
  | lst ys =>
    cases e
    obtain ⟨a, vs, e, n, q, y⟩ := x
    exact ⟨a, vs, e, q, y⟩
  | ref n =>
    obtain ⟨a, ha, e1⟩ := x
    have e : (match get h n with
      | some (.lst xs) => some xs
      | _ => none) = some xs := e
    cases g : get h n with
    | none => rw [g] at e; cases e
    | some o =>
      obtain ⟨b, hb, y⟩ := r.obj n o g
      rw [ha] at hb; cases hb
      rw [g] at e
      cases o with
      | lst ys => cases e; obtain ⟨vs, z, w⟩ := y; exact ⟨a, vs, e1, z, w⟩
      | _ => cases e
  | _ => cases e
/-- a new list is laid: a result -/
theorem new_lst (r : HR G M h H) {p : Addr} {xs : List D} {vs : List V} (hp : H p = none) (y : DRs G M H xs vs) : Post G M H M h (upd H p (.lst vs)) ∧ RD G M H (upd H p (.lst vs)) (.lst xs) (.ref p) :=
  have P := Post.lay (u := .lst vs) r hp
  ⟨P, p, vs, rfl, hp, r.nmem hp, upd_same, y.mono r P⟩
theorem new_tup (r : HR G M h H) {p : Addr} {ob : Obj} {xs : List D} {vs : List V} (hp : H p = none) (hd : ob.dict = none) (y : DRs G M H xs vs) : Post G M H M h (upd H p (.frz ob (.tup vs))) ∧ RD G M H (upd H p (.frz ob (.tup vs))) (.tup xs) (.ref p) :=
  have P := Post.lay (u := .frz ob (.tup vs)) r hp
  ⟨P, p, vs, rfl, ⟨.inl (.inr ⟨ob, upd_same⟩), .inl ⟨ob, _, upd_same, hd⟩⟩, y.mono r P⟩
theorem ite_some {α : Type} {c : Prop} [Decidable c] {a b : α} (e : (if c then some a else none) = some b) : c ∧ a = b := by
  by_cases q : c
  · rw [if_pos q] at e; exact ⟨q, Option.some.inj e⟩
  · rw [if_neg q] at e; cases e

def bop : BO → Operator
  | .add => .Add | .sub => .Sub | .mul => .Mult | .fdv => .FloorDiv | .mod => .Mod | .pow => .Pow | .band => .BitAnd
theorem smallI_iff {i : Int} (e : smallI i = true) : -(2 ^ 64) < i ∧ i < 2 ^ 64 := by
  unfold smallI at e
  rw [Bool.and_eq_true] at e
  have h1 := of_decide_eq_true e.1
  have h2 := of_decide_eq_true e.2
  exact ⟨by omega, by omega⟩
theorem okS_app {s t : List Nat} (a : okS s) (b : okS t) (e : okLen (s.length + t.length) = true) : okS (s ++ t) := by
  have := of_decide_eq_true e
  refine ⟨by rw [List.length_append]; exact this, fun c hc => ?_⟩
  rcases List.mem_append.mp hc with q | q
  · exact a.2 c q
  · exact b.2 c q
theorem sOf_app (s t : List Nat) : sOf s ++ sOf t = sOf (s ++ t) := by
  show (⟨s.toArray ++ t.toArray⟩ : Str) = ⟨(s ++ t).toArray⟩
  rw [List.append_toArray]
theorem flat_rep (k : Nat) (v : V) : (List.replicate k [v]).flatten = List.replicate k v := by
  induction k with
  | zero => rfl
  | succ k ih => rw [List.replicate_succ, List.flatten_cons, ih, List.replicate_succ] <;> rfl

theorem bin_run {o : BO} (hK : X.K = G.K) (I : Inv X pins σ H s) (r : HR G M h H) (ru : RelV x u) (rw' : RelV y w) (a : VR G M H d x) (b : VR G M H d' y) (e : binV o d d' h = some z) {Q : VK}
    (q : ∀ H' v, Post G M H M h H' → RD G M H H' z v → Q v H') : wpAny (model X.prog X.w) X.A (binaryOp (bop o) u w) (EP X pins σ Q) X.xe s := by
  have q0 : ∀ v, DR G M H z v → Q v H := fun v t => q H v (Post.refl r) t.rd
  have catL : ∀ {d d' : D} {x y : V}, RelV x u → RelV y w → VR G M H d x → VR G M H d' y → (match mutOf d h, mutOf d' h with
      | some s, some t => if okLen (s.length + t.length) = true then some (.lst (s ++ t)) else none
      | _, _ => none) = some z → wpAny (model X.prog X.w) X.A (binaryOp .Add u w) (EP X pins σ Q) X.xe s := fun {d d' x y} ru rw' a b e => by
    cases e1 : mutOf d h with
    | none => rw [e1] at e; cases e
    | some xs =>
      cases e2 : mutOf d' h with
      | none => rw [e1, e2] at e; cases e
      | some ys =>
        rw [e1, e2] at e
        obtain ⟨hz, rfl⟩ := ite_some e
        obtain ⟨a1, vs, rfl, z1, w1⟩ := a.mut r e1
        obtain ⟨a2, ws, rfl, z2, w2⟩ := b.mut r e2
        have hz' := of_decide_eq_true hz
        refine op_cat pins s σ H _ _ u w Q I ru rw' ⟨a1, a2, vs, ws, rfl, rfl, z1, z2, by rw [← w1.length, ← w2.length, sz_eq]; exact hz', fun p hp => ?_⟩
        obtain ⟨P, R⟩ := new_lst r hp (w1.append w2)
        exact q _ _ P R
  cases o with
  | add =>
    cases d with
    | int i =>
      cases d' with
      | int j =>
        cases e
        rw [show x = .int i from a] at ru
        rw [show y = .int j from b] at rw'
        exact op_add pins s σ H _ _ u w Q I ru rw' ⟨i, j, rfl, rfl, q0 _ rfl⟩
      | _ => exact catL ru rw' a b e
    | str i =>
      cases d' with
      | str j =>
        obtain ⟨hz, rfl⟩ := ite_some e
        obtain ⟨rfl, ka⟩ := a
        obtain ⟨rfl, kb⟩ := b
        refine op_add_str pins s σ H _ _ u w Q I ru rw' ⟨_, _, rfl, rfl, by rw [sOf_len, sOf_len, sz_eq]; exact of_decide_eq_true hz, ?_⟩
        rw [sOf_app]
        exact q0 _ ⟨rfl, okS_app ka kb hz⟩
      | _ => exact catL ru rw' a b e
    | tup i =>
      cases d' with
      | tup j =>
        obtain ⟨hz, rfl⟩ := ite_some e
        obtain ⟨a1, vs, rfl, z1, w1⟩ := a
        obtain ⟨a2, ws, rfl, z2, w2⟩ := b
        refine op_cat_FA pins s σ H _ _ u w Q I ru rw' ⟨a1, a2, vs, ws, rfl, rfl, by rw [hK]; exact z1.sq, by rw [hK]; exact z2.sq, by rw [← w1.length, ← w2.length, sz_eq]; exact of_decide_eq_true hz, fun e0 => ?_, fun _ e0 => ?_, fun _ _ p ob hp hd => ?_⟩
        · subst e0
          cases i with
          | nil => exact q0 _ ⟨a2, ws, rfl, z2, w2⟩
          | cons _ _ => obtain ⟨_, _, e0, _⟩ := w1; cases e0
        · subst e0
          cases j with
          | nil => rw [List.append_nil] at q0; exact q0 _ ⟨a1, vs, rfl, z1, w1⟩
          | cons _ _ => obtain ⟨_, _, e0, _⟩ := w2; cases e0
        · obtain ⟨P, R⟩ := new_tup r hp hd (w1.append w2)
          exact q _ _ P R
      | _ => exact catL ru rw' a b e
    | _ => exact catL ru rw' a b e
  | sub =>
    cases d with
    | int i =>
      cases d' with
      | int j =>
        cases e
        rw [show x = .int i from a] at ru
        rw [show y = .int j from b] at rw'
        exact op_sub pins s σ H _ _ u w Q I ru rw' ⟨i, j, rfl, rfl, q0 _ rfl⟩
      | _ => cases e
    | _ => cases e
  | mul =>
    cases d with
    | int i =>
      cases d' with
      | int j =>
        obtain ⟨hz, rfl⟩ := ite_some e
        rw [show x = .int i from a] at ru
        rw [show y = .int j from b] at rw'
        rw [Bool.or_eq_true] at hz
        exact op_mul pins s σ H _ _ u w Q I ru rw' ⟨i, j, rfl, rfl, hz.imp smallI_iff smallI_iff, q0 _ rfl⟩
      | _ => cases e
    | lst xs =>
      cases xs with
      | nil => cases d' <;> cases e
      | cons t ts =>
        cases ts with
        | cons _ _ => cases d' <;> cases e
        | nil =>
          cases d' with
          | int j =>
            obtain ⟨hz, rfl⟩ := ite_some e
            have hz' := of_decide_eq_true hz.1
            have hj := hz.2
            obtain ⟨a1, vs, rfl, _, z1, v1, v2, rfl, w1, rfl⟩ := a
            rw [show y = .int j from b] at rw'
            refine op_rep pins s σ H _ _ u w Q I ru rw' ⟨a1, j, [v1], rfl, rfl, z1, by omega, by omega, by rw [sz_eq, List.length_singleton]; omega, fun p hp => ?_⟩
            rw [flat_rep]
            obtain ⟨P, R⟩ := new_lst r hp (DRs.rep w1 j.toNat)
            exact q _ _ P R
          | _ => cases e
    | _ => cases e
  | fdv =>
    cases d with
    | int i =>
      cases d' with
      | int j =>
        obtain ⟨hz, rfl⟩ := ite_some e
        rw [show x = .int i from a] at ru
        rw [show y = .int j from b] at rw'
        exact op_fdiv pins s σ H _ _ u w Q I ru rw' ⟨i, j, rfl, rfl, hz, q0 _ rfl⟩
      | _ => cases e
    | _ => cases e
  | mod =>
    cases d with
    | int i =>
      cases d' with
      | int j =>
        obtain ⟨hz, rfl⟩ := ite_some e
        rw [show x = .int i from a] at ru
        rw [show y = .int j from b] at rw'
        exact op_mod pins s σ H _ _ u w Q I ru rw' ⟨i, j, rfl, rfl, hz, q0 _ rfl⟩
      | _ => cases e
    | _ => cases e
  | pow =>
    cases d with
    | int i =>
      cases d' with
      | int j =>
        obtain ⟨⟨h1, h2, h3⟩, rfl⟩ := ite_some e
        rw [show x = .int i from a] at ru
        rw [show y = .int j from b] at rw'
        obtain ⟨h4, h5⟩ := smallI_iff h3
        exact op_pow pins s σ H _ _ u w Q I ru rw' ⟨i, j, rfl, rfl, ⟨h1, h2, by omega⟩, q0 _ rfl⟩
      | _ => cases e
    | _ => cases e
  | band =>
    cases d with
    | int i =>
      cases d' with
      | int j =>
        obtain ⟨⟨h1, h2⟩, rfl⟩ := ite_some e
        rw [show x = .int i from a] at ru
        rw [show y = .int j from b] at rw'
        refine op_and pins s σ H _ _ u w Q I ru rw' ⟨i, j, rfl, rfl, ?_⟩
        show Q (.int (Builtin.bitAnd i j)) H
        rw [bitAnd_pp h1 h2]
        exact q0 _ rfl
      | _ => cases e
    | _ => cases e

/-! ### == -/
/-- values without objects -/
def plainB : D → Bool
  | .ref _ => false
  | .exc _ => false
  | .cst _ => false
  | .tup xs => go xs
  | .lst xs => go xs
  | _ => true
where go : List D → Bool
  | [] => true
  | x :: xs => plainB x && go xs
mutual
theorem eqD_eqv : ∀ a b : D, plainB a = true → plainB b = true → eqD a b = PyData.eqv (toPy a) (toPy b)
  | .non, b, _, hb => by cases b <;> first | rfl | cases hb
  | .bl c, b, _, hb => by
    cases b with
    | int j => simp only [eqD, toPy, PyData.eqv]
    | _ => first | rfl | cases hb
  | .int i, b, _, hb => by
    cases b with
    | bl j => simp only [eqD, toPy, PyData.eqv]
    | _ => first | rfl | cases hb
  | .str s, b, _, hb => by
    cases b with
    | str t =>
      simp only [eqD, toPy, PyData.eqv]
      rw [Bool.eq_iff_iff, beq_iff_eq, beq_iff_eq]
      exact ⟨fun e => by rw [e], sOf_inj⟩
    | _ => first | rfl | cases hb
  | .tup xs, b, ha, hb => by
    cases b with
    | tup ys => simp only [eqD, toPy, PyData.eqv]; exact eqDs_eqv xs ys ha hb
    | _ => first | rfl | cases hb
  | .lst xs, b, ha, hb => by
    cases b with
    | lst ys => simp only [eqD, toPy, PyData.eqv]; exact eqDs_eqv xs ys ha hb
    | _ => first | rfl | cases hb
  | .ref _, _, ha, _ => by cases ha
  | .exc _, _, ha, _ => by cases ha
  | .cst _, _, ha, _ => by cases ha
theorem eqDs_eqv : ∀ a b : List D, plainB.go a = true → plainB.go b = true → eqDs a b = PyData.eqvAll (toPys a) (toPys b)
  | [], b, _, _ => by cases b <;> simp only [eqDs, toPys, PyData.eqvAll]
  | x :: xs, b, ha, hb => by
    cases b with
    | nil => simp only [eqDs, toPys, PyData.eqvAll]
    | cons y ys =>
      have ha : (plainB x && plainB.go xs) = true := ha
      have hb : (plainB y && plainB.go ys) = true := hb
      rw [Bool.and_eq_true] at ha hb
      simp only [eqDs, toPys, PyData.eqvAll]
      rw [eqD_eqv x y ha.1 hb.1, eqDs_eqv xs ys ha.2 hb.2]
end
theorem bindO {α β : Type} {x : Option α} {f : α → Option β} {b : β} (e : x.bind f = some b) : ∃ a, x = some a ∧ f a = some b := Option.bind_eq_some_iff.mp e
theorem mapO {α β : Type} {x : Option α} {f : α → β} {b : β} (e : x.map f = some b) : ∃ a, x = some a ∧ f a = b := Option.map_eq_some_iff.mp e
/-- what is told of a value that is read as plain data -/
structure Rdp (K : PySem.W.Frag) (H : AH) (n : Nat) (a : D) (v : V) : Prop where
  dp : Dp K H v (toPy a)
  pl : plainB a = true
  lay : PyData.canLay0 (toPy a) = true
  dep : (toPy a).depth ≤ n
structure Rdps (K : PySem.W.Frag) (H : AH) (n : Nat) (a : List D) (v : List V) : Prop where
  dp : DpAll K H v (toPys a)
  pl : plainB.go a = true
  lay : PyData.canLayAll0 (toPys a) = true
  dep : PyData.depthAll (toPys a) ≤ n
theorem rdps_seq {n : Nat} {xs : List D} {a : Addr} {vs : List V} (x : Rdps G.K H n xs vs) (q : SqL G.K H a vs) : Rdp G.K H (n + 1) (.lst xs) (.ref a) :=
  ⟨.lst q x.dp, x.pl, by simp only [toPy, PyData.canLay0]; exact x.lay, by simp only [toPy, PyData.depth]; exact Nat.succ_le_succ x.dep⟩
theorem rdps_tup {n : Nat} {xs : List D} {a : Addr} {vs : List V} (x : Rdps G.K H n xs vs) (q : SqT G.K H a vs) : Rdp G.K H (n + 1) (.tup xs) (.ref a) :=
  ⟨.tup q x.dp, x.pl, by simp only [toPy, PyData.canLay0]; exact x.lay, by simp only [toPy, PyData.depth]; exact Nat.succ_le_succ x.dep⟩
mutual
theorem plain_ok (r : HR G M h H) : ∀ (n : Nat) (d a : D) (v : V), plainD h n d = some a → VR G M H d v → Rdp G.K H n a v
  | n, .non, a, v, e, x => by
    rw [plainD] at e; cases e
    rw [show v = .non from x]
    exact ⟨.non, rfl, rfl, by simp [toPy, PyData.depth]⟩
  | n, .bl b, a, v, e, x => by
    rw [plainD] at e; cases e
    rw [show v = .bl b from x]
    exact ⟨.bl b, rfl, rfl, by simp [toPy, PyData.depth]⟩
  | n, .int i, a, v, e, x => by
    rw [plainD] at e; cases e
    rw [show v = .int i from x]
    exact ⟨.int i, rfl, rfl, by simp [toPy, PyData.depth]⟩
  | n, .str z, a, v, e, x => by
    rw [plainD] at e; cases e
    obtain ⟨rfl, k⟩ := x
    refine ⟨.str _, rfl, ?_, by simp [toPy, PyData.depth]⟩
    simp only [toPy, PyData.canLay0]
    show (sOf z).cps.all (· < 0x110000) = true
    rw [← Array.all_toList]
    exact List.all_eq_true.mpr fun c hc => decide_eq_true (k.2 c hc)
  | 0, .tup _, a, v, e, _ => by rw [plainD] at e <;> first | cases e | simp
  | 0, .lst _, a, v, e, _ => by rw [plainD] at e <;> first | cases e | simp
  | 0, .ref _, a, v, e, _ => by rw [plainD] at e <;> first | cases e | simp
  | n + 1, .tup xs, a, v, e, x => by
    rw [plainD] at e
    obtain ⟨ys, e1, rfl⟩ := mapO e
    obtain ⟨p, vs, rfl, q, y⟩ := x
    exact rdps_tup (plains_ok r n xs ys vs e1 y) q.sq
  | n + 1, .lst xs, a, v, e, x => by
    rw [plainD] at e
    obtain ⟨ys, e1, rfl⟩ := mapO e
    obtain ⟨p, vs, rfl, _, q, y⟩ := x
    exact rdps_seq (plains_ok r n xs ys vs e1 y) (.inl (.inl q))
  | n + 1, .ref k, a, v, e, x => by
    rw [plainD] at e
    obtain ⟨p, hp, rfl⟩ := x
    cases g : get h k with
    | none => rw [g] at e; cases e
    | some o =>
      obtain ⟨b, hb, y⟩ := r.obj k o g
      rw [hp] at hb; cases hb
      rw [g] at e
      cases o with
      | lst xs =>
        obtain ⟨ys, e1, rfl⟩ := mapO e
        obtain ⟨vs, z, y⟩ := y
        exact rdps_seq (plains_ok r n xs ys vs e1 y) (.inl (.inl z))
      | frz xs => exact y.elim
      | dic _ => cases e
      | ins _ _ => cases e
  | 0, .cst _, a, v, e, _ => by rw [plainD] at e <;> first | cases e | simp
  | n + 1, .cst xs, a, v, e, x => by
    rw [plainD] at e
    obtain ⟨ys, e1, rfl⟩ := mapO e
    obtain ⟨p, vs, rfl, q, y⟩ := x
    exact rdps_seq (plains_ok r n xs ys vs e1 y) q.l
  | 0, .exc c, a, v, e, x => by rw [plainD] at e <;> first | cases e | simp
  | n + 1, .exc c, a, v, e, x => by rw [plainD] at e <;> first | cases e | simp
theorem plains_ok (r : HR G M h H) : ∀ (n : Nat) (ds as : List D) (vs : List V), plainDs h n ds = some as → DRs G M H ds vs → Rdps G.K H n as vs
  | n, [], as, vs, e, x => by
    rw [plainDs] at e; cases e
    rw [show vs = [] from x]
    exact ⟨.nil, rfl, by simp [toPys, PyData.canLayAll0], by simp [toPys, PyData.depthAll]⟩
  | n, d :: ds, as, vs, e, x => by
    rw [plainDs] at e
    obtain ⟨a, e1, e⟩ := bindO e
    obtain ⟨bs, e2, rfl⟩ := mapO e
    obtain ⟨v, w, rfl, x1, x2⟩ := x
    have y1 := plain_ok r n d a v e1 x1.vr
    have y2 := plains_ok r n ds bs w e2 x2
    refine ⟨.cons y1.dp y2.dp, ?_, ?_, ?_⟩
    · show (plainB a && plainB.go bs) = true
      rw [y1.pl, y2.pl] <;> rfl
    · simp only [toPys, PyData.canLayAll0]
      rw [y1.lay, y2.lay] <;> rfl
    · simp only [toPys, PyData.depthAll]
      have := y1.dep
      have := y2.dep
      omega
end
theorem Rdp.shaped {K : PySem.W.Frag} {n : Nat} {a : D} {v : V} (x : Rdp K H n a v) (hn : n ≤ 64) : SeqAt.shaped (toPy a) = true := by
  show ((toPy a).canLay0 && decide ((toPy a).depth ≤ 64)) = true
  rw [x.lay, decide_eq_true (Nat.le_trans x.dep hn)] <;> rfl

def cop : CO → CmpOp
  | .eq => .Eq | .ne => .NotEq | .lt => .Lt | .le => .LtE | .gt => .Gt | .ge => .GtE | .inn => .In | .nin => .NotIn
end
end Mi

/-! dicts with whole numbers and texts as keys -/
namespace Mi
open PySem PySem.Spec PyProof.Rows L2

section
variable {G : Gd} {M M' : List Addr} {H H' : AH} {h h' : Hp} {X : Cx} {pins : List (Addr × Obj)} {s : Shared} {σ : L2.St} {d d' z : D} {x y : V} {u w : Value}
/-- a dict, as it stands in both heaps -/
structure DkR (G : Gd) (M : List Addr) (H : AH) (kvs : List (D × D)) (ks : List (L2.Key × V)) : Prop where
  key : kvs.map (·.1) = ks.map fun p => keyD p.1
  ok : ∀ p ∈ ks, ∀ z, p.1 = .inr z → okS z.cps.toList
  val : DRs G M H (kvs.map (·.2)) (ks.map (·.2))
structure TkR (G : Gd) (M : List Addr) (H : AH) (kvs : List (D × D)) (es : TEs) : Prop where
  key : kvs.map (·.1) = es.map fun p => nkD p.1
  kdr : DRs G M H (kvs.map (·.1)) (es.map fun p => L2.V.ref p.2.1)
  val : DRs G M H (kvs.map (·.2)) (es.map (·.2.2))
theorem dic_at (r : HR G M h H) {t : Bool} {kvs : List (D × D)} (va : VR G M H d x) (e : dicOf d h = some (t, kvs)) : ∃ n a, d = .ref n ∧ x = .ref a ∧ M[n]? = some a ∧ get h n = some (.dic t kvs) ∧
    ((t = false ∧ ∃ ks, H a = some (.dK ks) ∧ DkR G M H kvs ks) ∨ (t = true ∧ ∃ es, H a = some (tDO G.w es a) ∧ TkR G M H kvs es)) := by
  cases d with
  | ref n =>
    have e : (match get h n with
      | some (.dic t kvs) => some (t, kvs)
      | _ => none) = some (t, kvs) := e
    cases g : get h n with
    | none => rw [g] at e; cases e
    | some o =>
      rw [g] at e
      cases o with
      | dic t' kvs' =>
        cases e
        obtain ⟨b, hb, y⟩ := r.obj n _ g
        obtain ⟨a, ha, rfl⟩ := va
        rw [ha] at hb
        obtain rfl := Option.some.inj hb
        cases t with
        | true =>
          obtain ⟨es, z, w1, w2, w3⟩ := y
          exact ⟨n, a, rfl, rfl, ha, g, .inr ⟨rfl, es, z, w1, w2, w3⟩⟩
        | false =>
          obtain ⟨ks, z, w1, w2, w3⟩ := y
          exact ⟨n, a, rfl, rfl, ha, g, .inl ⟨rfl, ks, z, w1, w2, w3⟩⟩
      | _ => cases e
  | _ => cases e
theorem key_at (va : VR G M H d x) (hk : keyB false d = true) : ∃ q : L2.Key, x = kV q ∧ d = keyD q ∧ ∀ z, q = .inr z → okS z.cps.toList := by
  cases d with
  | int i => exact ⟨.inl i, va, rfl, fun z e => nomatch e⟩
  | str t =>
    obtain ⟨e, k⟩ := va
    exact ⟨.inr (sOf t), e, rfl, fun z e => by cases e; exact k⟩
  | _ => cases hk
theorem eqK {a b : L2.Key} : eqD (keyD a) (keyD b) = decide (a = b) := by
  cases a with
  | inl i =>
    cases b with
    | inl j =>
      show (i == j) = _
      rw [Bool.eq_iff_iff]
      simp
    | inr z => show false = _; simp
  | inr z =>
    cases b with
    | inl j => show false = _; simp
    | inr y =>
      show (z.cps.toList == y.cps.toList) = _
      rw [Bool.eq_iff_iff]
      simp only [beq_iff_eq, decide_eq_true_eq, Sum.inr.injEq]
      exact ⟨fun e => PySem.W.str_of_cps e, fun e => by rw [e]⟩
theorem DkR.nil : DkR G M H [] [] := ⟨rfl, fun _ z => (nomatch z), rfl⟩
theorem DkR.tail {k v : D} {kvs : List (D × D)} {p : L2.Key × V} {ks : List (L2.Key × V)} (x : DkR G M H ((k, v) :: kvs) (p :: ks)) : k = keyD p.1 ∧ DR G M H v p.2 ∧ DkR G M H kvs ks := by
  have h1 := x.key
  rw [List.map_cons, List.map_cons, List.cons.injEq] at h1
  obtain ⟨v', r, e, a, b⟩ := (show DRs G M H (v :: kvs.map (·.2)) (p.2 :: ks.map (·.2)) from x.val)
  cases e
  exact ⟨h1.1, a, h1.2, fun q hq => x.ok q (List.mem_cons_of_mem _ hq), b⟩
theorem DkR.cons {v : D} {kvs : List (D × D)} {p : L2.Key × V} {ks : List (L2.Key × V)} (hk : ∀ z, p.1 = .inr z → okS z.cps.toList) (a : DR G M H v p.2) (x : DkR G M H kvs ks) : DkR G M H ((keyD p.1, v) :: kvs) (p :: ks) :=
  ⟨by rw [List.map_cons, List.map_cons, x.key], fun q hq => by
    rcases List.mem_cons.mp hq with rfl | hq
    · exact hk
    · exact x.ok q hq, ⟨_, _, rfl, a, x.val⟩⟩
theorem DkR.len : ∀ {kvs : List (D × D)} {ks : List (L2.Key × V)}, DkR G M H kvs ks → kvs.length = ks.length := fun x => by
  have := congrArg List.length x.key
  simpa using this
theorem look_rel (q : L2.Key) : ∀ {kvs : List (D × D)} {ks : List (L2.Key × V)}, DkR G M H kvs ks → (∀ v, lookD (keyD q) kvs = some v → ∃ w, valV ks q = some w ∧ DR G M H v w) ∧ (lookD (keyD q) kvs = none → valV ks q = none)
  | [], ks, x => by
    have := x.len
    cases ks with
    | nil => exact ⟨(fun v e => (nomatch e)), fun _ => rfl⟩
    | cons p ks => cases this
  | (k, v) :: kvs, [], x => by
    have := x.len
    cases this
  | (k, v) :: kvs, p :: ks, x => by
    obtain ⟨rfl, a, t⟩ := x.tail
    obtain ⟨i1, i2⟩ := look_rel q t
    have e1 : lookD (keyD q) ((keyD p.1, v) :: kvs) = if p.1 = q then some v else lookD (keyD q) kvs := by
      show (if eqD (keyD p.1) (keyD q) = true then _ else _) = _
      rw [eqK]
      by_cases c : p.1 = q <;> simp [c]
    rw [e1]
    by_cases c : p.1 = q
    · rw [if_pos c, valV_pos c]
      exact ⟨fun w e => by cases e; exact ⟨_, rfl, a⟩, fun e => by cases e⟩
    · rw [if_neg c, valV_neg c]
      exact ⟨i1, i2⟩
theorem any_rel (q : L2.Key) : ∀ {kvs : List (D × D)} {ks : List (L2.Key × V)}, DkR G M H kvs ks → kvs.any (fun p => eqD p.1 (keyD q)) = ks.any fun kv => decide (kv.1 = q)
  | [], ks, x => by
    have := x.len
    cases ks with
    | nil => rfl
    | cons p ks => cases this
  | (k, v) :: kvs, [], x => by
    have := x.len
    cases this
  | (k, v) :: kvs, p :: ks, x => by
    obtain ⟨e, _, t⟩ := x.tail
    rw [List.any_cons, List.any_cons, any_rel q t, e, eqK]
theorem map_rel (q : L2.Key) {b : D} {y : V} (hb : DR G M H b y) : ∀ {kvs : List (D × D)} {ks : List (L2.Key × V)}, DkR G M H kvs ks → DkR G M H (kvs.map fun p => if eqD p.1 (keyD q) = true then (p.1, b) else p) (ks.map fun kv => if kv.1 = q then (kv.1, y) else kv)
  | [], ks, x => by
    have := x.len
    cases ks with
    | nil => exact .nil
    | cons p ks => cases this
  | (k, v) :: kvs, [], x => by
    have := x.len
    cases this
  | (k, v) :: kvs, p :: ks, x => by
    have hk := x.ok p List.mem_cons_self
    obtain ⟨rfl, a, t⟩ := x.tail
    rw [List.map_cons, List.map_cons]
    simp only [eqK]
    have ih := map_rel q hb t
    by_cases c : p.1 = q
    · simp only [c, decide_true, if_true]
      have := ih.cons (p := (p.1, y)) (v := b) hk hb
      simpa only [c, eqK, decide_eq_true_eq] using this
    · simp only [c, decide_false, if_false, Bool.false_eq_true]
      have := ih.cons (p := p) (v := v) hk a
      simpa only [eqK, decide_eq_true_eq] using this
theorem snoc_rel {q : L2.Key} {b : D} {y : V} (hq : ∀ z, q = .inr z → okS z.cps.toList) (hb : DR G M H b y) {kvs : List (D × D)} {ks : List (L2.Key × V)} (x : DkR G M H kvs ks) : DkR G M H (kvs ++ [(keyD q, b)]) (ks ++ [(q, y)]) :=
  ⟨by rw [List.map_append, List.map_append, x.key]; rfl, fun p hp => by
    rcases List.mem_append.mp hp with hp | hp
    · exact x.ok p hp
    · rw [List.mem_singleton.mp hp]; exact hq, by rw [List.map_append, List.map_append]; exact x.val.append (DRs.one hb)⟩
theorem store_rel {q : L2.Key} {b : D} {y : V} (hq : ∀ z, q = .inr z → okS z.cps.toList) (hb : DR G M H b y) {kvs : List (D × D)} {ks : List (L2.Key × V)} (x : DkR G M H kvs ks) : DkR G M H (storeD (keyD q) b kvs) (putK ks q y) := by
  unfold storeD putK
  rw [any_rel q x]
  split
  · exact map_rel q hb x
  · exact snoc_rel hq hb x
theorem drop_rel (q : L2.Key) : ∀ {kvs : List (D × D)} {ks : List (L2.Key × V)}, DkR G M H kvs ks → DkR G M H (dropD (keyD q) kvs) (dropK ks q)
  | [], ks, x => by
    have := x.len
    cases ks with
    | nil => exact .nil
    | cons p ks => cases this
  | (k, v) :: kvs, [], x => by
    have := x.len
    cases this
  | (k, v) :: kvs, p :: ks, x => by
    have hk := x.ok p List.mem_cons_self
    obtain ⟨rfl, a, t⟩ := x.tail
    have ih := drop_rel q t
    unfold dropD dropK at *
    rw [List.filter_cons, List.filter_cons]
    simp only [eqK]
    by_cases c : p.1 = q
    · simp only [c, decide_true, Bool.not_true, Bool.false_eq_true, if_false, ne_eq, not_true_eq_false, decide_false]
      exact ih
    · simp only [c, decide_false, Bool.not_false, if_true, ne_eq, not_false_eq_true, decide_true]
      exact ih.cons hk a
theorem merge_rel : ∀ {ps acc : List (D × D)} {kvs ka : List (L2.Key × V)}, DkR G M H acc ka → DkR G M H ps kvs → DkR G M H (mergeD acc ps) (mergeK ka kvs)
  | [], acc, kvs, ka, a, x => by
    have := x.len
    cases kvs with
    | nil => exact a
    | cons _ _ => cases this
  | (k, b) :: ps, acc, [], ka, a, x => by
    have := x.len
    cases this
  | (k, b) :: ps, acc, p :: kvs, ka, a, x => by
    have ok := x.ok p List.mem_cons_self
    obtain ⟨rfl, y, t⟩ := x.tail
    exact merge_rel (ps := ps) (acc := storeD (keyD p.1) b acc) (kvs := kvs) (ka := putK ka p.1 p.2) (store_rel ok y a) t
/-- a dict is written -/
theorem dic_put (hr : HR G M h H) {n : Nat} {p : Addr} {kvs kvs' : List (D × D)} {ks' : List (L2.Key × V)} (g : get h n = some (.dic false kvs)) (hp : M[n]? = some p) (x : DkR G M H kvs' ks') : Post G M H M (put h n (.dic false kvs')) (upd H p (.dK ks')) := by
  refine Post.put hr g hp ⟨ks', upd_same, x.key, x.ok, x.val.keeps hr ?_ fun _ _ e => e⟩
  intro b w nb _ q
  rw [upd_ne (fun z => nb (by rw [z]; exact List.mem_of_getElem? hp))]
  exact q
theorem dr_put {p : Addr} {u : HO} (hr : HR G M h H) (mem : p ∈ M) (x : DR G M H d y) : DR G M (upd H p u) d y := x.keeps hr (fun b w nb _ q => by rw [upd_ne (fun z => nb (by rw [z]; exact mem))]; exact q) fun _ _ e => e
/-- d[y], d a dict -/
theorem ix_dict (hu : X.A.units + 1 < cLine) : IxR X fun x y H Q => ∃ a v, x = .ref a ∧ DGet H a y (some v) ∧ Q v H := by
  intro value slice pins s σ H x y v u Q I rx ry ⟨a, b, ex, g, q⟩ hs
  subst ex
  obtain rfl : v = Value.ref a := rx
  exact tail_any (dict_typeIs I g) PySem.F.slot_dict_getitem.lookup (d_getItem hu I g ry fun w' s' I' rw' => ⟨b, H, I', rw', q⟩) hs
end
end Mi

/-! dicts whose keys are tuples, nested perhaps -/
namespace Mi
open PySem PySem.Spec PyProof.Rows L2

mutual
theorem eqN : ∀ a b : NestedKey, eqD (nkD a) (nkD b) = NestedKey.beq a b
  | .none, b => by cases b <;> simp [nkD, eqD, NestedKey.beq]
  | .num i, b => by
    cases b with
    | num j =>
      simp only [nkD, eqD, NestedKey.beq]
      rw [Bool.eq_iff_iff]; simp
    | _ => simp [nkD, eqD, NestedKey.beq]
  | .text x, b => by
    cases b with
    | text y =>
      simp only [nkD, eqD, NestedKey.beq]
      rw [Bool.eq_iff_iff]
      simp only [beq_iff_eq, decide_eq_true_eq]
      exact ⟨fun e => PySem.W.str_of_cps e, fun e => by rw [e]⟩
    | _ => simp [nkD, eqD, NestedKey.beq]
  | .tup ks, b => by
    cases b with
    | tup js => simp only [nkD, eqD, NestedKey.beq]; exact eqNs ks js
    | _ => simp [nkD, eqD, NestedKey.beq]
theorem eqNs : ∀ a b : List NestedKey, eqDs (nkDs a) (nkDs b) = NestedKey.beqAll a b
  | [], b => by cases b <;> simp [nkDs, eqDs, NestedKey.beqAll]
  | k :: ks, b => by
    cases b with
    | nil => simp [nkDs, eqDs, NestedKey.beqAll]
    | cons j js => simp only [nkDs, eqDs, NestedKey.beqAll]; rw [eqN k j, eqNs ks js]
end
theorem eqK2 {a b : NestedKey} : eqD (nkD a) (nkD b) = decide (a = b) := by rw [eqN, NestedKey.decide_eq]
mutual
theorem keyN_of : ∀ (n : Nat) (d : D), keyN n d = true → ∃ k, d = nkD k ∧ k.depth ≤ n
  | n, .non, _ => ⟨.none, rfl, by simp [NestedKey.depth]⟩
  | n, .int i, _ => ⟨.num i, rfl, by simp [NestedKey.depth]⟩
  | n, .str s, _ => ⟨.text (sOf s), rfl, by simp [NestedKey.depth]⟩
  | 0, .tup xs, h => by simp [keyN] at h
  | n + 1, .tup xs, h => by
    obtain ⟨ks, rfl, hd⟩ := keyNs_of n xs (by simpa [keyN] using h)
    exact ⟨.tup ks, rfl, by simp only [NestedKey.depth]; omega⟩
  | 0, .bl _, h => by simp [keyN] at h
  | 0, .lst _, h => by simp [keyN] at h
  | 0, .ref _, h => by simp [keyN] at h
  | 0, .exc _, h => by simp [keyN] at h
  | 0, .cst _, h => by simp [keyN] at h
  | _ + 1, .bl _, h => by simp [keyN] at h
  | _ + 1, .lst _, h => by simp [keyN] at h
  | _ + 1, .ref _, h => by simp [keyN] at h
  | _ + 1, .exc _, h => by simp [keyN] at h
  | _ + 1, .cst _, h => by simp [keyN] at h
theorem keyNs_of : ∀ (n : Nat) (ds : List D), keyNs n ds = true → ∃ ks, ds = nkDs ks ∧ NestedKey.depthAll ks ≤ n
  | n, [], _ => ⟨[], rfl, by simp [NestedKey.depthAll]⟩
  | n, d :: ds, h => by
    have h : (keyN n d && keyNs n ds) = true := by simpa [keyNs] using h
    rw [Bool.and_eq_true] at h
    obtain ⟨k, rfl, h1⟩ := keyN_of n d h.1
    obtain ⟨ks, rfl, h2⟩ := keyNs_of n ds h.2
    exact ⟨k :: ks, rfl, by simp only [NestedKey.depthAll]; omega⟩
end
theorem keyT_of {d : D} (h : keyB true d = true) : ∃ k, d = nkD k ∧ k.depth ≤ 8 ∧ ∃ xs, d = .tup xs := by
  cases d with
  | tup xs =>
    obtain ⟨ks, rfl, hd⟩ := keyNs_of 5 xs (by simpa [keyB] using h)
    exact ⟨.tup ks, rfl, by simp only [NestedKey.depth]; omega, _, rfl⟩
  | _ => simp [keyB] at h
section
variable {G : Gd} {M M' : List Addr} {H H' : AH} {h h' : Hp} {X : Cx} {pins : List (Addr × Obj)} {s : Shared} {σ : L2.St} {d d' z : D} {x y : V} {u r : Value} {A : Around} {E : Value → Shared → Prop}
mutual
theorem nk_is (hK : X.K = G.K) (I : Inv X pins σ H s) : ∀ (k : NestedKey) {v : V} {u : Value}, DR G M H (nkD k) v → RelV v u → NestedIs s.heap k u
  | .none, v, u, x, rv => by
    obtain rfl : v = .non := x
    cases rv
    exact .none
  | .num i, v, u, x, rv => by
    obtain rfl : v = .int i := x
    obtain ⟨t, rfl⟩ := rv
    exact .int i t
  | .text z, v, u, x, rv => by
    obtain ⟨rfl, _⟩ := x
    obtain ⟨t, rfl⟩ := rv
    exact .text z t
  | .tup ks, v, u, x, rv => by
    obtain ⟨a, vs, rfl, hq, w⟩ := x
    cases rv
    obtain ⟨its, r, ⟨o, ho, hc, n, hd⟩, hz⟩ := I.tuple (by rw [hK]; exact hq.sq)
    exact .tup ho hc hd (nks_is hK I ks w r)
theorem nks_is (hK : X.K = G.K) (I : Inv X pins σ H s) : ∀ (ks : List NestedKey) {vs : List V} {us : List Value}, DRs G M H (nkDs ks) vs → Vals vs us → NestedAll s.heap ks us
  | [], vs, us, x, rv => by
    rw [show vs = [] from x] at rv
    cases rv
    exact .nil
  | k :: ks, vs, us, x, rv => by
    obtain ⟨v, w, rfl, x1, x2⟩ := x
    cases rv with
    | cons r1 r2 => exact .cons (nk_is hK I k x1 r1) (nks_is hK I ks x2 r2)
end
/-- the entries, with their values in the heap -/
abbrev XEs := List (NestedKey × Addr × Value)
abbrev XR : TEs → XEs → Prop := Paired fun (p : NestedKey × Addr × V) (q : NestedKey × Addr × Value) => p.1 = q.1 ∧ p.2.1 = q.2.1 ∧ RelV p.2.2 q.2.2
theorem ents_x {w : World} {P : Program} : ∀ {es : TEs} {ents : List DictEntry}, Paired (tdEnt w) es ents → ∃ xs : XEs, XR es xs ∧ ents = xs.map (entryOfKey (nestedKind P w))
  | _, _, .nil => ⟨[], .nil, rfl⟩
  | _, _, .cons (a := p) (b := e) ⟨e1, e2, e3⟩ t => by
    obtain ⟨xs, r, rfl⟩ := ents_x (P := P) t
    refine ⟨(p.1, p.2.1, e.val) :: xs, .cons ⟨rfl, rfl, e3⟩ r, ?_⟩
    rw [List.map_cons]
    congr 1
    obtain ⟨a, b, c⟩ := e
    simp only at e1 e2
    subst e1 e2
    rfl
theorem x_ents {w : World} {P : Program} : ∀ {es : TEs} {xs : XEs}, XR es xs → Paired (tdEnt w) es (xs.map (entryOfKey (nestedKind P w)))
  | _, _, .nil => .nil
  | _, _, .cons (a := p) (b := q) ⟨e1, e2, e3⟩ t => .cons ⟨by rw [e1]; rfl, by rw [e2]; rfl, e3⟩ (x_ents t)
theorem XR.keys : ∀ {es : TEs} {xs : XEs}, XR es xs → es.map (·.1) = xs.map (·.1)
  | _, _, .nil => rfl
  | _, _, .cons ⟨e1, _, _⟩ t => by rw [List.map_cons, List.map_cons, e1, XR.keys t]
theorem XR.len {es : TEs} {xs : XEs} (x : XR es xs) : es.length = xs.length := by
  have := congrArg List.length x.keys
  simpa using this
theorem XR.mem : ∀ {es : TEs} {xs : XEs}, XR es xs → ∀ q ∈ xs, ∃ p ∈ es, p.1 = q.1 ∧ p.2.1 = q.2.1
  | _, _, .cons ⟨e1, e2, _⟩ t, q, hq => by
    rcases List.mem_cons.mp hq with rfl | hq
    · exact ⟨_, List.mem_cons_self, e1, e2⟩
    · obtain ⟨p, hp, r⟩ := XR.mem t q hq
      exact ⟨p, List.mem_cons_of_mem _ hp, r⟩
theorem kd_at : ∀ {es : TEs}, DRs G M H (es.map fun p => nkD p.1) (es.map fun p => V.ref p.2.1) → ∀ p ∈ es, DR G M H (nkD p.1) (.ref p.2.1)
  | e :: es, x, p, hp => by
    obtain ⟨v, w, e1, x1, x2⟩ := x
    cases e1
    rcases List.mem_cons.mp hp with rfl | hp
    · exact x1
    · exact kd_at x2 p hp
/-- the dict in the heap -/
theorem td_of (hK : X.K = G.K) (hw : X.w = G.w) (I : Inv X pins σ H s) {a : Addr} {es : TEs} {kvs : List (D × D)} (e : H a = some (tDO G.w es a)) (t : TkR G M H kvs es) :
    es.length ≤ sizeLine ∧ (a == sysModules) = false ∧ (∀ p ∈ es, p.1.depth ≤ 8) ∧ ∃ xs, XR es xs ∧ s.heap.DictOfH (nestedKind X.prog X.w) a xs := by
  obtain ⟨⟨z, hd, nd, dp, o, ents, ep, ho, hx, hdat, pr⟩, _⟩ := I.hok a _ e
  rw [← hw] at pr
  obtain ⟨xs, xr, he⟩ := ents_x (P := X.prog) pr
  refine ⟨z, hd, dp, xs, xr, o, ents, ep, ho, hx, hdat, he, fun q hq => ?_, by rw [← xr.keys]; exact nd⟩
  obtain ⟨p, hp, e1, e2⟩ := xr.mem q hq
  have kd := t.kdr
  rw [t.key] at kd
  rw [← e1, ← e2]
  exact ⟨nk_is hK I p.1 (kd_at kd p hp) rfl, dp p hp⟩
theorem td_new (hw : X.w = G.w) {a : Addr} {es : TEs} {xs : XEs} {h' : Heap} {H' : AH} (z : es.length ≤ sizeLine) (hd : (a == sysModules) = false) (dp : ∀ p ∈ es, p.1.depth ≤ 8) (xr : XR es xs) (dd : h'.DictOfH (nestedKind X.prog X.w) a xs) : ObjOk X.prog X.w H' h' a (tDO G.w es a) := by
  obtain ⟨o, ents, ep, ho, hx, hdat, he, _, nd⟩ := dd
  refine ⟨⟨z, hd, by rw [xr.keys]; exact nd, dp, o, ents, ep, ho, hx, hdat, by rw [he, ← hw]; exact x_ents xr⟩, ⟨o, ho⟩, fun h1 h2 ⟨a1, a2, a3, a4, o, ents, ep, q, r⟩ k => ⟨a1, a2, a3, a4, o, ents, ep, k o q, r⟩⟩
/-! what is looked up, stored, dropped -/
def atT (es : TEs) (k : NestedKey) : Option V := (es.find? fun x => decide (x.1 = k)).map (·.2.2)
def storeT (es : TEs) (k : NestedKey) (b : Addr) (y : V) : TEs := if (atT es k).isSome then es.map (fun x => if x.1 = k then (x.1, x.2.1, y) else x) else es ++ [(k, b, y)]
def dropT (es : TEs) (k : NestedKey) : TEs := es.filter fun x => decide (x.1 ≠ k)
theorem at_x (k : NestedKey) : ∀ {es : TEs} {xs : XEs}, XR es xs → (∀ v, atT es k = some v → ∃ p, atKey xs k = some p ∧ RelV v p.2) ∧ (atT es k = none → atKey xs k = none)
  | _, _, .nil => ⟨fun v e => (nomatch e), fun _ => rfl⟩
  | _, _, .cons (a := p) (b := q) ⟨e1, e2, e3⟩ t => by
    obtain ⟨i1, i2⟩ := at_x k t
    unfold atT atKey at *
    rw [List.find?_cons, List.find?_cons, ← e1]
    by_cases c : p.1 = k
    · simp only [c, decide_true]
      exact ⟨fun v e => by cases e; exact ⟨_, rfl, e3⟩, fun e => by cases e⟩
    · simp only [c, decide_false]
      exact ⟨i1, i2⟩
theorem at_isSome {k : NestedKey} {es : TEs} {xs : XEs} (x : XR es xs) : (atT es k).isSome = (atKey xs k).isSome := by
  obtain ⟨i1, i2⟩ := at_x k x
  cases e : atT es k with
  | none => rw [i2 e] <;> rfl
  | some v => obtain ⟨p, q, _⟩ := i1 v e; rw [q] <;> rfl
theorem map_x {k : NestedKey} {y : V} {u : Value} (ru : RelV y u) : ∀ {es : TEs} {xs : XEs}, XR es xs → XR (es.map fun x => if x.1 = k then (x.1, x.2.1, y) else x) (xs.map (putAt k u))
  | _, _, .nil => .nil
  | _, _, .cons (a := p) (b := q) ⟨e1, e2, e3⟩ t => by
    rw [List.map_cons, List.map_cons]
    refine .cons ?_ (map_x ru t)
    unfold putAt
    rw [← e1]
    by_cases c : p.1 = k
    · rw [if_pos c, if_pos c]; exact ⟨rfl, e2, ru⟩
    · rw [if_neg c, if_neg c]; exact ⟨e1, e2, e3⟩
theorem snoc_x {k : NestedKey} {b : Addr} {y : V} {u : Value} (ru : RelV y u) : ∀ {es : TEs} {xs : XEs}, XR es xs → XR (es ++ [(k, b, y)]) (xs ++ [(k, b, u)])
  | _, _, .nil => .cons ⟨rfl, rfl, ru⟩ .nil
  | _, _, .cons e t => .cons e (snoc_x ru t)
theorem store_x {k : NestedKey} {b : Addr} {y : V} {u : Value} (ru : RelV y u) {es : TEs} {xs : XEs} (x : XR es xs) : XR (storeT es k b y) (storedH xs k b u) := by
  unfold storeT storedH
  rw [at_isSome x]
  split
  · exact map_x ru x
  · exact snoc_x ru x
theorem drop_x {k : NestedKey} : ∀ {es : TEs} {xs : XEs}, XR es xs → XR (dropT es k) (withoutH xs k)
  | _, _, .nil => .nil
  | _, _, .cons (a := p) (b := q) ⟨e1, e2, e3⟩ t => by
    have ih := drop_x (k := k) t
    unfold dropT withoutH at *
    rw [List.filter_cons, List.filter_cons, ← e1]
    by_cases c : p.1 = k
    · simp only [c, ne_eq, not_true_eq_false, decide_false, Bool.false_eq_true, if_false]; exact ih
    · simp only [c, ne_eq, not_false_eq_true, decide_true, if_true]; exact .cons ⟨e1, e2, e3⟩ ih
theorem store_len (es : TEs) (k : NestedKey) (b : Addr) (y : V) : (storeT es k b y).length ≤ es.length + 1 := by
  unfold storeT
  split <;> simp
theorem store_dp {es : TEs} {k : NestedKey} {b : Addr} {y : V} (hk : k.depth ≤ 8) (dp : ∀ p ∈ es, p.1.depth ≤ 8) : ∀ p ∈ storeT es k b y, p.1.depth ≤ 8 := by
  unfold storeT
  split
  · intro p hp
    obtain ⟨q, hq, rfl⟩ := List.mem_map.mp hp
    split
    · exact dp q hq
    · exact dp q hq
  · intro p hp
    rcases List.mem_append.mp hp with hp | hp
    · exact dp p hp
    · rw [List.mem_singleton.mp hp]; exact hk
/-! Mini's side -/
theorem TkR.len {kvs : List (D × D)} {es : TEs} (x : TkR G M H kvs es) : kvs.length = es.length := by
  have := congrArg List.length x.key
  simpa using this
theorem TkR.tail {k v : D} {kvs : List (D × D)} {p : NestedKey × Addr × V} {es : TEs} (x : TkR G M H ((k, v) :: kvs) (p :: es)) : k = nkD p.1 ∧ DR G M H v p.2.2 ∧ DR G M H (nkD p.1) (.ref p.2.1) ∧ TkR G M H kvs es := by
  have h1 := x.key
  rw [List.map_cons, List.map_cons, List.cons.injEq] at h1
  obtain ⟨v', r, e, a, b⟩ := (show DRs G M H (v :: kvs.map (·.2)) (p.2.2 :: es.map (·.2.2)) from x.val)
  cases e
  obtain ⟨v', r, e, a2, b2⟩ := (show DRs G M H (k :: kvs.map (·.1)) (V.ref p.2.1 :: es.map fun p => V.ref p.2.1) from x.kdr)
  cases e
  exact ⟨h1.1, a, h1.1 ▸ a2, h1.2, b2, b⟩
theorem TkR.cons {v : D} {kvs : List (D × D)} {p : NestedKey × Addr × V} {es : TEs} (hk : DR G M H (nkD p.1) (.ref p.2.1)) (a : DR G M H v p.2.2) (x : TkR G M H kvs es) : TkR G M H ((nkD p.1, v) :: kvs) (p :: es) :=
  ⟨by rw [List.map_cons, List.map_cons, x.key], ⟨_, _, rfl, hk, x.kdr⟩, ⟨_, _, rfl, a, x.val⟩⟩
theorem TkR.nil : TkR G M H [] [] := ⟨rfl, rfl, rfl⟩
theorem lookT_rel (q : NestedKey) : ∀ {kvs : List (D × D)} {es : TEs}, TkR G M H kvs es → (∀ v, lookD (nkD q) kvs = some v → ∃ w, atT es q = some w ∧ DR G M H v w) ∧ (lookD (nkD q) kvs = none → atT es q = none)
  | [], es, x => by
    have := x.len
    cases es with
    | nil => exact ⟨(fun v e => (nomatch e)), fun _ => rfl⟩
    | cons p es => cases this
  | (k, v) :: kvs, [], x => by
    have := x.len
    cases this
  | (k, v) :: kvs, p :: es, x => by
    obtain ⟨rfl, a, _, t⟩ := x.tail
    obtain ⟨i1, i2⟩ := lookT_rel q t
    have e1 : lookD (nkD q) ((nkD p.1, v) :: kvs) = if p.1 = q then some v else lookD (nkD q) kvs := by
      show (if eqD (nkD p.1) (nkD q) = true then _ else _) = _
      rw [eqK2]
      by_cases c : p.1 = q <;> simp [c]
    rw [e1]
    unfold atT at *
    rw [List.find?_cons]
    by_cases c : p.1 = q
    · rw [if_pos c]
      simp only [c, decide_true]
      exact ⟨fun w e => by cases e; exact ⟨_, rfl, a⟩, fun e => by cases e⟩
    · rw [if_neg c]
      simp only [c, decide_false]
      exact ⟨i1, i2⟩
theorem anyT_rel (q : NestedKey) : ∀ {kvs : List (D × D)} {es : TEs}, TkR G M H kvs es → kvs.any (fun p => eqD p.1 (nkD q)) = (atT es q).isSome
  | [], es, x => by
    have := x.len
    cases es with
    | nil => rfl
    | cons p es => cases this
  | (k, v) :: kvs, [], x => by
    have := x.len
    cases this
  | (k, v) :: kvs, p :: es, x => by
    obtain ⟨e, _, _, t⟩ := x.tail
    rw [List.any_cons, anyT_rel q t, e, eqK2]
    unfold atT
    rw [List.find?_cons]
    by_cases c : p.1 = q <;> simp [c]
theorem mapT_rel (q : NestedKey) {b : D} {y : V} (hb : DR G M H b y) : ∀ {kvs : List (D × D)} {es : TEs}, TkR G M H kvs es → TkR G M H (kvs.map fun p => if eqD p.1 (nkD q) = true then (p.1, b) else p) (es.map fun x => if x.1 = q then (x.1, x.2.1, y) else x)
  | [], es, x => by
    have := x.len
    cases es with
    | nil => exact .nil
    | cons p es => cases this
  | (k, v) :: kvs, [], x => by
    have := x.len
    cases this
  | (k, v) :: kvs, p :: es, x => by
    obtain ⟨rfl, a, ka, t⟩ := x.tail
    rw [List.map_cons, List.map_cons]
    simp only [eqK2]
    have ih := mapT_rel q hb t
    by_cases c : p.1 = q
    · simp only [c, decide_true, if_true]
      have := ih.cons (p := (p.1, p.2.1, y)) (v := b) ka hb
      simpa only [c, eqK2, decide_eq_true_eq] using this
    · simp only [c, decide_false, if_false, Bool.false_eq_true]
      have := ih.cons (p := p) (v := v) ka a
      simpa only [eqK2, decide_eq_true_eq] using this
theorem snocT_rel {q : NestedKey} {c : Addr} {b : D} {y : V} (hq : DR G M H (nkD q) (.ref c)) (hb : DR G M H b y) {kvs : List (D × D)} {es : TEs} (x : TkR G M H kvs es) : TkR G M H (kvs ++ [(nkD q, b)]) (es ++ [(q, c, y)]) :=
  ⟨by rw [List.map_append, List.map_append, x.key]; rfl, by rw [List.map_append, List.map_append]; exact x.kdr.append (DRs.one hq), by rw [List.map_append, List.map_append]; exact x.val.append (DRs.one hb)⟩
theorem storeT_rel {q : NestedKey} {c : Addr} {b : D} {y : V} (hq : DR G M H (nkD q) (.ref c)) (hb : DR G M H b y) {kvs : List (D × D)} {es : TEs} (x : TkR G M H kvs es) : TkR G M H (storeD (nkD q) b kvs) (storeT es q c y) := by
  unfold storeD storeT
  rw [anyT_rel q x]
  split
  · exact mapT_rel q hb x
  · exact snocT_rel hq hb x
theorem dropT_rel (q : NestedKey) : ∀ {kvs : List (D × D)} {es : TEs}, TkR G M H kvs es → TkR G M H (dropD (nkD q) kvs) (dropT es q)
  | [], es, x => by
    have := x.len
    cases es with
    | nil => exact .nil
    | cons p es => cases this
  | (k, v) :: kvs, [], x => by
    have := x.len
    cases this
  | (k, v) :: kvs, p :: es, x => by
    obtain ⟨rfl, a, ka, t⟩ := x.tail
    have ih := dropT_rel q t
    unfold dropD dropT at *
    rw [List.filter_cons, List.filter_cons]
    simp only [eqK2]
    by_cases c : p.1 = q
    · simp only [c, decide_true, Bool.not_true, Bool.false_eq_true, if_false, ne_eq, not_true_eq_false, decide_false]
      exact ih
    · simp only [c, decide_false, Bool.not_false, if_true, ne_eq, not_false_eq_true, decide_true]
      exact ih.cons ka a
/-- a dict is written -/
theorem tdic_put (hr : HR G M h H) {n : Nat} {p : Addr} {kvs kvs' : List (D × D)} {es' : TEs} (g : get h n = some (.dic true kvs)) (hp : M[n]? = some p) (x : TkR G M H kvs' es') : Post G M H M (put h n (.dic true kvs')) (upd H p (tDO G.w es' p)) := by
  have kp : KeepN M H (upd H p (tDO G.w es' p)) := fun b w nb _ q => by
    rw [upd_ne (fun z => nb (by rw [z]; exact List.mem_of_getElem? hp))]
    exact q
  exact Post.put hr g hp ⟨es', upd_same, x.key, x.kdr.keeps hr kp fun _ _ e => e, x.val.keeps hr kp fun _ _ e => e⟩
/-! the rules -/
theorem room_n (hu : A.units + 200 < cLine) : (nestedKind X.prog X.w).room A.in1 := by
  show A.in1.units + 8 < cLine
  have : A.in1.units ≤ A.units + 100 := by
    show A.units + _ ≤ _
    omega
  omega
variable {k : NestedKey} {a b : Addr} {es : TEs} {kvs : List (D × D)}
theorem t_getItem {v : V} {Q : Value → Shared → Prop} (hK : X.K = G.K) (hw : X.w = G.w) (hu : A.units + 200 < cLine) (I : Inv X pins σ H s) (e : H a = some (tDO G.w es a)) (t : TkR G M H kvs es) (hd : k.depth ≤ 8) (hk : DR G M H (nkD k) (.ref b)) (hv : atT es k = some v)
    (h : ∀ w' s', Inv X pins σ H s' → RelV v w' → Q w' s') : wpAny (model X.prog X.w) A (getItem (.ref a) (.ref b)) Q E s := by
  obtain ⟨z, hm, dp, xs, xr, dd⟩ := td_of hK hw I e t
  obtain ⟨p, hp, rv⟩ := (at_x k xr).1 v hv
  exact wpAny_getItem_heap (room_n hu) ⟨nk_is hK I k hk rfl, hd⟩ dd hp (h _ _ (I.tok _) rv)
theorem t_in {Q : Value → Shared → Prop} (hK : X.K = G.K) (hw : X.w = G.w) (hu : A.units + 200 < cLine) (I : Inv X pins σ H s) (e : H a = some (tDO G.w es a)) (t : TkR G M H kvs es) (hd : k.depth ≤ 8) (hk : DR G M H (nkD k) (.ref b))
    (h : ∀ s', Inv X pins σ H s' → Q (.bool (atT es k).isSome) s') : wpAny (model X.prog X.w) A (compareOp .In (.ref b) (.ref a)) Q E s := by
  obtain ⟨z, hm, dp, xs, xr, dd⟩ := td_of hK hw I e t
  refine wpAny_in_heap (room_n hu) ⟨nk_is hK I k hk rfl, hd⟩ hm dd ?_
  rw [← at_isSome xr]
  exact h _ (I.tok _)
theorem t_notIn {Q : Value → Shared → Prop} (hK : X.K = G.K) (hw : X.w = G.w) (hu : A.units + 200 < cLine) (I : Inv X pins σ H s) (e : H a = some (tDO G.w es a)) (t : TkR G M H kvs es) (hd : k.depth ≤ 8) (hk : DR G M H (nkD k) (.ref b))
    (h : ∀ s', Inv X pins σ H s' → Q (.bool (!(atT es k).isSome)) s') : wpAny (model X.prog X.w) A (compareOp .NotIn (.ref b) (.ref a)) Q E s := by
  obtain ⟨z, hm, dp, xs, xr, dd⟩ := td_of hK hw I e t
  show wpAny _ _ (do return .bool (!(← contains (.ref a) (.ref b)))) Q E s
  refine wpAny_bind (wpAny_contains_heap (room_n hu) ⟨nk_is hK I k hk rfl, hd⟩ hm dd (wpAny_pure ?_))
  rw [← at_isSome xr]
  exact h _ (I.tok _)
theorem t_setItem {v : V} {Q : Unit → Shared → Prop} (hK : X.K = G.K) (hw : X.w = G.w) (hu : A.units + 200 < cLine) (I : Inv X pins σ H s) (e : H a = some (tDO G.w es a)) (t : TkR G M H kvs es) (hd : k.depth ≤ 8) (hk : DR G M H (nkD k) (.ref b)) (hl : es.length < sizeLine) (rv : RelV v r)
    (h : ∀ s', Inv X pins σ (upd H a (tDO G.w (storeT es k b v) a)) s' → Q () s') : wpAny (model X.prog X.w) A (setItem (.ref a) (.ref b) r) Q E s := by
  obtain ⟨z, hm, dp, xs, xr, dd⟩ := td_of hK hw I e t
  refine wpAny_setItem_heap (hsz := by rw [← xr.len]; exact z) (room_n hu) ⟨nk_is hK I k hk rfl, hd⟩ dd fun h' dd' hs => h _ ?_
  have he : ∃ q, h'.get? a = some q := let ⟨q, _, _, hq, _⟩ := dd'; ⟨q, hq⟩
  exact d_write I (by rw [e]; exact True.intro) hs he (td_new hw (by have := store_len es k b v; omega) hm (store_dp hd dp) (store_x rv xr) dd')
theorem t_get {v : V} {Q : Value → Shared → Prop} {x : Value} {more : List Value} (hm' : (more = [] ∧ x = .none) ∨ more = [x]) (hK : X.K = G.K) (hw : X.w = G.w) (hu : A.units + 200 < cLine) (I : Inv X pins σ H s) (e : H a = some (tDO G.w es a)) (t : TkR G M H kvs es) (hd : k.depth ≤ 8) (hk : DR G M H (nkD k) (.ref b))
    (h : ∀ w' s', Inv X pins σ H s' → (∀ v, atT es k = some v → RelV v w') → (atT es k = none → w' = x) → Q w' s') : wpAny (model X.prog X.w) A (PySem.call (.builtin "dict.get") (.ref a :: .ref b :: more)) Q E s := by
  obtain ⟨z, hm, dp, xs, xr, dd⟩ := td_of hK hw I e t
  obtain ⟨i1, i2⟩ := at_x k xr
  have fin : ∀ tk, Q (((atKey xs k).map (·.2)).getD x) { s with toks := tk } := fun tk => h _ _ (I.tok _) (fun v hv => by
    obtain ⟨p, hp, rv⟩ := i1 v hv
    rw [hp]; exact rv) fun hn => by rw [i2 hn] <;> rfl
  rcases hm' with ⟨rfl, rfl⟩ | rfl
  · exact call_meetsIn F.slot_dict_get dd.typeIs F.entry_dict_get (F.args_dict_get_2 _ _) (meetsH_dict_get (nestedKind X.prog X.w) a b hm) ⟨room_n hu, k, xs, ⟨nk_is hK I k hk rfl, hd⟩, dd, fin _⟩
  · exact call_meetsIn F.slot_dict_get dd.typeIs F.entry_dict_get (F.args_dict_get_3 _ _ _) (meetsH_dict_get_default (nestedKind X.prog X.w) a b hm x) ⟨room_n hu, k, xs, ⟨nk_is hK I k hk rfl, hd⟩, dd, fin _⟩
theorem drop_dp {es : TEs} {k : NestedKey} (dp : ∀ p ∈ es, p.1.depth ≤ 8) : ∀ p ∈ dropT es k, p.1.depth ≤ 8 := fun p hp => dp p (List.mem_filter.mp hp).1
theorem t_pop {v : V} {Q : Value → Shared → Prop} {more : List Value} (hmo : more = [] ∨ ∃ x, more = [x]) (hK : X.K = G.K) (hw : X.w = G.w) (hu : A.units + 200 < cLine) (I : Inv X pins σ H s) (e : H a = some (tDO G.w es a)) (t : TkR G M H kvs es) (hd : k.depth ≤ 8) (hk : DR G M H (nkD k) (.ref b)) (hv : atT es k = some v)
    (h : ∀ w' s', Inv X pins σ (upd H a (tDO G.w (dropT es k) a)) s' → RelV v w' → Q w' s') : wpAny (model X.prog X.w) A (PySem.call (.builtin "dict.pop") (.ref a :: .ref b :: more)) Q E s := by
  obtain ⟨z, hm, dp, xs, xr, dd⟩ := td_of hK hw I e t
  obtain ⟨p, hp, rv⟩ := (at_x k xr).1 v hv
  have ha : argsOk "dict.pop" ⟨.ref a :: .ref b :: more, []⟩ := by
    rcases hmo with rfl | ⟨x, rfl⟩
    · exact F.args_dict_pop_2 _ _
    · exact F.args_dict_pop_3 _ _ _
  refine call_pop_heap (hsz := by rw [← xr.len]; exact z) hmo ha (room_n hu) ⟨nk_is hK I k hk rfl, hd⟩ hm dd hp fun h' dd' hs => h _ _ ?_ rv
  have he : ∃ q, h'.get? a = some q := let ⟨q, _, _, hq, _⟩ := dd'; ⟨q, hq⟩
  exact d_write I (by rw [e]; exact True.intro) hs he (td_new hw (Nat.le_trans (List.length_filter_le _ _) z) hm (drop_dp dp) (drop_x xr) dd')
theorem t_popD {Q : Value → Shared → Prop} {x : Value} (hK : X.K = G.K) (hw : X.w = G.w) (hu : A.units + 200 < cLine) (I : Inv X pins σ H s) (e : H a = some (tDO G.w es a)) (t : TkR G M H kvs es) (hd : k.depth ≤ 8) (hk : DR G M H (nkD k) (.ref b)) (hv : atT es k = none)
    (h : ∀ s', Inv X pins σ H s' → Q x s') : wpAny (model X.prog X.w) A (PySem.call (.builtin "dict.pop") [.ref a, .ref b, x]) Q E s := by
  obtain ⟨z, hm, dp, xs, xr, dd⟩ := td_of hK hw I e t
  exact call_pop_default_heap (hsz := by rw [← xr.len]; exact z) (room_n hu) ⟨nk_is hK I k hk rfl, hd⟩ hm dd ((at_x k xr).2 hv) fun tk => h _ (I.tok _)
theorem t_setdefault {v : V} {Q : Value → Shared → Prop} (hK : X.K = G.K) (hw : X.w = G.w) (hu : A.units + 200 < cLine) (I : Inv X pins σ H s) (e : H a = some (tDO G.w es a)) (t : TkR G M H kvs es) (hd : k.depth ≤ 8) (hk : DR G M H (nkD k) (.ref b)) (hl : es.length < sizeLine) (rv : RelV v r)
    (h1 : ∀ v' w' s', atT es k = some v' → Inv X pins σ H s' → RelV v' w' → Q w' s') (h2 : ∀ s', atT es k = none → Inv X pins σ (upd H a (tDO G.w (storeT es k b v) a)) s' → Q r s') : wpAny (model X.prog X.w) A (PySem.call (.builtin "dict.setdefault") [.ref a, .ref b, r]) Q E s := by
  obtain ⟨z, hm, dp, xs, xr, dd⟩ := td_of hK hw I e t
  obtain ⟨i1, i2⟩ := at_x k xr
  refine call_setdefault_heap (hsz := by rw [← xr.len]; exact z) (room_n hu) ⟨nk_is hK I k hk rfl, hd⟩ hm dd (fun p hp => ?_) fun hn h' dd' hs => ?_
  · cases e2 : atT es k with
    | none => rw [i2 e2] at hp; cases hp
    | some v' =>
      obtain ⟨p', hp', rv'⟩ := i1 v' e2
      rw [hp] at hp'
      cases hp'
      exact h1 v' _ _ e2 (I.tok _) rv'
  · have he : ∃ q, h'.get? a = some q := let ⟨q, _, _, hq, _⟩ := dd'; ⟨q, hq⟩
    have hn2 : atT es k = none := by
      have := at_isSome (k := k) xr
      rw [hn] at this
      cases e2 : atT es k with
      | none => rfl
      | some _ => rw [e2] at this; cases this
    exact h2 _ hn2 (d_write I (by rw [e]; exact True.intro) hs he (td_new hw (by have := store_len es k b v; omega) hm (store_dp hd dp) (store_x rv xr) dd'))
theorem t_len {Q : Value → Shared → Prop} (hK : X.K = G.K) (hw : X.w = G.w) (I : Inv X pins σ H s) (e : H a = some (tDO G.w es a)) (t : TkR G M H kvs es)
    (h : ∀ t s', Inv X pins σ H s' → Q (.int es.length t) s') : wpAny (model X.prog X.w) A (PySem.call (.builtin "dict.__len__") [.ref a]) Q E s := by
  obtain ⟨z, hm, dp, xs, xr, dd⟩ := td_of hK hw I e t
  obtain ⟨ents, ep, hraw, hsz, _⟩ := dd.raw
  refine call_len_raw hm hraw ?_
  rw [hsz, ← xr.len]
  exact h _ _ (I.tok _)
theorem t_empty (hw : X.w = G.w) {H : AH} (h : Heap) (hb : sysModules < h.objs.size) : ObjOk X.prog X.w H (h.push { cls := .type "dict", data := .dict #[] }) h.objs.size (tDO G.w [] h.objs.size) :=
  td_new hw (xs := []) (Nat.zero_le _) (beq_eq_false_iff_ne.mpr (Ne.symm (Nat.ne_of_lt hb))) (fun _ z => (nomatch z)) .nil (Heap.DictOfH.new h)
/-- d[y], d a dict with tuples as keys -/
theorem ix_tdict (hK : X.K = G.K) (hw : X.w = G.w) (hu : X.A.units + 200 < cLine) : IxR X fun x y H Q => ∃ M a b es kvs k v, x = .ref a ∧ y = .ref b ∧ H a = some (tDO G.w es a) ∧ TkR G M H kvs es ∧ k.depth ≤ 8 ∧ DR G M H (nkD k) (.ref b) ∧ atT es k = some v ∧ Q v H := by
  intro value slice pins s σ H x y v u Q I rx ry ⟨M, a, b, es, kvs, k, v', ex, ey, e, t, hd, hk, hv, q⟩ hs
  subst ex ey
  obtain rfl : v = Value.ref a := rx
  obtain rfl : u = Value.ref b := ry
  have ty : s.TypeIs (.ref a) "dict" := by
    obtain ⟨_, _, _, xs, _, dd⟩ := td_of hK hw I e t
    exact dd.typeIs
  exact tail_any ty PySem.F.slot_dict_getitem.lookup (t_getItem hK hw hu I e t hd hk hv fun w' s' I' rw' => ⟨v', H, I', rw', q⟩) hs
/-- a key, as a value -/
theorem keyT_at (va : VR G M H d x) (hk : keyB true d = true) : ∃ k a, x = .ref a ∧ d = nkD k ∧ k.depth ≤ 8 ∧ DR G M H (nkD k) (.ref a) := by
  obtain ⟨k, rfl, hd, xs, e⟩ := keyT_of hk
  cases k with
  | tup ks =>
    obtain ⟨a, vs, rfl, q, w⟩ := (show DR G M H (nkD (.tup ks)) x from va)
    exact ⟨.tup ks, a, rfl, rfl, hd, a, vs, rfl, q, w⟩
  | _ => cases e
end
end Mi

/-! comparisons, items, slices -/
namespace Mi
open PySem PySem.Spec PyProof.Rows L2

section
variable {G : Gd} {M M' : List Addr} {H H' : AH} {h h' : Hp} {X : Cx} {pins : List (Addr × Obj)} {s : Shared} {σ : L2.St} {d d' z : D} {x y : V} {u w : Value}

theorem toPys_map : ∀ xs : List D, toPys xs = xs.map toPy
  | [] => rfl
  | x :: xs => by rw [toPys, toPys_map xs] <;> rfl
theorem any_eqv {a : D} (ha : plainB a = true) : ∀ bs : List D, plainB.go bs = true → (toPys bs).any (fun z => PyData.eqv z (toPy a)) = bs.any fun b => eqD b a
  | [], _ => rfl
  | b :: bs, h => by
    have h : (plainB b && plainB.go bs) = true := h
    rw [Bool.and_eq_true] at h
    rw [toPys, List.any_cons, List.any_cons, any_eqv ha bs h.2, eqD_eqv b a h.1 ha]
theorem roomy (hu : X.A.units + 200 < cLine) {a : PyData} {bs : List PyData} (ha : a.depth ≤ 40) : X.A.units + 1 + min (PyData.depthAll bs) a.depth < cLine := by
  have := Nat.min_le_right (PyData.depthAll bs) a.depth
  omega
/-- x in y, x not in y; k tells which -/
theorem in_run {k : Bool} (hK : X.K = G.K) (hw : X.w = G.w) (hu : X.A.units + 200 < cLine) (I : Inv X pins σ H s) (r : HR G M h H) (ru : RelV x u) (rw' : RelV y w) (a : VR G M H d x) (b : VR G M H d' y) {t : Bool} (e : inV d d' h = some t) {Q : VK}
    (q : Q (.bl (if k then t else !t)) H) : wpAny (model X.prog X.w) X.A (compareOp (if k then .In else .NotIn) u w) (EP X pins σ Q) X.xe s := by
  have key : ∀ {d' : D} {y : V}, RelV y w → VR G M H d' y → ((plainD h deep d).bind fun a => (seqOf d' h).bind fun ys => (plainDs h deep ys).map fun bs => bs.any fun b => eqD b a) = some t →
      wpAny (model X.prog X.w) X.A (compareOp (if k then .In else .NotIn) u w) (EP X pins σ Q) X.xe s := fun {d' y} rw' b e => by
    obtain ⟨da, e1, e⟩ := bindO e
    obtain ⟨ys, e2, e⟩ := bindO e
    obtain ⟨bs, e3, rfl⟩ := mapO e
    have p1 := plain_ok r deep d da x e1 a
    obtain ⟨l, vs, rfl, hl, wl⟩ := b.seq r e2
    have p2 := plains_ok r deep ys bs vs e3 wl
    rw [← hK] at p1 p2 hl
    obtain ⟨as1, r1⟩ := Dp.reads I _ x u p1.dp ru
    have hany := any_eqv p1.pl bs p2.pl
    have rm := roomy (X := X) (bs := toPys bs) hu p1.dep
    rcases hl with hl | hl
    · obtain ⟨as2, r2⟩ := Dp.reads I (.list (toPys bs)) _ w (.lst hl p2.dp) rw'
      cases k with
      | true => exact SeqAt.in_list_reads r2 r1 p2.lay p1.lay rm ⟨.bl _, H, I, rfl, by rw [hany]; exact q⟩
      | false => exact SeqAt.notIn_list_reads r2 r1 p2.lay p1.lay rm ⟨.bl _, H, I, rfl, by rw [hany]; exact q⟩
    · obtain ⟨as2, r2⟩ := Dp.reads I (.tuple (toPys bs)) _ w (.tup hl p2.dp) rw'
      cases k with
      | true => exact SeqAt.in_tuple_reads r2 r1 p2.lay p1.lay rm ⟨.bl _, H, I, rfl, by rw [hany]; exact q⟩
      | false => exact SeqAt.notIn_tuple_reads r2 r1 p2.lay p1.lay rm ⟨.bl _, H, I, rfl, by rw [hany]; exact q⟩
  cases d' with
  | str tt =>
    obtain ⟨rfl, _⟩ := b
    cases d with
    | str ss =>
      cases ss with
      | nil => cases e
      | cons c cs =>
        cases cs with
        | cons _ _ => cases e
        | nil =>
          have e : some (tt.contains c) = some t := e
          cases e
          obtain ⟨rfl, _⟩ := a
          have hc : decide (c ∈ (sOf tt).cps.toList) = tt.contains c := by
            rw [sOf_list, List.contains_eq_mem]
          cases k with
          | true => exact op_in_sign pins s σ H _ _ u w Q I ru rw' ⟨c, _, rfl, rfl, by rw [hc]; exact q⟩
          | false => exact op_notIn_sign pins s σ H _ _ u w Q I ru rw' ⟨c, _, rfl, rfl, by rw [hc]; exact q⟩
    | _ => cases e
  | ref n =>
    have e : (match dicOf (.ref n) h with
      | some p => if keyB p.1 d = true then some (lookD d p.2).isSome else none
      | none => (plainD h deep d).bind fun a => (seqOf (.ref n) h).bind fun ys => (plainDs h deep ys).map fun bs => bs.any fun b => eqD b a) = some t := e
    cases ed : dicOf (.ref n) h with
    | none => rw [ed] at e; exact key rw' b e
    | some p =>
      rw [ed] at e
      obtain ⟨tt, kvs⟩ := p
      obtain ⟨n', p, _, rfl, _, _, hp⟩ := dic_at r b ed
      obtain rfl : w = Value.ref p := rw'
      rcases hp with ⟨rfl, ks, hp, dk⟩ | ⟨rfl, es, hp, dk⟩
      · obtain ⟨kb, e⟩ := ite_some (show (if keyB false d = true then some (lookD d kvs).isSome else none) = some t from e)
        obtain ⟨qk, rfl, rfl, _⟩ := key_at a kb
        have ev : (valV ks qk).isSome = t := by
          obtain ⟨l1, l2⟩ := look_rel qk dk
          rw [← e]
          cases lo : lookD (keyD qk) kvs with
          | none => rw [l2 lo] <;> rfl
          | some v => obtain ⟨w', e1, _⟩ := l1 v lo; rw [e1] <;> rfl
        have hu1 : X.A.units + 1 < cLine := by omega
        cases k with
        | true => exact d_in hu1 I (DGet.k hp) ru fun s' I' => ⟨.bl _, H, I', rfl, by rw [ev]; exact q⟩
        | false => exact d_notIn hu1 I (DGet.k hp) ru fun s' I' => ⟨.bl _, H, I', rfl, by rw [ev]; exact q⟩
      · obtain ⟨kb, e⟩ := ite_some (show (if keyB true d = true then some (lookD d kvs).isSome else none) = some t from e)
        obtain ⟨qk, bb, rfl, rfl, hd, kd⟩ := keyT_at a kb
        have ev : (atT es qk).isSome = t := by
          obtain ⟨l1, l2⟩ := lookT_rel qk dk
          rw [← e]
          cases lo : lookD (nkD qk) kvs with
          | none => rw [l2 lo] <;> rfl
          | some v => obtain ⟨w', e1, _⟩ := l1 v lo; rw [e1] <;> rfl
        obtain rfl : u = Value.ref bb := ru
        cases k with
        | true => exact t_in hK hw hu I hp dk hd kd fun s' I' => ⟨.bl _, H, I', rfl, by rw [ev]; exact q⟩
        | false => exact t_notIn hK hw hu I hp dk hd kd fun s' I' => ⟨.bl _, H, I', rfl, by rw [ev]; exact q⟩
  | _ => exact key rw' b e

theorem cmp_run {o : CO} (hK : X.K = G.K) (hw : X.w = G.w) (hu : X.A.units + 200 < cLine) (I : Inv X pins σ H s) (r : HR G M h H) (ru : RelV x u) (rw' : RelV y w) (a : VR G M H d x) (b : VR G M H d' y) {t : Bool} (e : cmpV o d d' h = some t) {Q : VK}
    (q : Q (.bl t) H) : wpAny (model X.prog X.w) X.A (compareOp (cop o) u w) (EP X pins σ Q) X.xe s := by
  have hu64 : X.A.units + 64 < cLine := by omega
  have eqn : ∀ {t : Bool}, eqV d d' h = some t → ∃ p p', Dp X.K H x p ∧ Dp X.K H y p' ∧ SeqAt.shaped p = true ∧ SeqAt.shaped p' = true ∧ PyData.eqv p p' = t := fun {t} e => by
    obtain ⟨da, e1, e⟩ := bindO e
    obtain ⟨db, e2, rfl⟩ := mapO e
    have p1 := plain_ok r deep d da x e1 a
    have p2 := plain_ok r deep d' db y e2 b
    rw [hK]
    exact ⟨_, _, p1.dp, p2.dp, p1.shaped (by decide), p2.shaped (by decide), (eqD_eqv da db p1.pl p2.pl).symm⟩
  cases o with
  | eq =>
    obtain ⟨p, p', h1, h2, h3, h4, rfl⟩ := eqn (show eqV d d' h = some t from e)
    exact op_eqD hu64 pins s σ H x y u w Q I ru rw' ⟨p, p', h1, h2, h3, h4, q⟩
  | ne =>
    obtain ⟨t', e', rfl⟩ := mapO (show (eqV d d' h).map (!·) = some t from e)
    obtain ⟨p, p', h1, h2, h3, h4, rfl⟩ := eqn e'
    exact op_neD hu64 pins s σ H x y u w Q I ru rw' ⟨p, p', h1, h2, h3, h4, q⟩
  | inn => exact in_run (k := true) hK hw hu I r ru rw' a b (show inV d d' h = some t from e) q
  | nin =>
    obtain ⟨t', e', rfl⟩ := mapO (show (inV d d' h).map (!·) = some t from e)
    exact in_run (k := false) hK hw hu I r ru rw' a b e' q
  | lt =>
    cases d with
    | int i =>
      cases d' with
      | int j =>
        cases e
        rw [show x = .int i from a] at ru
        rw [show y = .int j from b] at rw'
        exact op_lt pins s σ H _ _ u w Q I ru rw' ⟨i, j, rfl, rfl, q⟩
      | _ => cases e
    | _ => cases e
  | le =>
    cases d with
    | int i =>
      cases d' with
      | int j =>
        cases e
        rw [show x = .int i from a] at ru
        rw [show y = .int j from b] at rw'
        exact op_le pins s σ H _ _ u w Q I ru rw' ⟨i, j, rfl, rfl, q⟩
      | _ => cases e
    | _ => cases e
  | gt =>
    cases d with
    | int i =>
      cases d' with
      | int j =>
        cases e
        rw [show x = .int i from a] at ru
        rw [show y = .int j from b] at rw'
        exact op_gt pins s σ H _ _ u w Q I ru rw' ⟨i, j, rfl, rfl, q⟩
      | _ => cases e
    | _ => cases e
  | ge =>
    cases d with
    | int i =>
      cases d' with
      | int j =>
        cases e
        rw [show x = .int i from a] at ru
        rw [show y = .int j from b] at rw'
        exact op_ge pins s σ H _ _ u w Q I ru rw' ⟨i, j, rfl, rfl, q⟩
      | _ => cases e
    | _ => cases e

theorem atI_l2 {α : Type} {xs : List α} {i : Int} {v : α} (e : Mi.atI xs i = some v) : L2.atI xs i = some v := by
  unfold Mi.atI at e
  unfold L2.atI ixN
  by_cases h0 : 0 ≤ i
  · rw [if_pos h0] at e ⊢
    have hl := (List.getElem?_eq_some_iff.mp e).1
    rw [if_pos (by omega)]
    exact e
  · rw [if_neg h0] at e ⊢
    by_cases h1 : -(xs.length : Int) ≤ i
    · rw [if_pos h1] at e ⊢
      exact e
    · rw [if_neg h1] at e; cases e
theorem atI_mem {α : Type} {xs : List α} {i : Int} {v : α} (e : Mi.atI xs i = some v) : ∃ j : Nat, xs[j]? = some v := by
  unfold Mi.atI at e
  split at e
  · exact ⟨_, e⟩
  · split at e
    · exact ⟨_, e⟩
    · cases e
theorem atI_rel {xs : List D} {vs : List V} {i : Int} {z : D} (w : DRs G M H xs vs) (e : Mi.atI xs i = some z) : ∃ v, L2.atI vs i = some v ∧ DR G M H z v := by
  have hl := w.length
  unfold Mi.atI at e
  unfold L2.atI ixN
  rw [← hl]
  by_cases h0 : 0 ≤ i
  · rw [if_pos h0] at e ⊢
    have hl := (List.getElem?_eq_some_iff.mp e).1
    rw [if_pos (by omega)]
    exact w.get e
  · rw [if_neg h0] at e ⊢
    by_cases h1 : -(xs.length : Int) ≤ i
    · rw [if_pos h1] at e ⊢
      exact w.get e
    · rw [if_neg h1] at e; cases e

theorem idx_ref {n : Nat} {k : D} : idxV (.ref n) k h = (match dicOf (.ref n) h with
    | some p => if keyB p.1 k = true then lookD k p.2 else none
    | none => (listOf (.ref n) h).bind fun xs => (match k with
      | .int i => Mi.atI xs i
      | _ => none)) := rfl
/-- a[i] -/
theorem idx_run {a b : Expr} (hK : X.K = G.K) (hw : X.w = G.w) (hu : X.A.units + 200 < cLine) (I : Inv X pins σ H s) (r : HR G M h H) (ru : RelV x u) (rw' : RelV y w) (va : VR G M H d x) (vb : VR G M H d' y) (e : idxV d d' h = some z) {Q : VK}
    (q : ∀ v, VR G M H z v → (∀ xs, z ≠ .lst xs) → Q v H) : ∃ R : R2, IxR X R ∧ R x y H Q := by
  have byL : ∀ {d : D} {x : V}, VR G M H d x → ((listOf d h).bind fun xs => (match d' with
      | .int i => Mi.atI xs i
      | _ => none)) = some z → rIxL X.K x y H Q := fun {d x} va e => by
    obtain ⟨xs, e1, e⟩ := bindO e
    obtain ⟨l, vs, rfl, hl, wl⟩ := va.lst r e1
    cases d' with
    | int i =>
      obtain ⟨v, e2, e3⟩ := atI_rel wl e
      rw [show y = .int i from vb]
      exact ⟨l, vs, i, v, rfl, rfl, by rw [hK]; exact hl, e2, q v e3.vr fun xs hx => by subst hx; exact e3.elim⟩
    | _ => cases e
  cases d with
  | str ss =>
    refine ⟨rIxS, ix_str, ?_⟩
    obtain ⟨rfl, k⟩ := va
    cases d' with
    | int i =>
      obtain ⟨c, e1, rfl⟩ := mapO (show (Mi.atI ss i).map (fun c => D.str [c]) = some z from e)
      rw [show y = .int i from vb]
      refine ⟨sOf ss, i, c, rfl, rfl, by rw [sOf_len, sz_eq]; exact k.1, by rw [sOf_list]; exact atI_l2 e1, q _ ⟨rfl, by simp, fun c' hc => ?_⟩ fun _ hx => by cases hx⟩
      obtain ⟨j, hj⟩ := atI_mem e1
      rw [show c' = c by simpa using hc]
      exact k.2 c (List.mem_of_getElem? hj)
    | _ => cases e
  | tup xs =>
    refine ⟨rIxT X.K, ix_tup, ?_⟩
    obtain ⟨l, vs, rfl, hl, wl⟩ := va
    cases d' with
    | int i =>
      obtain ⟨v, e2, e3⟩ := atI_rel wl (show Mi.atI xs i = some z from e)
      rw [show y = .int i from vb]
      exact ⟨l, vs, i, v, rfl, rfl, by rw [hK]; exact hl.sq, e2, q v e3.vr fun xs hx => by subst hx; exact e3.elim⟩
    | _ => cases e
  | ref n =>
    rw [idx_ref] at e
    cases ed : dicOf (.ref n) h with
    | none => rw [ed] at e; exact ⟨rIxL X.K, ix_list, byL va e⟩
    | some p =>
      rw [ed] at e
      obtain ⟨tt, kvs⟩ := p
      obtain ⟨n', p, _, rfl, _, _, hp⟩ := dic_at r va ed
      rcases hp with ⟨rfl, ks, hp, dk⟩ | ⟨rfl, es, hp, dk⟩
      · have e : (if keyB false d' = true then lookD d' kvs else none) = some z := e
        by_cases kb : keyB false d' = true
        · rw [if_pos kb] at e
          obtain ⟨qk, rfl, rfl, _⟩ := key_at vb kb
          obtain ⟨w', e1, dr⟩ := (look_rel qk dk).1 z e
          exact ⟨_, ix_dict (by omega), p, w', rfl, by rw [← e1]; exact DGet.k hp, q w' dr.vr fun xs hx => by subst hx; exact dr.elim⟩
        · rw [if_neg kb] at e; cases e
      · have e : (if keyB true d' = true then lookD d' kvs else none) = some z := e
        by_cases kb : keyB true d' = true
        · rw [if_pos kb] at e
          obtain ⟨qk, bb, rfl, rfl, hd, kd⟩ := keyT_at vb kb
          obtain ⟨w', e1, dr⟩ := (lookT_rel qk dk).1 z e
          exact ⟨_, ix_tdict hK hw hu, M, p, bb, es, kvs, qk, w', rfl, rfl, hp, dk, hd, kd, e1, q w' dr.vr fun xs hx => by subst hx; exact dr.elim⟩
        · rw [if_neg kb] at e; cases e
  | _ => exact ⟨rIxL X.K, ix_list, byL va e⟩

theorem cut_eq (xs : List V) (lo hi : Option Int) : cutV xs lo hi = Mi.cut xs lo hi := by
  have e : ∀ n d o, HT.sIx n d o = Mi.sIx n d o := fun n d o => by cases o <;> rfl
  unfold cutV Mi.cut
  rw [e, e]
theorem DRs.cutR {xs : List D} {vs : List V} (w : DRs G M H xs vs) (lo hi : Option Int) : DRs G M H (Mi.cut xs lo hi) (Mi.cut vs lo hi) := by
  unfold Mi.cut
  rw [← w.length]
  exact (w.drop _).take _
theorem mem_cut {α : Type} {xs : List α} {lo hi : Option Int} {c : α} (e : c ∈ Mi.cut xs lo hi) : c ∈ xs := List.mem_of_mem_drop (List.mem_of_mem_take e)
theorem cut_len {α : Type} (xs : List α) (lo hi : Option Int) : (Mi.cut xs lo hi).length ≤ xs.length := by
  unfold Mi.cut
  rw [List.length_take, List.length_drop]
  omega
/-- a[lo:hi] -/
theorem slc_run {lo hi : Option Int} (hK : X.K = G.K) (r : HR G M h H) (va : VR G M H d x) (e : slcV d lo hi h = some z) {Q : VK}
    (q : ∀ H' v, Post G M H M h H' → RD G M H H' z v → Q v H') : ∃ R, SlR X R ∧ R x lo hi H Q := by
  have byL : ∀ {d : D} {x : V}, VR G M H d x → ((listOf d h).map fun xs => D.lst (Mi.cut xs lo hi)) = some z → rSlL X.K x lo hi H Q := fun {d x} va e => by
    obtain ⟨xs, e1, rfl⟩ := mapO e
    obtain ⟨l, vs, rfl, hl, wl⟩ := va.lst r e1
    refine ⟨l, vs, rfl, by rw [hK]; exact hl, fun p hp => ?_⟩
    rw [cut_eq]
    obtain ⟨P, R⟩ := new_lst r hp (wl.cutR lo hi)
    exact q _ _ P R
  cases d with
  | str ss =>
    obtain ⟨rfl, k⟩ := va
    cases e
    refine ⟨rSlS, sl_str, _, rfl, by rw [sOf_len, sz_eq]; exact k.1, ?_⟩
    have ec : cutS (sOf ss) lo hi = sOf (Mi.cut ss lo hi) := by
      unfold cutS sOf Mi.cut
      have e : ∀ n d o, HT.sIx n d o = Mi.sIx n d o := fun n d o => by cases o <;> rfl
      simp only [e, Str.length, List.size_toArray]
    rw [ec]
    exact q H _ (Post.refl r) (DR.rd (d := .str (Mi.cut ss lo hi)) ⟨rfl, Nat.le_trans (cut_len _ _ _) k.1, fun c hc => k.2 c (mem_cut hc)⟩)
  | tup xs =>
    obtain ⟨l, vs, rfl, hl, wl⟩ := va
    cases e
    refine ⟨_, sl_tup_F, l, vs, rfl, by rw [hK]; exact hl.sq, fun he => ?_, fun _ p ob hp hd => ?_⟩
    · have ec : Mi.cut xs lo hi = xs := by
        have e : ∀ n d o, HT.sIx n d o = Mi.sIx n d o := fun n d o => by cases o <;> rfl
        rw [e, e, ← wl.length] at he
        unfold Mi.cut
        rw [he.1, he.2, List.drop_zero, Nat.sub_zero, List.take_length]
      rw [ec] at q
      exact q H _ (Post.refl r) (DR.rd (d := .tup xs) ⟨l, vs, rfl, hl, wl⟩)
    · rw [cut_eq]
      obtain ⟨P, R⟩ := new_tup r hp hd (wl.cutR lo hi)
      exact q _ _ P R
  | _ => exact ⟨rSlL X.K, sl_list, byL va e⟩
end
end Mi

/-! expressions: the rules one by one -/
namespace Mi
open PySem PySem.Spec PyProof.Rows L2

theorem bd_assoc {α β γ : Type} (x : Out α) (f : α → Hp → Out β) (g : β → Hp → Out γ) : (x.bd f).bd g = x.bd fun a h => (f a h).bd g := by
  cases x <;> rfl
section
variable {G : Gd} {M M' : List Addr} {H H' : AH} {h h' : Hp} {W : WX} {X : Cx} {e a b c : Expr} {ma mb mc : E} {pins : List (Addr × Obj)} {s : Shared} {σ : L2.St} {ρ : Env} {pos : Pos} {C : Ctx}

/-- what every place of a def has -/
structure Ck (G : Gd) (X : Cx) : Prop where
  K : X.K = G.K
  w : X.w = G.w
  calm : X.calm = true
  un : X.A.units + 200 < cLine
  nd : X.N.Nodup

theorem ep_of {d : D} {Q : VK} {v : V} {u : Value} {M0 M1 : List Addr} {H0 H1 : AH} {h1 : Hp} {W' : XK} {s1 : Shared} (I : Inv X pins σ H1 s1) (ru : RelV v u) (p : Post G M0 H0 M1 h1 H1) (r : HR G M0 h H0) (x : RD G M1 H0 H1 d v)
    (g : Got G W' M1 H1 (Out.ok d h1) fun d M' _ H' => ∀ v, RD G M' H0 H' d v → Q v H') : EP X pins σ Q u s1 :=
  ⟨v, H1, I, ru, g M1 H1 (Post.refl p.hr) v x⟩

theorem m_bin {o : BO} (ck : Ck G X) (ha : PE X a (tO G W (ev C ma))) (hb : PE X b (tO G W (ev C mb))) : PE X (.BinOp a (bop o) b pos) (tO G W (ev C (.bin o ma mb))) := by
  constructor
  intro pins s σ H Q I ⟨M, h, ρ, er, hr, g⟩
  refine wpAny_BinOp (thn (use ha I er hr (Got.bd hr g)) fun u s1 ⟨d1, M1, h1, H1, x, I1, ru, p1, r1, g1⟩ => ?_)
  refine thn (use hb I1 (er.mono hr p1) p1.hr (Got.bd p1.hr g1)) fun w s2 ⟨d2, M2, h2, H2, y, I2, rw', p2, r2, g2⟩ => ?_
  obtain ⟨z, e, q⟩ := g2.ofO
  exact bin_run ck.K I2 p2.hr ru rw' (r1.vr.mono p1.hr p2) r2.vr e fun H' v P R => q M2 H' P v (R.back hr (p1.trans hr p2))
theorem m_neg (ha : PE X a (tO G W (ev C ma))) : PE X (.UnaryOp .USub a pos) (tO G W (ev C (.neg ma))) := by
  constructor
  intro pins s σ H Q I ⟨M, h, ρ, er, hr, g⟩
  refine UnaryOp_ (thn (use ha I er hr (Got.bd hr g)) fun u s1 ⟨d1, M1, h1, H1, x, I1, ru, p1, r1, g1⟩ => ?_)
  cases d1 with
  | int i =>
    rw [show x = .int i from r1] at ru
    exact un_neg pins s1 σ H1 _ u Q I1 ru ⟨i, rfl, g1 M1 H1 (Post.refl p1.hr) _ rfl⟩
  | _ => exact g1.elim
theorem m_not (ck : Ck G X) (ha : PE X a (tO G W (ev C ma))) : PE X (.UnaryOp .Not a pos) (tO G W (ev C (.not ma))) := by
  constructor
  intro pins s σ H Q I ⟨M, h, ρ, er, hr, g⟩
  refine UnaryOp_ (thn (use ha I er hr (Got.bd hr g)) fun u s1 ⟨d1, M1, h1, H1, x, I1, ru, p1, r1, g1⟩ => ?_)
  obtain ⟨z, e, q⟩ := g1.ofO
  obtain ⟨k, e1, rfl⟩ := mapO e
  exact not_of (truthy_run ck.K I1 p1.hr ru r1.vr e1 fun s' I' => ⟨.bl (!k), H1, I', rfl, q M1 H1 (Post.refl p1.hr) _ rfl⟩)
theorem m_cmp {o : CO} (ck : Ck G X) (ha : PE X a (tO G W (ev C ma))) (hb : PE X b (tO G W (ev C mb))) (hm : behindInMarks (cop o) b = false) : PE X (.Compare a [cop o] [b] pos) (tO G W (ev C (.cmp o ma mb))) := by
  constructor
  intro pins s σ H Q I ⟨M, h, ρ, er, hr, g⟩
  refine wpAny_Compare1 (thn (use ha I er hr (Got.bd hr g)) fun u s1 ⟨d1, M1, h1, H1, x, I1, ru, p1, r1, g1⟩ => ?_) hm
  refine thn (use hb I1 (er.mono hr p1) p1.hr (Got.bd p1.hr g1)) fun w s2 ⟨d2, M2, h2, H2, y, I2, rw', p2, r2, g2⟩ => ?_
  obtain ⟨z, e, q⟩ := g2.ofO
  obtain ⟨t, e1, rfl⟩ := mapO e
  exact cmp_run ck.K ck.w ck.un I2 p2.hr ru rw' (r1.vr.mono p1.hr p2) r2.vr e1 (q M2 H2 (Post.refl p2.hr) _ rfl)
theorem m_chain {o o' : CO} (ck : Ck G X) (ha : PE X a (tO G W (ev C ma))) (hb : PE X b (tO G W (ev C mb))) (hc : PE X c (tO G W (ev C mc))) (hm : lastMarks [cop o, cop o'] [b, c] = false) :
    PE X (.Compare a [cop o, cop o'] [b, c] pos) (tO G W (ev C (.chain o o' ma mb mc))) := by
  constructor
  intro pins s σ H Q I ⟨M, h, ρ, er, hr, g⟩
  refine Compare_chain (thn (use ha I er hr (Got.bd hr g)) fun u s1 ⟨d1, M1, h1, H1, x, I1, ru, p1, r1, g1⟩ => chain_link ?_) hm
  refine thn (use hb I1 (er.mono hr p1) p1.hr (Got.bd p1.hr g1)) fun w s2 ⟨d2, M2, h2, H2, y, I2, rw', p2, r2, g2⟩ => ?_
  have P2 := p1.trans hr p2
  cases e : cmpV o d1 d2 h2 with
  | none => rw [e] at g2; exact g2.elim
  | some t =>
    rw [e] at g2
    refine thn (cmp_run (Q := fun z H' => z = .bl t ∧ H' = H2) ck.K ck.w ck.un I2 p2.hr ru rw' (r1.vr.mono p1.hr p2) r2.vr e ⟨rfl, rfl⟩) fun v3 s3 ⟨z, H3, I3, r3, ez, eH⟩ => ?_
    subst ez eH
    cases r3
    refine wpAny_truthy_bool ?_
    cases t with
    | false => exact ite_ff ⟨.bl false, H3, I3, rfl, g2 M2 H3 (Post.refl p2.hr) _ rfl⟩
    | true =>
      refine ite_tt (chain_last (thn (use hc I3 (er.mono hr P2) p2.hr (Got.bd p2.hr g2)) fun w4 s4 ⟨d4, M4, h4, H4, y4, I4, rw4, p4, r4, g4⟩ => ?_))
      obtain ⟨z, e, q⟩ := g4.ofO
      obtain ⟨t, e1, rfl⟩ := mapO e
      exact cmp_run ck.K ck.w ck.un I4 p4.hr rw' rw4 (r2.vr.mono p2.hr p4) r4.vr e1 (q M4 H4 (Post.refl p4.hr) _ rfl)
theorem m_isN {j : Nat} {p2 : Pos} (ha : PE X a (tO G W (ev C ma))) : PE X (.Compare a [.Is] [.Constant .none j p2] pos) (tO G W (ev C (.isN ma))) := by
  constructor
  intro pins s σ H Q I ⟨M, h, ρ, er, hr, g⟩
  refine (pe_cmp (pc_isN ha) rfl).run pins s σ H Q I ⟨M, h, ρ, er, hr, (Got.bd hr g).imp fun d M1 h1 H1 p g1 v x => ?_⟩
  have e : decide (v = V.non) = decide (d = D.non) := by
    cases d with
    | non => rw [show v = .non from x] <;> rfl
    | bl b => rw [show v = .bl b from x]; simp
    | int b => rw [show v = .int b from x]; simp
    | str b => rw [show v = _ from x.1]; simp
    | tup b => obtain ⟨_, _, rfl, _⟩ := x; simp
    | lst b => obtain ⟨_, _, rfl, _⟩ := x; simp
    | ref b => obtain ⟨_, _, rfl⟩ := x; simp
    | exc b => obtain ⟨_, _, rfl, _⟩ := x; simp
    | cst b => obtain ⟨_, _, rfl, _⟩ := x; simp
  show Q (V.bl (decide (v = V.non))) H1
  rw [e]
  exact g1 M1 H1 (Post.refl p.hr) _ rfl
theorem m_notN {j : Nat} {p2 : Pos} (ha : PE X a (tO G W (ev C ma))) : PE X (.Compare a [.IsNot] [.Constant .none j p2] pos) (tO G W (ev C (.notN ma))) := by
  constructor
  intro pins s σ H Q I ⟨M, h, ρ, er, hr, g⟩
  refine (pe_cmp (pc_notN ha) rfl).run pins s σ H Q I ⟨M, h, ρ, er, hr, (Got.bd hr g).imp fun d M1 h1 H1 p g1 v x => ?_⟩
  have e : decide (v = V.non) = decide (d = D.non) := by
    cases d with
    | non => rw [show v = .non from x] <;> rfl
    | bl b => rw [show v = .bl b from x]; simp
    | int b => rw [show v = .int b from x]; simp
    | str b => rw [show v = _ from x.1]; simp
    | tup b => obtain ⟨_, _, rfl, _⟩ := x; simp
    | lst b => obtain ⟨_, _, rfl, _⟩ := x; simp
    | ref b => obtain ⟨_, _, rfl⟩ := x; simp
    | exc b => obtain ⟨_, _, rfl, _⟩ := x; simp
    | cst b => obtain ⟨_, _, rfl, _⟩ := x; simp
  show Q (V.bl (!decide (v = V.non))) H1
  rw [e]
  exact g1 M1 H1 (Post.refl p.hr) _ rfl

/-! ### tests -/
theorem plain_test (ck : Ck G X) (ha : PE X a (tO G W (ev C ma))) (he : ∀ whole, isTrue a X.env whole = (do let v ← whole; standAt a.pos; holding [v] (truthy v))) : PT X a (tT G W (cnd C ma)) := by
  constructor
  intro pins s σ H Q I ⟨M, h, ρ, er, hr, g⟩
  refine isTrue_plain (thn (use ha I er hr (Got.bd hr g)) fun u s1 ⟨d1, M1, h1, H1, x, I1, ru, p1, r1, g1⟩ => ?_) (he _)
  obtain ⟨k, e1, q⟩ := g1.ofO
  exact truthy_run ck.K I1 p1.hr ru r1.vr e1 fun s' I' => ⟨H1, I', q M1 H1 (Post.refl p1.hr)⟩
theorem cmp_test {o : CO} (ck : Ck G X) (ha : PE X a (tO G W (ev C ma))) (hb : PE X b (tO G W (ev C mb))) (hm : behindInMarks (cop o) b = false) : PT X (.Compare a [cop o] [b] pos) (tT G W (cnd C (.cmp o ma mb))) := by
  constructor
  intro pins s σ H Q I ⟨M, h, ρ, er, hr, g⟩
  have g0 := Got.bd hr g
  refine wpAny_isTrue_Compare1 (thn (use ha I er hr (Got.bd hr g0)) fun u s1 ⟨d1, M1, h1, H1, x, I1, ru, p1, r1, g1⟩ => ?_) hm
  refine thn (use hb I1 (er.mono hr p1) p1.hr (Got.bd p1.hr g1)) fun w s2 ⟨d2, M2, h2, H2, y, I2, rw', p2, r2, g2⟩ => ?_
  obtain ⟨z, e, q⟩ := g2.ofO
  obtain ⟨t, e1, rfl⟩ := mapO e
  refine thn (cmp_run (Q := fun z H' => z = .bl t ∧ H' = H2) ck.K ck.w ck.un I2 p2.hr ru rw' (r1.vr.mono p1.hr p2) r2.vr e1 ⟨rfl, rfl⟩) fun v3 s3 ⟨z, H3, I3, r3, ez, eH⟩ => ?_
  subst ez eH
  cases r3
  refine wpAny_truthy_bool ⟨H3, I3, ?_⟩
  obtain ⟨k, e3, q3⟩ := (q M2 H3 (Post.refl p2.hr)).ofO
  cases e3
  exact q3 M2 H3 (Post.refl p2.hr)
theorem chain_test {o o' : CO} (ck : Ck G X) (ha : PE X a (tO G W (ev C ma))) (hb : PE X b (tO G W (ev C mb))) (hc : PE X c (tO G W (ev C mc))) (hm : lastMarks [cop o, cop o'] [b, c] = false) :
    PT X (.Compare a [cop o, cop o'] [b, c] pos) (tT G W (cnd C (.chain o o' ma mb mc))) := by
  constructor
  intro pins s σ H Q I ⟨M, h, ρ, er, hr, g⟩
  have g0 := Got.bd hr g
  refine isTrue_chain (thn (use ha I er hr (Got.bd hr g0)) fun u s1 ⟨d1, M1, h1, H1, x, I1, ru, p1, r1, g1⟩ => test_link ?_) hm
  refine thn (use hb I1 (er.mono hr p1) p1.hr (Got.bd p1.hr g1)) fun w s2 ⟨d2, M2, h2, H2, y, I2, rw', p2, r2, g2⟩ => ?_
  have P2 := p1.trans hr p2
  cases e : cmpV o d1 d2 h2 with
  | none => rw [e] at g2; exact g2.elim
  | some t =>
    rw [e] at g2
    refine thn (cmp_run (Q := fun z H' => z = .bl t ∧ H' = H2) ck.K ck.w ck.un I2 p2.hr ru rw' (r1.vr.mono p1.hr p2) r2.vr e ⟨rfl, rfl⟩) fun v3 s3 ⟨z, H3, I3, r3, ez, eH⟩ => ?_
    subst ez eH
    cases r3
    refine wpAny_truthy_bool ?_
    cases t with
    | false =>
      refine ite_ff ⟨H3, I3, ?_⟩
      obtain ⟨k, e3, q3⟩ := (g2 M2 H3 (Post.refl p2.hr)).ofO
      cases e3
      exact q3 M2 H3 (Post.refl p2.hr)
    | true =>
      refine ite_tt (test_last (thn (use hc I3 (er.mono hr P2) p2.hr (Got.bd p2.hr g2)) fun w4 s4 ⟨d4, M4, h4, H4, y4, I4, rw4, p4, r4, g4⟩ => ?_))
      obtain ⟨z, e, q⟩ := g4.ofO
      obtain ⟨t, e1, rfl⟩ := mapO e
      refine thn (cmp_run (Q := fun z H' => z = .bl t ∧ H' = H4) ck.K ck.w ck.un I4 p4.hr rw' rw4 (r2.vr.mono p2.hr p4) r4.vr e1 ⟨rfl, rfl⟩) fun v5 s5 ⟨z, H5, I5, r5, ez, eH⟩ => ?_
      subst ez eH
      cases r5
      refine wpAny_truthy_bool ⟨H5, I5, ?_⟩
      obtain ⟨k, e3, q3⟩ := (q M4 H5 (Post.refl p4.hr)).ofO
      cases e3
      exact q3 M4 H5 (Post.refl p4.hr)
theorem not_test (ha : PT X a (tT G W (cnd C ma))) : PT X (.UnaryOp .Not a pos) (tT G W (cnd C (.not ma))) := by
  constructor
  intro pins s σ H Q I ⟨M, h, ρ, er, hr, g⟩
  refine isTrue_not (ha.run pins s σ H (fun c H1 => Q (!c) H1) I ⟨M, h, ρ, er, hr, ?_⟩)
  have g0 : Got G (fun c d H' => W c d σ H') M H ((ev C ma ρ h).bd fun x h1 => (ofO ((truth x h1).map fun b => D.bl (!b)) h1).bd fun x h1 => ofO (truth x h1) h1) fun b _ _ H' => Q b H' := by
    rw [← bd_assoc]; exact g
  show Got G (fun c d H' => W c d σ H') M H ((ev C ma ρ h).bd fun x h1 => ofO (truth x h1) h1) _
  cases e : ev C ma ρ h with
  | bad => rw [e] at g0; exact g0.elim
  | exc c h' => rw [e] at g0; exact g0
  | ok x h1 =>
    rw [e] at g0
    cases t : truth x h1 with
    | none =>
      have g1 : Got G (fun c d H' => W c d σ H') M H ((ofO ((truth x h1).map fun b => D.bl (!b)) h1).bd fun x h1 => ofO (truth x h1) h1) fun b _ _ H' => Q b H' := g0
      rw [t] at g1; exact g1.elim
    | some k =>
      have g1 : Got G (fun c d H' => W c d σ H') M H ((ofO ((truth x h1).map fun b => D.bl (!b)) h1).bd fun x h1 => ofO (truth x h1) h1) fun b _ _ H' => Q b H' := g0
      rw [t] at g1
      show Got G (fun c d H' => W c d σ H') M H (ofO (truth x h1) h1) _
      rw [t]
      exact fun M' H' p => g1 M' H' p
/-- a value's truth, as a run -/
def tru (x : D) (h : Hp) : Out Bool := ofO (truth x h) h
theorem and_got {k : Bool → List Addr → Hp → AH → Prop} {W' : XK} {x : Out D} {y : Hp → Out D} (hr : HR G M h H) (g : Got G W' M H ((x.bd fun d h1 => match truth d h1 with
    | some true => y h1
    | some false => .ok d h1
    | none => .bad).bd tru) k) : Got G W' M H (x.bd tru) fun b M1 h1 H1 => if b = true then Got G W' M1 H1 ((y h1).bd tru) k else k false M1 h1 H1 := by
  cases x with
  | bad => exact g.elim
  | exc c h' => exact g
  | ok d h1 =>
    have g : Got G W' M H (Out.bd (match truth d h1 with
      | some true => y h1
      | some false => .ok d h1
      | none => .bad) tru) k := g
    show Got G W' M H (ofO (truth d h1) h1) _
    cases t : truth d h1 with
    | none => rw [t] at g; exact g.elim
    | some b =>
      rw [t] at g
      cases b with
      | true => exact fun M' H' p => (if_pos rfl).mpr (Got.from hr p g)
      | false =>
        intro M' H' p
        rw [if_neg Bool.false_ne_true]
        have g : Got G W' M H (ofO (truth d h1) h1) k := g
        rw [t] at g
        exact g M' H' p
theorem or_got {k : Bool → List Addr → Hp → AH → Prop} {W' : XK} {x : Out D} {y : Hp → Out D} (hr : HR G M h H) (g : Got G W' M H ((x.bd fun d h1 => match truth d h1 with
    | some false => y h1
    | some true => .ok d h1
    | none => .bad).bd tru) k) : Got G W' M H (x.bd tru) fun b M1 h1 H1 => if b = true then k true M1 h1 H1 else Got G W' M1 H1 ((y h1).bd tru) k := by
  cases x with
  | bad => exact g.elim
  | exc c h' => exact g
  | ok d h1 =>
    have g : Got G W' M H (Out.bd (match truth d h1 with
      | some false => y h1
      | some true => .ok d h1
      | none => .bad) tru) k := g
    show Got G W' M H (ofO (truth d h1) h1) _
    cases t : truth d h1 with
    | none => rw [t] at g; exact g.elim
    | some b =>
      rw [t] at g
      cases b with
      | false =>
        intro M' H' p
        rw [if_neg Bool.false_ne_true]
        exact Got.from hr p g
      | true =>
        intro M' H' p
        rw [if_pos rfl]
        have g : Got G W' M H (ofO (truth d h1) h1) k := g
        rw [t] at g
        exact g M' H' p
variable {rest : List Expr} {m2 : E} {ms : List E}
theorem evA_one : evA C [ma] ρ h = ev C ma ρ h := by
  rw [evA]
  cases ev C ma ρ h <;> rfl
theorem evO_one : evO C [ma] ρ h = ev C ma ρ h := by
  rw [evO]
  cases ev C ma ρ h <;> rfl
theorem evA_more : evA C (ma :: m2 :: ms) ρ h = (ev C ma ρ h).bd fun x h1 => match truth x h1 with
    | some true => evA C (m2 :: ms) ρ h1
    | some false => .ok x h1
    | none => .bad := by
  rw [evA.eq_def] <;> rfl
theorem evO_more : evO C (ma :: m2 :: ms) ρ h = (ev C ma ρ h).bd fun x h1 => match truth x h1 with
    | some false => evO C (m2 :: ms) ρ h1
    | some true => .ok x h1
    | none => .bad := by
  rw [evO.eq_def] <;> rfl
theorem and_one (ha : PT X a (tT G W (cnd C ma))) : PW X (.BoolOp .And [a] pos) (tT G W fun ρ h => (evA C [ma] ρ h).bd tru) := by
  refine pw_and1 ⟨fun pins s σ H Q I ⟨M, h, ρ, er, hr, g⟩ => ha.run pins s σ H Q I ⟨M, h, ρ, er, hr, ?_⟩⟩
  simp only [evA_one] at g
  exact g
theorem or_one (ha : PT X a (tT G W (cnd C ma))) : PW X (.BoolOp .Or [a] pos) (tT G W fun ρ h => (evO C [ma] ρ h).bd tru) := by
  refine pw_or1 ⟨fun pins s σ H Q I ⟨M, h, ρ, er, hr, g⟩ => ha.run pins s σ H Q I ⟨M, h, ρ, er, hr, ?_⟩⟩
  simp only [evO_one] at g
  exact g
theorem and_more (ha : PT X a (tT G W (cnd C ma))) (hb : PW X (.BoolOp .And (b :: rest) pos) (tT G W fun ρ h => (evA C (m2 :: ms) ρ h).bd tru)) : PW X (.BoolOp .And (a :: b :: rest) pos) (tT G W fun ρ h => (evA C (ma :: m2 :: ms) ρ h).bd tru) := by
  have base := pw_and ha hb
  constructor
  intro whole pins s σ H Q I ⟨M, h, ρ, er, hr, g⟩
  refine base.run whole pins s σ H Q I ⟨M, h, ρ, er, hr, (and_got (y := fun h1 => evA C (m2 :: ms) ρ h1) hr (by simp only [evA_more] at g; exact g)).imp fun b M1 h1 H1 p q => ?_⟩
  cases b with
  | true => exact (if_pos rfl).mpr ⟨M1, h1, ρ, er.mono hr p, p.hr, (if_pos rfl).mp q⟩
  | false => exact (if_neg Bool.false_ne_true).mpr ((if_neg Bool.false_ne_true).mp q)
theorem or_more (ha : PT X a (tT G W (cnd C ma))) (hb : PW X (.BoolOp .Or (b :: rest) pos) (tT G W fun ρ h => (evO C (m2 :: ms) ρ h).bd tru)) : PW X (.BoolOp .Or (a :: b :: rest) pos) (tT G W fun ρ h => (evO C (ma :: m2 :: ms) ρ h).bd tru) := by
  have base := pw_or ha hb
  constructor
  intro whole pins s σ H Q I ⟨M, h, ρ, er, hr, g⟩
  refine base.run whole pins s σ H Q I ⟨M, h, ρ, er, hr, (or_got (y := fun h1 => evO C (m2 :: ms) ρ h1) hr (by simp only [evO_more] at g; exact g)).imp fun b M1 h1 H1 p q => ?_⟩
  cases b with
  | true => exact (if_pos rfl).mpr ((if_pos rfl).mp q)
  | false => exact (if_neg Bool.false_ne_true).mpr ⟨M1, h1, ρ, er.mono hr p, p.hr, (if_neg Bool.false_ne_true).mp q⟩
/-- and, or as values -/
theorem andV_one (ha : PE X a (tO G W (ev C ma))) {o : BoolOp} : PE X (.BoolOp o [a] pos) (tO G W (evA C [ma])) := by
  refine pe_one ⟨fun pins s σ H Q I ⟨M, h, ρ, er, hr, g⟩ => ha.run pins s σ H Q I ⟨M, h, ρ, er, hr, ?_⟩⟩
  simp only [evA_one] at g
  exact g
theorem orV_one (ha : PE X a (tO G W (ev C ma))) {o : BoolOp} : PE X (.BoolOp o [a] pos) (tO G W (evO C [ma])) := by
  refine pe_one ⟨fun pins s σ H Q I ⟨M, h, ρ, er, hr, g⟩ => ha.run pins s σ H Q I ⟨M, h, ρ, er, hr, ?_⟩⟩
  simp only [evO_one] at g
  exact g
theorem andV_more (ck : Ck G X) (ha : PE X a (tO G W (ev C ma))) (hb : PE X (.BoolOp .And (b :: rest) pos) (tO G W (evA C (m2 :: ms)))) : PE X (.BoolOp .And (a :: b :: rest) pos) (tO G W (evA C (ma :: m2 :: ms))) := by
  constructor
  intro pins s σ H Q I ⟨M, h, ρ, er, hr, g⟩
  rw [evA_more] at g
  refine BoolOp_and (thn (use ha I er hr (Got.bd hr g)) fun u s1 ⟨d1, M1, h1, H1, x, I1, ru, p1, r1, g1⟩ => ?_)
  have g1 : Got G (fun c d H' => W c d σ H') M1 H1 (match truth d1 h1 with
      | some true => evA C (m2 :: ms) ρ h1
      | some false => .ok d1 h1
      | none => .bad) fun d M' _ H' => ∀ v, RD G M' H H' d v → Q v H' := g1
  cases t : truth d1 h1 with
  | none => rw [t] at g1; exact g1.elim
  | some k =>
    rw [t] at g1
    refine truthy_run ck.K I1 p1.hr ru r1.vr t fun s' I' => ?_
    cases k with
    | true => exact hb.run pins s' σ H1 Q I' ⟨M1, h1, ρ, er.mono hr p1, p1.hr, g1.imp fun d M' h' H' p q v x => q v (x.back hr p1)⟩
    | false => exact ⟨x, H1, I', ru, g1 M1 H1 (Post.refl p1.hr) x r1⟩
theorem orV_more (ck : Ck G X) (ha : PE X a (tO G W (ev C ma))) (hb : PE X (.BoolOp .Or (b :: rest) pos) (tO G W (evO C (m2 :: ms)))) : PE X (.BoolOp .Or (a :: b :: rest) pos) (tO G W (evO C (ma :: m2 :: ms))) := by
  constructor
  intro pins s σ H Q I ⟨M, h, ρ, er, hr, g⟩
  rw [evO_more] at g
  refine BoolOp_or (thn (use ha I er hr (Got.bd hr g)) fun u s1 ⟨d1, M1, h1, H1, x, I1, ru, p1, r1, g1⟩ => ?_)
  have g1 : Got G (fun c d H' => W c d σ H') M1 H1 (match truth d1 h1 with
      | some false => evO C (m2 :: ms) ρ h1
      | some true => .ok d1 h1
      | none => .bad) fun d M' _ H' => ∀ v, RD G M' H H' d v → Q v H' := g1
  cases t : truth d1 h1 with
  | none => rw [t] at g1; exact g1.elim
  | some k =>
    rw [t] at g1
    refine truthy_run ck.K I1 p1.hr ru r1.vr t fun s' I' => ?_
    cases k with
    | false => exact hb.run pins s' σ H1 Q I' ⟨M1, h1, ρ, er.mono hr p1, p1.hr, g1.imp fun d M' h' H' p q v x => q v (x.back hr p1)⟩
    | true => exact ⟨x, H1, I', ru, g1 M1 H1 (Post.refl p1.hr) x r1⟩
theorem m_ite (hc : PT X c (tT G W (cnd C mc))) (ha : PE X a (tO G W (ev C ma))) (hb : PE X b (tO G W (ev C mb))) : PE X (.IfExp c a b pos) (tO G W (ev C (.ite mc ma mb))) := by
  constructor
  intro pins s σ H Q I ⟨M, h, ρ, er, hr, g⟩
  have g0 : Got G (fun c d H' => W c d σ H') M H ((ev C mc ρ h).bd fun x h1 => match truth x h1 with
      | some true => ev C ma ρ h1
      | some false => ev C mb ρ h1
      | none => .bad) fun d M' _ H' => ∀ v, RD G M' H H' d v → Q v H' := g
  have g2 : Got G (fun c d H' => W c d σ H') M H (cnd C mc ρ h) fun k M1 h1 H1 => Got G (fun c d H' => W c d σ H') M1 H1 (if k = true then ev C ma ρ h1 else ev C mb ρ h1) fun d M' _ H' => ∀ v, RD G M' H H' d v → Q v H' := by
    show Got G (fun c d H' => W c d σ H') M H ((ev C mc ρ h).bd fun x h1 => ofO (truth x h1) h1) _
    cases e : ev C mc ρ h with
    | bad => rw [e] at g0; exact g0.elim
    | exc c h' => rw [e] at g0; exact g0
    | ok x h1 =>
      rw [e] at g0
      have g0 : Got G (fun c d H' => W c d σ H') M H (match truth x h1 with
        | some true => ev C ma ρ h1
        | some false => ev C mb ρ h1
        | none => .bad) fun d M' _ H' => ∀ v, RD G M' H H' d v → Q v H' := g0
      show Got G (fun c d H' => W c d σ H') M H (ofO (truth x h1) h1) _
      cases t : truth x h1 with
      | none => rw [t] at g0; exact g0.elim
      | some k =>
        rw [t] at g0
        intro M' H' p
        cases k with
        | true => exact Got.from hr p g0
        | false => exact Got.from hr p g0
  refine wpAny_IfExp (thn (useT hc I er hr g2) fun k s1 ⟨M1, h1, H1, I1, p1, g1⟩ => ?_)
  cases k with
  | true => exact ha.run pins s1 σ H1 Q I1 ⟨M1, h1, ρ, er.mono hr p1, p1.hr, Got.imp g1 fun d M' h' H' p q v x => q v (x.back hr p1)⟩
  | false => exact hb.run pins s1 σ H1 Q I1 ⟨M1, h1, ρ, er.mono hr p1, p1.hr, Got.imp g1 fun d M' h' H' p q v x => q v (x.back hr p1)⟩

/-! ### items, slices, displays -/
theorem m_idx (ck : Ck G X) (ha : PE X a (tO G W (ev C ma))) (hb : PE X b (tO G W (ev C mb))) (hs : PlainIx b) : PE X (.Subscript a b pos) (tO G W (ev C (.idx ma mb))) := by
  constructor
  intro pins s σ H Q I ⟨M, h, ρ, er, hr, g⟩
  refine Subscript_ (thn (use ha I er hr (Got.bd hr g)) fun u s1 ⟨d1, M1, h1, H1, x, I1, ru, p1, r1, g1⟩ => ?_)
  refine thn (use hb I1 (er.mono hr p1) p1.hr (Got.bd p1.hr g1)) fun w s2 ⟨d2, M2, h2, H2, y, I2, rw', p2, r2, g2⟩ => ?_
  obtain ⟨z, e, q⟩ := g2.ofO
  obtain ⟨R, hR, hq⟩ := idx_run (a := a) (b := b) (Q := Q) ck.K ck.w ck.un I2 p2.hr ru rw' (r1.vr.mono p1.hr p2) r2.vr e fun v hv hl => q M2 H2 (Post.refl p2.hr) v (by
    cases z with
    | lst xs => exact absurd rfl (hl xs)
    | _ => exact hv)
  exact hR a b pins s2 σ H2 x y u w Q I2 ru rw' hq (hs u w)
end
end Mi

/-! arguments, displays, calls of own functions -/
namespace Mi
open PySem PySem.Spec PyProof.Rows L2

section
variable {G : Gd} {M M' M1 : List Addr} {H H' H1 : AH} {h h' h1 : Hp} {W : WX} {X : Cx} {e a b c : Expr} {es : List Expr} {m ma mb mc : E} {ms : List E} {pins : List (Addr × Obj)} {s : Shared} {σ : L2.St} {ρ : Env} {pos : Pos} {C : Ctx}

/-- as Got.bd, all told from the first state -/
theorem Got.bd0 {α β : Type} {W' : XK} {x : Out α} {f : α → Hp → Out β} {k : β → List Addr → Hp → AH → Prop} (g : Got G W' M H (x.bd f) k) :
    Got G W' M H x fun a _ h1 _ => x = .ok a h1 ∧ Got G W' M H (f a h1) k := by
  cases x with
  | ok a h' => exact fun M' H' q => ⟨rfl, g⟩
  | exc c h' => exact g
  | bad => exact g
/-- no expression with a star -/
def NoStar (X : Cx) (e : Expr) : Prop := ∀ es, starEach (e :: es) X.env = (false, eval e X.env) :: starEach es X.env
theorem args_nil : PA X [] (tA G W (evs C [])) := by
  constructor
  intro pos pins s σ H Q I ⟨M, h, ρ, er, hr, g⟩
  exact pa_nil.run pos pins s σ H Q I (g M H (Post.refl hr) [] rfl)
theorem args_cons (hs : NoStar X e) (ha : PE X e (tO G W (ev C m))) (hb : PA X es (tA G W (evs C ms))) : PA X (e :: es) (tA G W (evs C (m :: ms))) := by
  constructor
  intro pos pins s σ H Q I ⟨M, h, ρ, er, hr, g⟩
  rw [hs es]
  rw [evs] at g
  show wpAny _ _ (spliced ((false, eval e X.env) :: backTo pos (starEach es X.env))) _ _ s
  refine Calls.spliced_cons (thn (use ha I er hr (Got.bd0 g)) fun u s1 ⟨d, M1, h1, H1, x, I1, ru, p1, r1, _, g1⟩ => ?_)
  obtain ⟨M2, P, y, _⟩ := p1.sto r1
  refine thn (useA hb I1 (er.mono hr P) P.hr (Got.bd0 (Got.from hr P g1))) fun us s2 ⟨ds, M3, h3, H3, vs, I3, rv, p3, x3, _, g3⟩ => ?_
  exact ⟨x :: vs, H3, I3, .cons ru rv, g3 M3 H3 p3 _ ⟨x, vs, rfl, y.mono P.hr p3, x3⟩⟩
theorem VRs.mono (r : HR G M h H) (p : Post G M H M' h' H') : ∀ {ds : List D} {vs : List V}, VRs G M H ds vs → VRs G M' H' ds vs
  | [], _, x => x
  | d :: ds, vs, x => by
    obtain ⟨v, w, e, a, b⟩ := x
    exact ⟨v, w, e, a.mono r p, VRs.mono r p b⟩
theorem argr_nil : PA X [] (tR G W (evr C [])) := by
  constructor
  intro pos pins s σ H Q I ⟨M, h, ρ, er, hr, g⟩
  exact pa_nil.run pos pins s σ H Q I (g M H (Post.refl hr) [] rfl)
theorem argr_cons (hs : NoStar X e) (ha : PE X e (tO G W (ev C m))) (hb : PA X es (tR G W (evr C ms))) : PA X (e :: es) (tR G W (evr C (m :: ms))) := by
  constructor
  intro pos pins s σ H Q I ⟨M, h, ρ, er, hr, g⟩
  rw [hs es]
  rw [evr] at g
  show wpAny _ _ (spliced ((false, eval e X.env) :: backTo pos (starEach es X.env))) _ _ s
  refine Calls.spliced_cons (thn (use ha I er hr (Got.bd0 g)) fun u s1 ⟨d, M1, h1, H1, x, I1, ru, P, r1, _, g1⟩ => ?_)
  refine thn (useR hb I1 (er.mono hr P) P.hr (Got.bd0 (Got.from hr P g1))) fun us s2 ⟨ds, M3, h3, H3, vs, I3, rv, p3, x3, _, g3⟩ => ?_
  exact ⟨x :: vs, H3, I3, .cons ru rv, g3 M3 H3 p3 _ ⟨x, vs, rfl, r1.vr.mono P.hr p3, x3⟩⟩

theorem bd_ok {α β : Type} {x : Out α} {f : α → Hp → Out β} {b : β} {h' : Hp} (e : x.bd f = .ok b h') : ∃ a h1, x = .ok a h1 ∧ f a h1 = .ok b h' := by
  cases x with
  | ok a h1 => exact ⟨a, h1, rfl, e⟩
  | exc c h1 => cases e
  | bad => cases e
theorem evs_len : ∀ {ms : List E} {ρ : Env} {h : Hp} {ds : List D} {h' : Hp}, evs C ms ρ h = .ok ds h' → ds.length = ms.length
  | [], _, _, _, _, e => by
    rw [evs] at e
    injection e with e1 _
    rw [← e1] <;> rfl
  | m :: ms, ρ, h, ds, h', e => by
    rw [evs] at e
    obtain ⟨d, h1, _, e⟩ := bd_ok e
    obtain ⟨ds', h2, e2, e⟩ := bd_ok e
    injection e with e1 _
    rw [← e1, List.length_cons, List.length_cons, evs_len e2]

theorem m_tup {k : Nat} (hn : ms.length ≤ 1000) (ha : PA X es (tA G W (evs C ms))) : PE X (.Tuple es k pos) (tO G W (ev C (.tup ms))) := by
  constructor
  intro pins s σ H Q I ⟨M, h, ρ, er, hr, g⟩
  refine (pe_tup_F ha).run pins s σ H Q I ⟨M, h, ρ, er, hr, (Got.bd0 g).imp fun ds M1 h1 H1 p g1 vs x => ⟨?_, fun q ob hq hd => ?_⟩⟩
  · rw [← x.length, evs_len g1.1]
    exact Nat.le_of_lt (small1000 hn)
  · obtain ⟨P, R⟩ := new_tup p.hr hq hd x
    exact g1.2 M1 _ (p.trans hr P) _ (R.back hr p)
theorem m_lst (hn : ms.length ≤ 1000) (ha : PA X es (tA G W (evs C ms))) : PE X (.List es pos) (tO G W (ev C (.lst ms))) := by
  constructor
  intro pins s σ H Q I ⟨M, h, ρ, er, hr, g⟩
  refine (pe_lst ha).run pins s σ H Q I ⟨M, h, ρ, er, hr, (Got.bd0 g).imp fun ds M1 h1 H1 p g1 vs x => ⟨?_, fun q hq => ?_⟩⟩
  · rw [← x.length, evs_len g1.1]
    exact Nat.le_of_lt (small1000 hn)
  · obtain ⟨P, R⟩ := new_lst p.hr hq x
    exact g1.2 M1 _ (p.trans hr P) _ (R.back hr p)

/-! ### slices -/
/-- a slice's bound -/
theorem po_opt {eo : Option Expr} (hb : ∀ e, eo = some e → PE X e (tO G W (ev C mb)) ∧ mb.isNil = false) (hn : eo = none → mb = .nil) (I : Inv X pins σ H s) (er : EnvR G M H ρ σ) (hr : HR G M h H) {k : Option Int → List Addr → Hp → AH → Prop}
    (g : Got G (fun c d H' => W c d σ H') M H (evI mb (ev C mb) ρ h) k) :
    wpAny (model X.prog X.w) X.A (evalPart eo X.env) (fun u s' => ∃ o M' h' H', Inv X pins σ H' s' ∧ IsPart u o ∧ Post G M H M' h' H' ∧ k o M' h' H') X.xe s := by
  cases eo with
  | none =>
    rw [hn rfl] at g
    refine thn (po_none.run pins s σ H (fun o H' => o = none ∧ H' = H) I ⟨rfl, rfl⟩) fun u s' ⟨o, H', I', pt, e1, e2⟩ => ?_
    subst e1 e2
    exact ⟨none, M, h, H', I', pt, Post.refl hr, g M H' (Post.refl hr)⟩
  | some e =>
    obtain ⟨he, hm⟩ := hb e rfl
    unfold evI at g
    rw [hm, if_neg Bool.false_ne_true] at g
    refine thn ((po_some he).run pins s σ H (fun o H' => ∃ M' h', Post G M H M' h' H' ∧ k o M' h' H') I ⟨M, h, ρ, er, hr, (Got.bd hr g).imp fun d M1 h1 H1 p g1 v x => ?_⟩) fun u s' ⟨o, H', I', pt, M', h', q⟩ => ⟨o, M', h', H', I', pt, q⟩
    cases d with
    | int i => exact ⟨i, x, M1, h1, p, g1 M1 H1 (Post.refl p.hr)⟩
    | _ => exact g1.elim
theorem m_slc {lo hi : Option Expr} {p2 : Pos} (ck : Ck G X) (ha : PE X a (tO G W (ev C ma))) (hb : ∀ e, lo = some e → PE X e (tO G W (ev C mb)) ∧ mb.isNil = false) (hbn : lo = none → mb = .nil)
    (hc : ∀ e, hi = some e → PE X e (tO G W (ev C mc)) ∧ mc.isNil = false) (hcn : hi = none → mc = .nil) : PE X (.Subscript a (.Slice lo hi none p2) pos) (tO G W (ev C (.slc ma mb mc))) := by
  constructor
  intro pins s σ H Q I ⟨M, h, ρ, er, hr, g⟩
  refine Subscript_ (thn (use ha I er hr (Got.bd hr g)) fun u s1 ⟨d1, M1, h1, H1, x, I1, ru, p1, r1, g1⟩ => ?_)
  refine wpAny_Slice (thn (po_opt hb hbn I1 (er.mono hr p1) p1.hr (Got.bd p1.hr g1)) fun vl s2 ⟨l, M2, h2, H2, I2, pl, p2, g2⟩ => ?_)
  have P2 := p1.trans hr p2
  refine thn (po_opt hc hcn I2 (er.mono hr P2) P2.hr (Got.bd P2.hr g2)) fun vu s3 ⟨o, M3, h3, H3, I3, pu, p3, g3⟩ => ?_
  rw [evalPart_none]
  refine wpAny_pure ?_
  obtain ⟨z, e, q⟩ := g3.ofO
  have P3 := P2.trans hr p3
  have I4 := I3.kept (t' := s3.toks) (h' := s3.heap.push { cls := .type "slice", data := .fields #[vl, vu, .none] }) fun b ob q => Heap.get?_push_of_some _ q
  obtain ⟨R, hR, hq⟩ := slc_run (Q := Q) ck.K P3.hr ((r1.vr.mono p1.hr p2).mono p2.hr p3) e fun H' v P R => q M3 H' P v (R.back hr P3)
  obtain ⟨T, id, hT, ht, hg⟩ := hR pins _ σ H3 x u vl vu l o s3.heap.objs.size Q I4 ru (Heap.IsSliceOf.new ..) pl pu hq
  exact tail_any (ops := [.ref s3.heap.objs.size, u]) ht hT hg (by with_unfolding_all rfl)
theorem m_rev {k : Nat} {p1 p2 p3 : Pos} (ck : Ck G X) (ha : PE X a (tO G W (ev C ma))) : PE X (.Subscript a (.Slice none none (some (.UnaryOp .USub (.Constant (.int 1) k p1) p2)) p3) pos) (tO G W (ev C (.rev ma))) := by
  constructor
  intro pins s σ H Q I ⟨M, h, ρ, er, hr, g⟩
  refine (pe_revL ha).run pins s σ H Q I ⟨M, h, ρ, er, hr, (Got.bd hr g).imp fun d M1 h1 H1 p g1 v x => ?_⟩
  obtain ⟨z, e, q⟩ := g1.ofO
  obtain ⟨xs, e1, rfl⟩ := mapO e
  obtain ⟨l, vs, rfl, hl, wl⟩ := x.vr.lst p.hr e1
  refine ⟨l, vs, rfl, by rw [ck.K]; exact hl, fun n hn => ?_⟩
  obtain ⟨P, R⟩ := new_lst p.hr hn wl.reverse
  exact q M1 _ P _ (R.back hr p)

/-! ### a call of an own function -/
/-- a function's promise: what Mini's run of it tells -/
def spOf (G : Gd) (c : List D → Hp → Out D) : Sp := fun vs H Q E => ∃ M h ds, HR G M h H ∧ DRs G M H ds vs ∧ Got G E M H (c ds h) fun d M' _ H' => ∀ v, RD G M' H H' d v → Q v H'
theorem ofS_inj {a b : String} (h : Str.ofString a = Str.ofString b) : a = b := by
  rw [Str.ofString_eq_toList, Str.ofString_eq_toList] at h
  have h1 : a.toList.map Char.toNat = b.toList.map Char.toNat := sOf_inj h
  have h2 : a.toList = b.toList := List.map_inj_right (fun x y e => Char.ext (UInt32.toNat_inj.mp e)) |>.mp h1
  exact String.toList_inj.mp h2
/-- a function that keeps it -/
structure FnK (G : Gd) (X : Cx) (n : Nat) (x : Str) (c : List D → Hp → Out D) : Prop where
  ex : ∃ fa fd ps, X.mg x = some (.ref fa) ∧ PySem.W.keepIn X.K (.ref fa) = true ∧ Binds X.K fd ps [] ∧ FnOk X.prog X.w X.K X.mg X.base (L2.CX X.prog X.w) n fa fd ps (spOf G c)
theorem m_call {n : Nat} {f : String} {x : Str} {p : Pos} (hr0 : Room n X.A) (tk : Takes X W) (hg : Gl X x) (F : FnK G X n x (C.fn ("", f))) (hs : NoStar X e) (ha : PA X (e :: es) (tA G W (evs C ms)))
    (hdb : (x == ("__debug__" : Str)) = false) (hpl : (backTo pos (starEach es X.env)).any (·.1) = false) : PE X (.Call (.Name x p) (e :: es) [] pos) (tO G W (ev C (.call f ms))) := by
  obtain ⟨fa, fd, ps, hm, hk, hb, hF⟩ := F.ex
  constructor
  intro pins s σ H Q I ⟨M, h, ρ, er, hr, g⟩
  refine (pe_callS hF hr0 hg hm hk hb (fun σ => passAt tk σ) ha hdb (hs es) hpl).run pins s σ H Q I ⟨M, h, ρ, er, hr, (Got.bd hr g).imp fun ds M1 h1 H1 p g1 vs x => ?_⟩
  exact ⟨M1, h1, ds, p.hr, x, g1.imp fun d M2 h2 H2 p2 q v y => q v (y.back hr p)⟩
theorem m_call0 {n : Nat} {f : String} {x : Str} {p : Pos} (hr0 : Room n X.A) (tk : Takes X W) (hg : Gl X x) (F : FnK G X n x (C.fn ("", f))) (hdb : (x == ("__debug__" : Str)) = false) : PE X (.Call (.Name x p) [] [] pos) (tO G W (ev C (.call f []))) := by
  obtain ⟨fa, fd, ps, hm, hk, hb, hF⟩ := F.ex
  constructor
  intro pins s σ H Q I ⟨M, h, ρ, er, hr, g⟩
  refine wpAny_Call_Name_kw (ld_glob I hg hm ?_ hdb)
  refine PySem.W.callWith_K0 I.kIn hk (run_fnS (us := []) (vs := []) hF hr0 hb (passAt tk σ) I .nil ⟨M, h, [], hr, rfl, ?_⟩)
  have g : Got G (fun c d H' => W c d σ H') M H ((evs C [] ρ h).bd fun ds h1 => C.fn ("", f) ds h1) fun d M' _ H' => ∀ v, RD G M' H H' d v → Q v H' := g
  rw [evs] at g
  exact g
end
end Mi

/-! what loops and comprehensions walk -/
namespace Mi
open PySem PySem.Spec PyProof.Rows L2

section
variable {G : Gd} {M M' M1 : List Addr} {H H' H1 : AH} {h h' h1 : Hp} {W : WX} {X : Cx} {e a b c tg : Expr} {m ma mb mc : E} {pins : List (Addr × Obj)} {s : Shared} {σ : L2.St} {ρ : Env} {pos : Pos} {C : Ctx}

/-- the iterator J gives the items ds, as long as the places as stand as at first -/
def WalkJ (G : Gd) (M1 : List Addr) (h1 : Hp) (H1 : AH) (J : It) (as : List Nat) (ds : List D) : Prop := ds.length ≤ 16777216 ∧
  ∀ (i : Nat) M' h' H', Post G M1 H1 M' h' H' → same as h1 h' = true → (ds.length = i → J.stop i H') ∧
    (i < ds.length → J.go i H' ∧ ∀ x H'', J.yld i H' x H'' → ∃ d, ds[i]? = some d ∧ Post G M' H' M' h' H'' ∧ DR G M' H'' d x)
/-- a walk's reading -/
def tI (G : Gd) (W : WX) (k : IK) (as : D → D → List Nat) (fa fb : Env → Hp → Out D) : TI := fun σ H R => ∃ M h ρ, EnvR G M H ρ σ ∧ HR G M h H ∧
  Got G (fun c d H' => W c d σ H') M H ((fa ρ h).bd fun x h1 => (fb ρ h1).bd fun y h2 => ofO ((walkV k x y h2).map fun ds => (x, y, ds)) h2) fun p M' h' H' => ∀ J, WalkJ G M' h' H' J (as p.1 p.2.1) p.2.2 → R J H'

theorem same_at {as : List Nat} {n : Nat} (e : same as h h' = true) (hn : n ∈ as) : get h' n = get h n := of_decide_eq_true (List.all_eq_true.mp e n hn)
/-- a list is walked -/
theorem walk_lst {p : Addr} {xs : List D} {vs : List V} {as : List Nat} (r : HR G M1 h1 H1) (q : SqL G.K H1 p vs) (w : DRs G M1 H1 xs vs) (lb : xs.length ≤ 16777216)
    (hp : (p ∉ M1 ∧ H1 p = some (.lst vs)) ∨ SqC G.K H1 p vs ∨ ∃ n ∈ as, M1[n]? = some p ∧ get h1 n = some (.lst xs)) : WalkJ G M1 h1 H1 (Itl G.K p) as xs := by
  refine ⟨lb, fun i M' h' H' P sm => ?_⟩
  obtain ⟨vs', q', w'⟩ : ∃ vs', SqL G.K H' p vs' ∧ DRs G M' H' xs vs' := by
    rcases hp with ⟨hp, e⟩ | hp | ⟨n, hn, e1, e2⟩
    · exact ⟨vs, .inl (.inl (P.keep _ _ hp e)), w.mono r P⟩
    · exact ⟨vs, (r.keepCst (KeepA.n P.keep) hp).l, w.mono r P⟩
    · have e4 := (same_at sm hn).trans e2
      obtain ⟨b, hb, y⟩ := P.hr.obj n _ e4
      rw [P.at e1] at hb; cases hb
      obtain ⟨vs', z, y⟩ := y
      exact ⟨vs', .inl (.inl z), y⟩
  have hl := w'.length
  refine ⟨fun hi => ⟨vs', q', by omega⟩, fun hi => ?_⟩
  obtain ⟨v, hv, dr⟩ := w'.get (List.getElem?_eq_getElem hi)
  refine ⟨⟨vs', v, q', hv⟩, fun x H'' y => ?_⟩
  obtain ⟨rfl, f⟩ := y
  have ex := f vs' q'
  rw [hv] at ex; cases ex
  exact ⟨_, List.getElem?_eq_getElem hi, Post.refl P.hr, dr⟩
theorem walk_tup {p : Addr} {xs : List D} {vs : List V} {as : List Nat} (r : HR G M1 h1 H1) (q : SqT G.K H1 p vs) (w : DRs G M1 H1 xs vs) (lb : xs.length ≤ 16777216) : WalkJ G M1 h1 H1 (Itt G.K p) as xs := by
  refine ⟨lb, fun i M' h' H' P _ => ?_⟩
  have q' := r.keepTup (KeepA.n P.keep) q
  have w' := w.mono r P
  have hl := w'.length
  refine ⟨fun hi => ⟨vs, q', by omega⟩, fun hi => ?_⟩
  obtain ⟨v, hv, dr⟩ := w'.get (List.getElem?_eq_getElem hi)
  refine ⟨⟨vs, v, q', hv⟩, fun x H'' y => ?_⟩
  obtain ⟨rfl, f⟩ := y
  have ex := f vs q'
  rw [hv] at ex; cases ex
  exact ⟨_, List.getElem?_eq_getElem hi, Post.refl P.hr, dr⟩
theorem walk_txt {ss : List Nat} {as : List Nat} (k : okS ss) : WalkJ G M1 h1 H1 (Its (sOf ss)) as (ss.map fun c => .str [c]) := by
  refine ⟨by simpa using k.1, fun i M' h' H' P _ => ?_⟩
  have hz : (sOf ss).cps.size = ss.length := by simp [sOf]
  refine ⟨fun hi => ?_, fun hi => ?_⟩
  · show (sOf ss).cps.size ≤ i
    rw [hz]; exact Nat.le_of_eq (by simpa using hi)
  · have hi' : i < ss.length := by simpa using hi
    refine ⟨show i < (sOf ss).cps.size by rw [hz]; exact hi', fun x H'' y => ?_⟩
    obtain ⟨rfl, c, hc, rfl⟩ := y
    have hc' : ss[i]? = some c := by
      have : (sOf ss).cps[i]? = ss[i]? := by simp [sOf]
      rw [← this]; exact hc
    refine ⟨.str [c], by rw [List.getElem?_map, hc'] <;> rfl, Post.refl P.hr, rfl, by simp, fun c' h' => ?_⟩
    rw [show c' = c by simpa using h']
    exact k.2 c (List.mem_of_getElem? hc')
theorem walk_rng {lo : Int} {n : Nat} {as : List Nat} (lb : n ≤ 16777216) : WalkJ G M1 h1 H1 (Itr lo n) as ((List.range n).map fun (i : Nat) => .int (lo + (i : Int))) := by
  refine ⟨by simpa using lb, fun i M' h' H' P _ => ?_⟩
  refine ⟨fun hi => ?_, fun hi => ?_⟩
  · show n ≤ i
    exact Nat.le_of_eq (by simpa using hi)
  · have hi' : i < n := by simpa using hi
    refine ⟨hi', fun x H'' y => ?_⟩
    obtain ⟨rfl, rfl⟩ := y
    exact ⟨.int (lo + (i : Int)), by rw [List.getElem?_map, List.getElem?_range hi'] <;> rfl, Post.refl P.hr, rfl⟩

/-- the iterator of a list, a tuple, a text -/
theorem iter_lst {p : Addr} {vs : List V} (I : Inv X pins σ H s) (hq : SqL X.K H p vs) {R : It → AH → Prop} (q : R (Itl X.K p) H) : wpAny (model X.prog X.w) X.A (pyIter (.ref p)) (PIE X pins σ tg R) X.xe s := by
  obtain ⟨its, _, pl, _⟩ := I.list hq
  refine wpAny_pyIter_list pl.isList ⟨_, [s.heap.objs.size], _, _, H, rfl, I.kept (t' := s.toks) fun _ _ e' => Heap.get?_push_of_some _ e', turn_list p _, ⟨_, Heap.get?_push_size _ rfl, rfl, rfl⟩, fun b hb => ?_, q⟩
  rw [List.mem_singleton.mp hb]
  exact I.fpOk (Nat.le_refl _) I.fresh
theorem iter_tup {p : Addr} {vs : List V} (I : Inv X pins σ H s) (hq : SqT X.K H p vs) {R : It → AH → Prop} (q : R (Itt X.K p) H) : wpAny (model X.prog X.w) X.A (pyIter (.ref p)) (PIE X pins σ tg R) X.xe s := by
  obtain ⟨its, _, pl, _⟩ := I.tuple hq
  refine wpAny_pyIter_tuple pl ⟨_, [s.heap.objs.size], _, _, H, rfl, I.kept (t' := s.toks) fun _ _ e' => Heap.get?_push_of_some _ e', turn_tuple p _, ⟨_, Heap.get?_push_size _ rfl, rfl, rfl⟩, fun b hb => ?_, q⟩
  rw [List.mem_singleton.mp hb]
  exact I.fpOk (Nat.le_refl _) I.fresh
/-- for x in e, whatever e is -/
theorem wi_e (ck : Ck G X) (ha : PE X e (tO G W (ev C ma))) : PI X tg e (tI G W .e (fun x y => refs x ++ refs y) (ev C ma) (evN .nil (ev C .nil))) := by
  constructor
  intro pins s σ H R I ⟨M, h, ρ, er, hr, g⟩
  -- the value first, then by its kind
  have g1 : Got G (fun c d H' => W c d σ H') M H (ev C ma ρ h) fun d M1 h1 H1 => ∃ ds, itemsOf d h1 = some ds ∧ ∀ J, WalkJ G M1 h1 H1 J (refs d ++ refs .non) ds → R J H1 := (Got.bd hr g).imp fun d M1 h1 H1 p g1 => by
    have g1 : Got G (fun c d H' => W c d σ H') M1 H1 (ofO ((itemsOf d h1).map fun ds => (d, D.non, ds)) h1) fun p M' h' H' => ∀ J, WalkJ G M' h' H' J (refs p.1 ++ refs p.2.1) p.2.2 → R J H' := g1
    obtain ⟨z, e, q⟩ := g1.ofO
    obtain ⟨ds, e1, rfl⟩ := mapO e
    exact ⟨ds, e1, q M1 H1 (Post.refl p.hr)⟩
  by_cases hstr : ∃ ss M1 h1, ev C ma ρ h = .ok (.str ss) h1 ∧ M1 = M
  · obtain ⟨ss, _, h1, o, _⟩ := hstr
    refine (pi_str ha).run pins s σ H R I ⟨M, h, ρ, er, hr, ?_⟩
    rw [o] at g1 ⊢
    intro M1 H1 p v x
    obtain ⟨ds, e1, q⟩ := g1 M1 H1 p
    cases e1
    obtain ⟨rfl, k⟩ := x
    exact ⟨_, rfl, q _ (walk_txt k)⟩
  have g2 : Got G (fun c d H' => W c d σ H') M H (ev C ma ρ h) fun d M1 h1 H1 => (∀ ss, d ≠ .str ss) ∧ ∃ ds, itemsOf d h1 = some ds ∧ ∀ J, WalkJ G M1 h1 H1 J (refs d ++ refs .non) ds → R J H1 := by
    cases o : ev C ma ρ h with
    | bad => rw [o] at g1; exact g1.elim
    | exc c h' => rw [o] at g1; exact g1
    | ok d h1 =>
      rw [o] at g1
      exact fun M1 H1 p => ⟨fun ss z => hstr ⟨ss, M, h1, by rw [o, z], rfl⟩, g1 M1 H1 p⟩
  refine thn (use ha I er hr g2) fun u s1 ⟨d, M1, h1, H1, x, I1, ru, p, rx, nstr, ds, e1, q⟩ => ?_
  have kl : listOf d h1 = some ds → wpAny (model X.prog X.w) X.A (pyIter u) (PIE X pins σ tg R) X.xe s1 := fun e => by
    obtain ⟨l, vs, rfl, hl, wl⟩ := rx.vr.lst p.hr e
    cases ru
    have hq : SqL X.K H1 l vs := by rw [ck.K]; exact hl
    obtain ⟨_, _, _, hz⟩ := I1.list hq
    refine iter_lst I1 hq (q _ ?_)
    rw [ck.K]
    refine walk_lst p.hr hl wl (by rw [wl.length, ← sz_eq]; exact hz) ?_
    cases d with
    | lst ys =>
      obtain ⟨a', ws, e', _, n', q', w'⟩ := rx
      cases e'
      have := I1.list_inj (.inl (.inl q')) hq
      subst this
      exact .inl ⟨n', q'⟩
    | cst ys =>
      obtain ⟨a', ws, e', q', w'⟩ := rx
      cases e'
      have := I1.list_inj (by rw [ck.K]; exact q'.l) hq
      subst this
      exact .inr (.inl q')
    | ref n =>
      obtain ⟨a', ha', e'⟩ := rx
      cases e'
      refine .inr (.inr ⟨n, List.mem_append_left _ (List.mem_singleton.mpr rfl), ha', ?_⟩)
      have e : (match get h1 n with
        | some (.lst xs) => some xs
        | some (.frz xs) => some xs
        | _ => none) = some ds := e
      cases g : get h1 n with
      | none => rw [g] at e; cases e
      | some o =>
        rw [g] at e
        cases o with
        | lst ys => cases e; rfl
        | frz ys =>
          obtain ⟨b, hb, y⟩ := p.hr.obj n _ g
          exact y.elim
        | dic _ => cases e
        | ins _ _ => cases e
    | _ => cases e
  cases d with
  | tup xs =>
    cases e1
    obtain ⟨l, vs, rfl, hl, wl⟩ := rx
    cases ru
    rw [← ck.K] at hl
    obtain ⟨_, _, _, hz⟩ := I1.tuple hl.sq
    refine iter_tup I1 hl.sq (q _ ?_)
    rw [ck.K] at hl ⊢
    exact walk_tup p.hr hl.sq wl (by rw [wl.length, ← sz_eq]; exact hz)
  | str ss => exact absurd rfl (nstr ss)
  | _ => exact kl e1
theorem wi_rng {p : Pos} (hg : Gl X "range") (hm : X.mg "range" = none) (hs : starEach [e] X.env = [(false, eval e X.env)]) (hs0 : NoStar X e) (ha : PE X e (tO G W (ev C ma))) :
    PI X tg (.Call (.Name "range" p) [e] [] pos) (tI G W .rng (fun x y => refs x ++ refs y) (ev C ma) (evN .nil (ev C .nil))) := by
  constructor
  intro pins s σ H R I ⟨M, h, ρ, er, hr, g⟩
  have hP : PA X [e] (tCons (tO G W (ev C ma)) tNil) := pa_cons ha pa_nil (hs0 [])
  refine (pi_range1 hg hm hP hs).run pins s σ H R I ⟨M, h, ρ, er, hr, (Got.bd hr g).imp fun d M1 h1 H1 q g1 v x => ?_⟩
  have g1 : Got G (fun c d H' => W c d σ H') M1 H1 (ofO ((walkV .rng d .non h1).map fun ds => (d, D.non, ds)) h1) fun p M' h' H' => ∀ J, WalkJ G M' h' H' J (refs p.1 ++ refs p.2.1) p.2.2 → R J H' := g1
  obtain ⟨z, e, q1⟩ := g1.ofO
  obtain ⟨ds, e1, rfl⟩ := mapO e
  cases d with
  | int n =>
    obtain ⟨hn, rfl⟩ := ite_some (show (if -4611686018427387904 ≤ n ∧ n ≤ 16777216 then some ((List.range n.toNat).map fun (i : Nat) => D.int (i : Int)) else none) = some ds from e1)
    refine ⟨n, ?_, by omega, by omega, q1 M1 H1 (Post.refl q.hr) _ ?_⟩
    · rw [show v = .int n from x]
    · have := walk_rng (G := G) (M1 := M1) (h1 := h1) (H1 := H1) (lo := 0) (n := n.toNat) (as := refs (.int n) ++ refs .non) (by omega)
      simpa using this
  | _ => cases e1
end
end Mi

/-! enumerate and zip over lists, tuples and texts -/
namespace Mi
open PySem PySem.Spec PyProof.Rows L2

/-- where a walk's items stand -/
inductive Sk where
  | l (a : Addr) | t (a : Addr) | s (z : Str)
def Sk.cur (K : PySem.W.Frag) (H : AH) : Sk → List V → Prop
  | .l a, xs => SqL K H a xs
  | .t a, xs => SqT K H a xs
  | .s z, xs => xs = z.cps.toList.map fun c => V.str ⟨#[c]⟩
def Sk.val : Sk → V
  | .l a => .ref a
  | .t a => .ref a
  | .s z => .str z
/-- its iterator's place -/
def Sk.at (k : Sk) (it : Addr) (i : Nat) (h : Heap) : Prop := match k with
  | .l a => h.IsListIter it a i
  | .t a => h.IsTupleIter it a i
  | .s z => ∃ t, h.IsStrIter it (strIterType z) z t i
def Sk.away (k : Sk) (b : Addr) : Prop := match k with
  | .l a => b ≠ a
  | .t a => b ≠ a
  | .s _ => True
def Sk.fp (k : Sk) (it : Addr) : List Addr := match k with
  | .l a => [it, a]
  | .t a => [it, a]
  | .s _ => [it]
theorem Sk.out {k : Sk} {it b : Addr} (h : k.away b) (n : b ≠ it) : b ∉ k.fp it := by
  cases k with
  | l a => exact fun q => (List.mem_cons.mp q).elim n fun q => h (List.mem_singleton.mp q)
  | t a => exact fun q => (List.mem_cons.mp q).elim n fun q => h (List.mem_singleton.mp q)
  | s z => exact fun q => n (List.mem_singleton.mp q)
theorem Sk.its {k : Sk} {it : Addr} : it ∈ k.fp it := by cases k <;> exact List.mem_cons_self
theorem Sk.one {K : PySem.W.Frag} {H : AH} {X : Cx} {pins : List (Addr × Obj)} {s : Shared} {σ : L2.St} (I : Inv X pins σ H s) {k : Sk} {xs ys : List V} (h : k.cur X.K H xs) (h2 : k.cur X.K H ys) : xs = ys := by
  cases k with
  | l a => exact I.list_inj h h2
  | t a => exact I.tuple_inj h h2
  | s z =>
    have h : xs = _ := h
    have h2 : ys = _ := h2
    rw [h, h2]
theorem Sk.moves {k : Sk} {it : Addr} {i : Nat} {h h' : Heap} (st : k.at it i h) (kp : ∀ o, h.get? it = some o → h'.get? it = some o) : k.at it i h' := by
  cases k with
  | l a => exact Heap.IsListIter.at st kp
  | t a => exact Heap.IsTupleIter.at st kp
  | s z =>
    obtain ⟨t, o, ho, r⟩ := st
    exact ⟨t, o, kp o ho, r⟩
theorem Sk.live {k : Sk} {it : Addr} {i : Nat} {h : Heap} (st : k.at it i h) : ∃ o, h.get? it = some o ∧ ∀ v, o.data ≠ .cell v := by
  cases k with
  | l a => obtain ⟨o, ho, _, d⟩ := st; exact ⟨o, ho, fun v q => by rw [d] at q; cases q⟩
  | t a => obtain ⟨o, ho, _, d⟩ := st; exact ⟨o, ho, fun v q => by rw [d] at q; cases q⟩
  | s z => obtain ⟨t, o, ho, _, d⟩ := st; exact ⟨o, ho, fun v q => by rw [d] at q; cases q⟩
/-- its iterator draws the items -/
theorem Sk.draw {X : Cx} {pins : List (Addr × Obj)} {s : Shared} {σ : L2.St} {H : AH} {A : Around} (hh : A.handled = none) (I : Inv X pins σ H s) {k : Sk} {it : Addr} {i : Nat} {xs : List V} (q : k.cur X.K H xs) (st : k.at it i s.heap) (aw : k.away it) :
    ∃ (P : Nat → Value → Prop) (St : Nat → Heap → Prop), Draws X.prog X.w A it (k.fp it) xs.length P St ∧ St i s.heap ∧ (∀ j v, P j v → ∃ x, xs[j]? = some x ∧ RelV x v) ∧ ∀ j h, St j h → k.at it j h := by
  have sq : ∀ {vs : List Value}, vs.length = xs.length → (∀ (j : Nat) (x : V), xs[j]? = some x → ∃ u, vs[j]? = some u ∧ RelV x u) → ∀ (j : Nat) (v : Value), vs.toArray[j]? = some v → ∃ x, xs[j]? = some x ∧ RelV x v := fun {vs} hl f j v e => by
    have e : vs[j]? = some v := by simpa using e
    have lt : j < xs.length := by rw [← hl]; exact (List.getElem?_eq_some_iff.mp e).1
    obtain ⟨u, hu, ru⟩ := f j _ (List.getElem?_eq_getElem lt)
    rw [e] at hu
    cases hu
    exact ⟨_, List.getElem?_eq_getElem lt, ru⟩
  cases k with
  | l a =>
    obtain ⟨vs, rv, p, _⟩ := I.list q
    have hl : vs.length = xs.length := rv.length.symm
    have D := Draws.list (prog := X.prog) (w := X.w) hh it a (Ne.symm aw) vs.toArray
    rw [show vs.toArray.size = xs.length by simpa using hl] at D
    exact ⟨_, _, D, ⟨st, p.isList⟩, sq hl fun j x e => rv.get e, fun j h r => r.1⟩
  | t a =>
    obtain ⟨vs, rv, p, _⟩ := I.tuple q
    have hl : vs.length = xs.length := rv.length.symm
    have D := Draws.tuple (prog := X.prog) (w := X.w) hh it a (Ne.symm aw) vs.toArray
    rw [show vs.toArray.size = xs.length by simpa using hl] at D
    exact ⟨_, _, D, ⟨st, p⟩, sq hl fun j x e => rv.get e, fun j h r => r.1⟩
  | s z =>
    obtain ⟨t, st⟩ := st
    have q : xs = z.cps.toList.map fun c => V.str ⟨#[c]⟩ := q
    have D := Draws.text (prog := X.prog) (w := X.w) hh it z t
    rw [show z.cps.size = xs.length by rw [q]; simp] at D
    refine ⟨_, _, D, st, fun j v ⟨c, u, e, ev⟩ => ⟨.str ⟨#[c]⟩, ?_, u, ev⟩, fun j h r => ⟨t, r⟩⟩
    rw [q, List.getElem?_map]
    have e : z.cps.toList[j]? = some c := by simpa using e
    rw [e]
    rfl
/-- it begins -/
theorem Sk.begin {X : Cx} {pins : List (Addr × Obj)} {s : Shared} {σ : L2.St} {H : AH} (I : Inv X pins σ H s) {k : Sk} {xs : List V} {u : Value} (q : k.cur X.K H xs) (ru : RelV k.val u) :
    ∃ (o : Obj) (B : Heap → Prop), Begins u o B ∧ B s.heap ∧ (∀ h it, h.get? it = some o → k.at it 0 h) ∧ ∀ b, s.heap.objs.size ≤ b → k.away b := by
  cases k with
  | l a =>
    cases ru
    obtain ⟨vs, _, p, _⟩ := I.list q
    exact ⟨_, _, begins_list a vs.toArray, p.isList, fun h it e => ⟨_, e, rfl, rfl⟩, fun b hb e => Nat.lt_irrefl _ (Nat.lt_of_lt_of_le p.lt (e ▸ hb))⟩
  | t a =>
    cases ru
    obtain ⟨vs, _, p, _⟩ := I.tuple q
    obtain ⟨o, ho, _⟩ := id p
    exact ⟨_, _, begins_tuple a vs.toArray, p, fun h it e => ⟨_, e, rfl, rfl⟩, fun b hb e => Nat.lt_irrefl _ (Nat.lt_of_lt_of_le (Heap.lt_size ho) (e ▸ hb))⟩
  | s z =>
    obtain ⟨t, rfl⟩ := ru
    exact ⟨_, _, begins_text z t, trivial, fun h it e => ⟨t, _, e, rfl, rfl⟩, fun _ _ => trivial⟩

/-! ### enumerate -/
def ItE (K : PySem.W.Frag) (k : Sk) : It :=
  ⟨fun i H => ∃ xs x, k.cur K H xs ∧ xs[i]? = some x, fun i H v H' => ∃ T x ob, v = .ref T ∧ H T = none ∧ Obj.dict ob = none ∧ H' = upd H T (.frz ob (.tup [.int (i : Nat), x])) ∧ ∀ xs, k.cur K H xs → xs[i]? = some x, fun i H => ∃ xs, k.cur K H xs ∧ xs.length = i⟩
theorem turnE {P : Program} {w : World} {K : PySem.W.Frag} {elts : List Expr} {kk : Nat} {tpos : Pos} {k : Sk} {e it : Addr} (hne : e ≠ it) (ae : k.away e) (ai : k.away it) :
    Turn P w K (.Tuple elts kk tpos) (ItE K k) [e, it] e (fun i h => (∃ old, IsEnum h e it ((i : Nat) : Int) old) ∧ k.at it i h) where
  mem := List.mem_cons_self
  obj := fun i h ⟨⟨old, he⟩, st⟩ b hb => by
    rcases List.mem_cons.mp hb with rfl | hb
    · exact ⟨_, he, fun v q => nomatch q⟩
    · rw [List.mem_singleton.mp hb]; exact Sk.live st
  keep := fun i h h' ⟨⟨old, he⟩, st⟩ kp => ⟨⟨old, kp e List.mem_cons_self _ he⟩, Sk.moves st fun o q => kp it (List.mem_cons_of_mem _ List.mem_cons_self) o q⟩
  item := by
    rintro X rfl rfl rfl hc i pins s σ H E I hf ⟨⟨old, he⟩, st⟩ ⟨xs, x, hq, hx⟩
    obtain ⟨Pv, St, D, d0, d1, d2⟩ := Sk.draw (A := X.A.in1) (I.ok.hd hc) I hq st ai
    have lt : i < xs.length := (List.getElem?_eq_some_iff.mp hx).1
    refine wpAny_pyNext_enum_itemD D he d0 lt hne (Sk.out ae hne) fun u g tk hP out nx hT sz kp => ⟨_, rfl, ?_⟩
    refine wpAny_letOwnedTupleGo_enum (s := { s with heap := g, toks := tk + 1 }) out fun g2 back sb => ?_
    obtain ⟨x', hx', ru⟩ := d1 i u hP
    rw [hx] at hx'
    cases hx'
    have le : e < s.heap.objs.size := Heap.lt_size he
    have li : it < s.heap.objs.size := by obtain ⟨o, ho, _⟩ := Sk.live st; exact Heap.lt_size ho
    have hT2 := (sb.2 _ (Nat.ne_of_gt le)).trans hT
    have new : ObjOk X.prog X.w (upd H s.heap.objs.size (.frz { cls := .type "tuple", data := .seq #[.int (i : Nat) tk, u] } (.tup [.int (i : Nat), x]))) g2 s.heap.objs.size (.frz { cls := .type "tuple", data := .seq #[.int (i : Nat) tk, u] } (.tup [.int (i : Nat), x])) := ⟨hT2, by show 2 ≤ sizeLine; decide, [.int i tk, u], .cons ⟨_, rfl⟩ (.cons ru .nil), ⟨_, hT2, rfl, _, rfl⟩⟩
    have J : Inv X pins σ (upd H s.heap.objs.size (.frz { cls := .type "tuple", data := .seq #[.int (i : Nat) tk, u] } (.tup [.int (i : Nat), x]))) { s with heap := g2, toks := tk + 1 } := by
      refine I.turnedNew (ch := [e, it]) (fun b ob hb q => ?_) hf (Nat.le_refl _) new
      exact (sb.2 b fun z => hb (by simp [z])).trans (kp b ob (fun z => hb (by simp [z])) (fun z => hb (by simp [z])) q)
    refine ⟨.ref s.heap.objs.size, _, J, rfl, ⟨_, x, _, rfl, I.hok.fresh (Nat.le_refl _), rfl, rfl, fun ys hy => by rw [Sk.one (K := X.K) (H := H) I hy hq]; exact hx⟩, ⟨⟨u, ?_⟩, Sk.moves (d2 _ _ nx) fun o q => (sb.2 it (Ne.symm hne)).trans q⟩, fun b hb => ?_⟩
    · rw [show ((i + 1 : Nat) : Int) = (i : Int) + 1 by omega]; exact back
    · have lb : b < s.heap.objs.size := by
        rcases List.mem_cons.mp hb with rfl | hb
        · exact le
        · rw [List.mem_singleton.mp hb]; exact li
      rw [upd_ne (Nat.ne_of_lt lb)]
      exact (hf b hb).1
  done := by
    rintro X rfl rfl rfl hc i pins s σ H E I hf ⟨⟨old, he⟩, st⟩ ⟨xs, hq, rfl⟩
    obtain ⟨Pv, St, D, d0, d1, d2⟩ := Sk.draw (A := X.A.in1) (I.ok.hd hc) I hq st ai
    obtain ⟨f0, f1, f2, f3, f4, f5⟩ := hf it (List.mem_cons_of_mem _ List.mem_cons_self)
    exact wpAny_pyNext_enum_endD D he d0 fun g eb => ⟨rfl, I.turned (t' := s.toks) (fun b o hb q => eb b o hb q) f0 f1 f3 f4 f5⟩
  self := fun A i s Q E ⟨⟨_, he⟩, _⟩ h => wpAny_pyIter_enum he h
set_option maxHeartbeats 1000000 in
theorem enum_new {v : Value} {o : Obj} {B : Heap → Prop} (b : Begins v o B) :
    Meets (Builtin.«enumerate.__new__» ⟨[.type "enumerate", v], []⟩) (fun _ R s => B s.heap ∧
      R (.ok (.ret (.ref (s.heap.push o).objs.size))) { s with heap := (s.heap.push o).push { cls := .type "enumerate", data := .fields #[.none, .bool false, .ref s.heap.objs.size, rawInt 0, .none, .none] } }) :=
  .of_wp fun prog w A R s h => by
    obtain ⟨hp, g, dr, tk, os⟩ := s
    obtain ⟨hB, h⟩ := h
    have hsub := sub_enumerate
    have itr : ∀ {A' : Around} {E : Value → Shared → Prop} {Q : Value → Shared → Prop}, Q (.ref hp.objs.size) ⟨hp.push o, g, dr, tk, os⟩ → wpAny (model prog w) A' (pyIter v) Q E ⟨hp, g, dr, tk, os⟩ := fun q => b.iter prog w _ _ ⟨hp, g, dr, tk, os⟩ _ hB q
    wp_walk using itr
    refine wpAny_stack_any fun st => wpAny_pure ?_
    split
    · rename_i c _ _ _ _ _
      cases (c == Value.type "enumerate") <;> (wp_walk using itr; exact ⟨_, rfl, h⟩)
    · wp_walk using itr
      exact ⟨_, rfl, h⟩
theorem enum_call {prog : Program} {w : World} {A : Around} {E : Value → Shared → Prop} {s : Shared} {v : Value} {o : Obj} {B : Heap → Prop} {Q : Value → Shared → Prop} (b : Begins v o B) (hB : B s.heap)
    (h : ∀ g, IsEnum g (s.heap.objs.size + 1) s.heap.objs.size 0 .none → g.get? s.heap.objs.size = some o → g.objs.size = s.heap.objs.size + 2 → (∀ c u, s.heap.get? c = some u → g.get? c = some u) → Q (.ref (s.heap.objs.size + 1)) { s with heap := g }) :
    wpAny (model prog w) A (PySem.call (.type "enumerate") [v]) Q E s := by
  refine callType_new F.called_enumerate (by decide) (F.typeCall_enumerate_1 _) (F.newCall_enumerate_1 _) (fun obj => F.args_object_init_2 obj _) F.entry_enumerate_new (enum_new b) ⟨hB, ?_⟩
  have hz : (s.heap.push o).objs.size = s.heap.objs.size + 1 := Heap.size_push ..
  have en := Heap.get?_push_size (s.heap.push o) (o := { cls := .type "enumerate", data := .fields #[.none, .bool false, .ref s.heap.objs.size, rawInt 0, .none, .none] }) rfl
  rw [hz] at en
  show _ ∧ _
  rw [hz]
  exact ⟨⟨_, en, rfl⟩, h _ en (Heap.get?_push_of_some _ (Heap.get?_push_size _ b.free)) (by rw [Heap.size_push, hz]) fun c u x => Heap.get?_push_of_some _ (Heap.get?_push_of_some _ x)⟩
theorem beg_E {X : Cx} {pins : List (Addr × Obj)} {s1 : Shared} {σ : L2.St} {H1 : AH} {tpos : Pos} {elts : List Expr} {kk : Nat} (I1 : Inv X pins σ H1 s1) {k : Sk} {xs : List V} {u : Value} (hq : k.cur X.K H1 xs) (r : RelV k.val u) {R : It → AH → Prop} (q : R (ItE X.K k) H1) :
    wpAny (model X.prog X.w) X.A (PySem.call (.type "enumerate") [u]) (fun v s => wpAny (model X.prog X.w) X.A (pyIter v) (PIE X pins σ (.Tuple elts kk tpos) R) X.xe s) X.xe s1 := by
  obtain ⟨o, B, b, hB, b1, b2⟩ := Sk.begin I1 hq r
  refine enum_call b hB fun g he hit hsz kp => wpAny_pyIter_enum he ?_
  have lt1 := Nat.le_succ s1.heap.objs.size
  refine ⟨_, [s1.heap.objs.size + 1, s1.heap.objs.size], _, _, H1, rfl, I1.kept (t' := s1.toks) kp, turnE (k := k) (Nat.succ_ne_self _) (b2 _ lt1) (b2 _ (Nat.le_refl _)), ⟨⟨.none, he⟩, b1 _ _ hit⟩, fun c hc => ?_, q⟩
  have lc : s1.heap.objs.size ≤ c := by
    rcases List.mem_cons.mp hc with rfl | hc
    · exact lt1
    · rw [List.mem_singleton.mp hc]; exact Nat.le_refl _
  exact I1.fpOk lc (I1.hok.fresh lc)
end Mi

/-! zip; what enumerate and zip walk -/
namespace Mi
open PySem PySem.Spec PyProof.Rows L2

def ItZ (K : PySem.W.Frag) (k1 k2 : Sk) : It :=
  ⟨fun i H => ∃ xs ys x y, k1.cur K H xs ∧ k2.cur K H ys ∧ xs[i]? = some x ∧ ys[i]? = some y,
    fun i H v H' => ∃ T x y ob, v = .ref T ∧ H T = none ∧ Obj.dict ob = none ∧ H' = upd H T (.frz ob (.tup [x, y])) ∧ (∀ xs, k1.cur K H xs → xs[i]? = some x) ∧ ∀ ys, k2.cur K H ys → ys[i]? = some y,
    fun i H => ∃ xs ys, k1.cur K H xs ∧ k2.cur K H ys ∧ i ≤ xs.length ∧ i ≤ ys.length ∧ (i = xs.length ∨ i = ys.length)⟩
theorem turnZ {P : Program} {w : World} {K : PySem.W.Frag} {elts : List Expr} {kk : Nat} {tpos : Pos} {k1 k2 : Sk} {z TI TO i1 i2 : Addr} (S : ZipSep2 z TI TO i1 i2 (k1.fp i1) (k2.fp i2)) (a1 : k1.away i1) (a2 : k2.away i2) :
    Turn P w K (.Tuple elts kk tpos) (ItZ K k1 k2) [z, TI, TO, i1, i2] z (fun i h => IsZip h z TI TO .none ∧ IsTupOf2 h TI (.ref i1) (.ref i2) ∧ (∃ x y, IsTupOf2 h TO x y) ∧ k1.at i1 i h ∧ k2.at i2 i h) where
  mem := List.mem_cons_self
  obj := fun i h ⟨hz, hTI, ⟨x, y, hTO⟩, s1, s2⟩ c hc => by
    have hc : c = z ∨ c = TI ∨ c = TO ∨ c = i1 ∨ c = i2 := by simpa using hc
    rcases hc with rfl | rfl | rfl | rfl | rfl
    · exact ⟨_, hz, fun v q => nomatch q⟩
    · exact ⟨_, hTI, fun v q => nomatch q⟩
    · exact ⟨_, hTO, fun v q => nomatch q⟩
    · exact Sk.live s1
    · exact Sk.live s2
  keep := fun i h h' ⟨hz, hTI, ⟨x, y, hTO⟩, s1, s2⟩ kp => ⟨kp z (by simp) _ hz, kp TI (by simp) _ hTI, ⟨x, y, kp TO (by simp) _ hTO⟩, Sk.moves s1 fun o q => kp i1 (by simp) o q, Sk.moves s2 fun o q => kp i2 (by simp) o q⟩
  item := by
    rintro X rfl rfl rfl hc i pins s σ H E I hf ⟨hz, hTI, ⟨x0, y0, hTO⟩, s1, s2⟩ ⟨xs, ys, x, y, hx, hy, ex, ey⟩
    obtain ⟨P1, St1, D1, d0, d1, d2⟩ := Sk.draw (A := X.A.in1) (I.ok.hd hc) I hx s1 a1
    obtain ⟨P2, St2, D2, e0, e1, e2⟩ := Sk.draw (A := X.A.in1) (I.ok.hd hc) I hy s2 a2
    have lt1 : i < xs.length := (List.getElem?_eq_some_iff.mp ex).1
    have lt2 : i < ys.length := (List.getElem?_eq_some_iff.mp ey).1
    refine wpAny_pyNext_zipD2_item S D1 D2 hz hTI hTO d0 e0 lt1 lt2 fun u1 u2 g tk p1 p2 oz oT n1 n2 hT sz kp => ⟨_, rfl, ?_⟩
    refine wpAny_letOwnedTupleGo_zip (s := { s with heap := g, toks := tk }) oz fun g2 bz sb => ?_
    obtain ⟨x', hx', r1⟩ := d1 i u1 p1
    rw [ex] at hx'
    cases hx'
    obtain ⟨y', hy', r2⟩ := e1 i u2 p2
    rw [ey] at hy'
    cases hy'
    have zl : z < s.heap.objs.size := Heap.lt_size hz
    have hT2 := (sb.2 _ (Nat.ne_of_gt zl)).trans hT
    have new : ObjOk X.prog X.w (upd H s.heap.objs.size (.frz { cls := .type "tuple", data := .seq #[u1, u2] } (.tup [x, y]))) g2 s.heap.objs.size (.frz { cls := .type "tuple", data := .seq #[u1, u2] } (.tup [x, y])) := ⟨hT2, by show 2 ≤ sizeLine; decide, [u1, u2], .cons r1 (.cons r2 .nil), ⟨_, hT2, rfl, _, rfl⟩⟩
    have J : Inv X pins σ (upd H s.heap.objs.size (.frz { cls := .type "tuple", data := .seq #[u1, u2] } (.tup [x, y]))) { s with heap := g2, toks := tk } := by
      refine I.turnedNew (ch := [z, TI, TO, i1, i2]) (fun c o hb q => ?_) hf (Nat.le_refl _) new
      exact (sb.2 c fun q' => hb (by simp [q'])).trans (kp c o (fun q' => hb (by simp [q'])) (fun q' => hb (by simp [q'])) (fun q' => hb (by simp [q'])) (fun q' => hb (by simp [q'])) q)
    refine ⟨.ref s.heap.objs.size, _, J, rfl, ⟨_, x, y, _, rfl, I.hok.fresh (Nat.le_refl _), rfl, rfl, fun l hl => by rw [Sk.one (K := X.K) (H := H) I hl hx]; exact ex, fun l hl => by rw [Sk.one (K := X.K) (H := H) I hl hy]; exact ey⟩, ⟨bz, ?_, ⟨u1, u2, ?_⟩, ?_, ?_⟩, fun c hcm => ?_⟩
    · exact (sb.2 _ S.TIz).trans (kp _ _ S.TIz S.TITO S.TIi1 S.TIi2 hTI)
    · exact (sb.2 _ S.TOz).trans oT
    · exact Sk.moves (d2 _ _ n1) fun o q => (sb.2 _ (Ne.symm S.zi1)).trans q
    · exact Sk.moves (e2 _ _ n2) fun o q => (sb.2 _ (Ne.symm S.zi2)).trans q
    · have lc : c < s.heap.objs.size := by
        have hcm : c = z ∨ c = TI ∨ c = TO ∨ c = i1 ∨ c = i2 := by simpa using hcm
        rcases hcm with rfl | rfl | rfl | rfl | rfl
        · exact zl
        · exact Heap.lt_size hTI
        · exact Heap.lt_size hTO
        · obtain ⟨o, ho, _⟩ := Sk.live s1; exact Heap.lt_size ho
        · obtain ⟨o, ho, _⟩ := Sk.live s2; exact Heap.lt_size ho
      rw [upd_ne (Nat.ne_of_lt lc)]
      exact (hf c hcm).1
  done := by
    rintro X rfl rfl rfl hc i pins s σ H E I hf ⟨hz, hTI, ⟨x0, y0, hTO⟩, s1, s2⟩ ⟨xs, ys, hx, hy, l1, l2, hend⟩
    obtain ⟨P1, St1, D1, d0, d1, d2⟩ := Sk.draw (A := X.A.in1) (I.ok.hd hc) I hx s1 a1
    obtain ⟨P2, St2, D2, e0, e1, e2⟩ := Sk.draw (A := X.A.in1) (I.ok.hd hc) I hy s2 a2
    refine wpAny_pyNext_zipD2_end S D1 D2 hz hTI hTO d0 e0 l1 l2 hend fun g tk kp => ⟨rfl, I.turnedL (t' := tk) (ch := [z, TI, TO, i1, i2]) (fun c o hb q => ?_) hf⟩
    exact kp c o (fun q' => hb (by simp [q'])) (fun q' => hb (by simp [q'])) (fun q' => hb (by simp [q'])) (fun q' => hb (by simp [q'])) q
  self := fun A i s Q E ⟨hz, _⟩ h => wpAny_pyIter_zip hz h
theorem beg_Z {X : Cx} {pins : List (Addr × Obj)} {s1 : Shared} {σ : L2.St} {H1 : AH} {tpos : Pos} {elts : List Expr} {kk : Nat} (I1 : Inv X pins σ H1 s1) {k1 k2 : Sk} {xs ys : List V} {u u' : Value} (hx : k1.cur X.K H1 xs) (hy : k2.cur X.K H1 ys)
    (r : RelV k1.val u) (r' : RelV k2.val u') {R : It → AH → Prop} (q : R (ItZ X.K k1 k2) H1) :
    wpAny (model X.prog X.w) X.A (PySem.call (.type "zip") [u, u']) (fun v s => wpAny (model X.prog X.w) X.A (pyIter v) (PIE X pins σ (.Tuple elts kk tpos) R) X.xe s) X.xe s1 := by
  obtain ⟨o1, B1, b1, hB1, c1, f1⟩ := Sk.begin I1 hx r
  obtain ⟨o2, B2, b2, hB2, c2, f2⟩ := Sk.begin I1 hy r'
  refine zip_begins2 b1 b2 hB1 hB2 fun g hz hTI hTO g1 g2 sz kp => wpAny_pyIter_zip hz ?_
  have ge : ∀ j, s1.heap.objs.size ≤ s1.heap.objs.size + j := fun j => Nat.le_add_right _ _
  generalize hN : s1.heap.objs.size = N at *
  have ne : ∀ {a b : Nat}, a ≠ b → N + a ≠ N + b := fun h e => h (Nat.add_left_cancel e)
  have n0 : ∀ {a : Nat}, 0 < a → N + a ≠ N := fun h e => Nat.lt_irrefl N (Nat.lt_of_lt_of_eq (Nat.lt_add_of_pos_right h) e)
  have S : ZipSep2 (N + 4) (N + 2) (N + 3) N (N + 1) (k1.fp N) (k2.fp (N + 1)) := {
    TIz := ne (by decide), TOz := ne (by decide), TITO := ne (by decide), TIi1 := n0 (by decide), mem1 := Sk.its, zf1 := Sk.out (f1 _ (ge 4)) (n0 (by decide)), Tf1 := Sk.out (f1 _ (ge 3)) (n0 (by decide)), TIi2 := ne (by decide), mem2 := Sk.its,
    zf2 := Sk.out (f2 _ (ge 4)) (ne (by decide)), Tf2 := Sk.out (f2 _ (ge 3)) (ne (by decide)), sep1_2 := Sk.out (f2 _ (Nat.le_refl _)) (Ne.symm (n0 (by decide))), sep2_1 := Sk.out (f1 _ (ge 1)) (n0 (by decide)) }
  refine ⟨_, [N + 4, N + 2, N + 3, N, N + 1], _, _, H1, rfl, I1.kept (t' := s1.toks) kp, turnZ S (f1 _ (Nat.le_refl _)) (f2 _ (ge 1)), ⟨hz, hTI, ⟨_, _, hTO⟩, c1 _ _ g1, c2 _ _ g2⟩, fun c hcm => ?_, q⟩
  have lc : N ≤ c := by
    have hcm : c = N + 4 ∨ c = N + 2 ∨ c = N + 3 ∨ c = N ∨ c = N + 1 := by simpa using hcm
    rcases hcm with rfl | rfl | rfl | rfl | rfl
    · exact ge 4
    · exact ge 2
    · exact ge 3
    · exact Nat.le_refl _
    · exact ge 1
  rw [← hN] at lc
  exact I1.fpOk lc (I1.hok.fresh lc)

/-! ### Mini's walks -/
section
variable {G : Gd} {M M' M1 : List Addr} {H H' H1 : AH} {h h' h1 : Hp} {W : WX} {X : Cx} {e a b c tg : Expr} {m ma mb mc : E} {pins : List (Addr × Obj)} {s : Shared} {σ : L2.St} {ρ : Env} {pos : Pos} {C : Ctx}
/-- the items of a source stand, meanwhile -/
def Stays (G : Gd) (M1 : List Addr) (h1 : Hp) (H1 : AH) (k : Sk) (as : List Nat) (ds : List D) : Prop := ds.length ≤ 16777216 ∧
  ∀ M' h' H', Post G M1 H1 M' h' H' → same as h1 h' = true → ∃ vs, k.cur G.K H' vs ∧ DRs G M' H' ds vs
theorem stays_lst {p : Addr} {xs : List D} {vs : List V} {as : List Nat} (r : HR G M1 h1 H1) (q : SqL G.K H1 p vs) (w : DRs G M1 H1 xs vs) (lb : xs.length ≤ 16777216)
    (hp : (p ∉ M1 ∧ H1 p = some (.lst vs)) ∨ SqC G.K H1 p vs ∨ ∃ n ∈ as, M1[n]? = some p ∧ get h1 n = some (.lst xs)) : Stays G M1 h1 H1 (.l p) as xs := by
  refine ⟨lb, fun M' h' H' P sm => ?_⟩
  rcases hp with ⟨hp, e⟩ | hp | ⟨n, hn, e1, e2⟩
  · exact ⟨vs, .inl (.inl (P.keep _ _ hp e)), w.mono r P⟩
  · exact ⟨vs, (r.keepCst (KeepA.n P.keep) hp).l, w.mono r P⟩
  · have e4 := (same_at sm hn).trans e2
    obtain ⟨b, hb, y⟩ := P.hr.obj n _ e4
    rw [P.at e1] at hb; cases hb
    obtain ⟨vs', z, y⟩ := y
    exact ⟨vs', .inl (.inl z), y⟩
theorem stays_tup {p : Addr} {xs : List D} {vs : List V} {as : List Nat} (r : HR G M1 h1 H1) (q : SqT G.K H1 p vs) (w : DRs G M1 H1 xs vs) (lb : xs.length ≤ 16777216) : Stays G M1 h1 H1 (.t p) as xs :=
  ⟨lb, fun M' h' H' P _ => ⟨vs, r.keepTup (KeepA.n P.keep) q, w.mono r P⟩⟩
theorem signs_dr {ss : List Nat} (k : ∀ c ∈ ss, c < 1114112) : DRs G M H (ss.map fun c => D.str [c]) (ss.map fun c => V.str ⟨#[c]⟩) := by
  induction ss with
  | nil => rfl
  | cons c ss ih => exact ⟨_, _, rfl, ⟨rfl, by simp, fun d hd => by rw [List.mem_singleton.mp hd]; exact k c List.mem_cons_self⟩, ih fun d hd => k d (List.mem_cons_of_mem _ hd)⟩
theorem stays_txt {ss : List Nat} {as : List Nat} (k : okS ss) : Stays G M1 h1 H1 (.s (sOf ss)) as (ss.map fun c => .str [c]) :=
  ⟨by simpa using k.1, fun M' h' H' P _ => ⟨ss.map fun c => V.str ⟨#[c]⟩, rfl, signs_dr k.2⟩⟩
/-- a value's items, as a source -/
theorem src_of (ck : Ck G X) (I : Inv X pins σ H1 s) (r : HR G M1 h1 H1) {d : D} {v : V} {as : List Nat} (x : VR G M1 H1 d v) {ds : List D} (e : itemsOf d h1 = some ds) (ha : ∀ n ∈ refs d, n ∈ as) :
    ∃ k, v = Sk.val k ∧ Stays G M1 h1 H1 k as ds := by
  have kl : listOf d h1 = some ds → ∃ k, v = Sk.val k ∧ Stays G M1 h1 H1 k as ds := fun e => by
    obtain ⟨l, vs, rfl, hl, wl⟩ := x.lst r e
    have hq : SqL X.K H1 l vs := by rw [ck.K]; exact hl
    obtain ⟨_, _, _, hz⟩ := I.list hq
    refine ⟨.l l, rfl, stays_lst r hl wl (by rw [wl.length, ← sz_eq]; exact hz) ?_⟩
    cases d with
    | lst ys =>
      obtain ⟨a', ws, e', n', q', w'⟩ := x
      cases e'
      have := I.list_inj (.inl (.inl q')) hq
      subst this
      exact .inl ⟨n', q'⟩
    | cst ys =>
      obtain ⟨a', ws, e', q', w'⟩ := x
      cases e'
      have := I.list_inj (by rw [ck.K]; exact q'.l) hq
      subst this
      exact .inr (.inl q')
    | ref n =>
      obtain ⟨a', ha', e'⟩ := x
      cases e'
      refine .inr (.inr ⟨n, ha n (List.mem_singleton.mpr rfl), ha', ?_⟩)
      have e : (match get h1 n with
        | some (.lst xs) => some xs
        | some (.frz xs) => some xs
        | _ => none) = some ds := e
      cases g : get h1 n with
      | none => rw [g] at e; cases e
      | some o =>
        rw [g] at e
        cases o with
        | lst ys => cases e; rfl
        | frz ys =>
          obtain ⟨b, hb, y⟩ := r.obj n _ g
          exact y.elim
        | dic _ => cases e
        | ins _ _ => cases e
    | _ => cases e
  cases d with
  | tup xs =>
    cases e
    obtain ⟨l, vs, rfl, hl, wl⟩ := x
    have hq : SqT X.K H1 l vs := by rw [ck.K]; exact hl.sq
    obtain ⟨_, _, _, hz⟩ := I.tuple hq
    exact ⟨.t l, rfl, stays_tup r hl.sq wl (by rw [wl.length, ← sz_eq]; exact hz)⟩
  | str ss =>
    cases e
    obtain ⟨rfl, k⟩ := x
    exact ⟨.s (sOf ss), rfl, stays_txt k⟩
  | _ => exact kl e
theorem zipIdx_at {α : Type} {l : List α} {i : Nat} (h : i < l.length) : l.zipIdx[i]? = some (l[i], i) := by
  rw [List.getElem?_zipIdx, List.getElem?_eq_getElem h]; simp
theorem walk_enum {k : Sk} {as : List Nat} {ds : List D} (st : Stays G M1 h1 H1 k as ds) : WalkJ G M1 h1 H1 (ItE G.K k) as (ds.zipIdx.map fun p => .tup [.int p.2, p.1]) := by
  refine ⟨by simpa using st.1, fun i M' h' H' P sm => ?_⟩
  obtain ⟨vs, q, w⟩ := st.2 M' h' H' P sm
  have hl := w.length
  refine ⟨fun hi => ?_, fun hi => ?_⟩
  · exact ⟨vs, q, by rw [← hl]; simpa using hi⟩
  · have hi : i < ds.length := by simpa using hi
    obtain ⟨v, hv, dr⟩ := w.get (List.getElem?_eq_getElem hi)
    refine ⟨⟨vs, v, q, hv⟩, ?_⟩
    rintro x H'' ⟨T, y, ob, rfl, hT, hd, rfl, f⟩
    have e1 := f vs q
    rw [hv] at e1
    cases e1
    refine ⟨.tup [.int i, ds[i]], ?_, (new_tup P.hr hT hd (xs := [.int i, ds[i]]) ⟨_, _, rfl, rfl, _, _, rfl, dr, rfl⟩).1, (new_tup P.hr hT hd (xs := [.int i, ds[i]]) ⟨_, _, rfl, rfl, _, _, rfl, dr, rfl⟩).2⟩
    rw [List.getElem?_map, zipIdx_at hi] <;> rfl
theorem walk_zip {k1 k2 : Sk} {as : List Nat} {ds es : List D} (s1 : Stays G M1 h1 H1 k1 as ds) (s2 : Stays G M1 h1 H1 k2 as es) : WalkJ G M1 h1 H1 (ItZ G.K k1 k2) as ((ds.zip es).map fun p => .tup [p.1, p.2]) := by
  refine ⟨by have := s1.1; simp; omega, fun i M' h' H' P sm => ?_⟩
  obtain ⟨vs, q, w⟩ := s1.2 M' h' H' P sm
  obtain ⟨us, q2, w2⟩ := s2.2 M' h' H' P sm
  have hl := w.length
  have hl2 := w2.length
  refine ⟨fun hi => ?_, fun hi => ?_⟩
  · have hi : min ds.length es.length = i := by simpa using hi
    refine ⟨vs, us, q, q2, ?_⟩
    rw [← hl, ← hl2]
    omega
  · have hi : i < ds.length ∧ i < es.length := by
      have : i < min ds.length es.length := by simpa using hi
      omega
    obtain ⟨v, hv, dr⟩ := w.get (List.getElem?_eq_getElem hi.1)
    obtain ⟨u, hu, dr2⟩ := w2.get (List.getElem?_eq_getElem hi.2)
    refine ⟨⟨vs, us, v, u, q, q2, hv, hu⟩, ?_⟩
    rintro x H'' ⟨T, y, y2, ob, rfl, hT, hd, rfl, f, f2⟩
    have e1 := f vs q
    rw [hv] at e1
    cases e1
    have e2 := f2 us q2
    rw [hu] at e2
    cases e2
    have nt := new_tup P.hr hT hd (xs := [ds[i], es[i]]) ⟨_, _, rfl, dr, _, _, rfl, dr2, rfl⟩
    refine ⟨.tup [ds[i], es[i]], ?_, nt.1, nt.2⟩
    rw [List.getElem?_map, show (ds.zip es)[i]? = some (ds[i]'hi.1, es[i]'hi.2) from List.getElem?_zip_eq_some.mpr ⟨List.getElem?_eq_getElem hi.1, List.getElem?_eq_getElem hi.2⟩] <;> rfl
theorem wi_enum {elts : List Expr} {kk : Nat} {p tpos : Pos} (ck : Ck G X) (hg : Gl X "enumerate") (hm : X.mg "enumerate" = none) (hs : starEach [e] X.env = [(false, eval e X.env)]) (hs0 : NoStar X e) (ha : PE X e (tO G W (ev C ma))) :
    PI X (.Tuple elts kk tpos) (.Call (.Name "enumerate" p) [e] [] pos) (tI G W .enum (fun x y => refs x ++ refs y) (ev C ma) (evN .nil (ev C .nil))) := by
  constructor
  intro pins s σ H R I ⟨M, h, ρ, er, hr, g⟩
  have hP : PA X [e] (tR G W (evr C [ma])) := argr_cons hs0 ha argr_nil
  have g' : Got G (fun c d H' => W c d σ H') M H (evr C [ma] ρ h) fun ds M1 h1 H1 => ∃ d, ds = [d] ∧ ∃ xs, itemsOf d h1 = some xs ∧ ∀ J, WalkJ G M1 h1 H1 J (refs d ++ refs .non) (xs.zipIdx.map fun p => .tup [.int p.2, p.1]) → R J H1 := by
    rw [evr]
    cases o : ev C ma ρ h with
    | bad => rw [o] at g; exact g.elim
    | exc c h1 => rw [o] at g; exact g
    | ok d h1 =>
      rw [o] at g
      rw [Out.bd, evr, Out.bd]
      have g : Got G (fun c d H' => W c d σ H') M H (ofO ((walkV .enum d .non h1).map fun ds => (d, D.non, ds)) h1) fun p M' h' H' => ∀ J, WalkJ G M' h' H' J (refs p.1 ++ refs p.2.1) p.2.2 → R J H' := g
      obtain ⟨z, ez, q⟩ := g.ofO
      obtain ⟨ds, e1, rfl⟩ := mapO ez
      obtain ⟨xs, e2, rfl⟩ := mapO (show (itemsOf d h1).map (fun xs => xs.zipIdx.map fun p => D.tup [.int p.2, p.1]) = some ds from e1)
      exact fun M' H' P => ⟨d, rfl, xs, e2, q M' H' P⟩
  refine Call_ (ld_blt I hg hm boot_enumerate (PyProof.Rows.callWith_type1 (thn (useR hP I er hr g') fun us s1 ⟨ds, M1, h1, H1, vs, I1, rv, P, x, d, ed, xs, e1, q⟩ => ?_) hs rfl))
  subst ed
  obtain ⟨v, w, rfl, xv, xw⟩ := x
  obtain rfl : w = [] := xw
  obtain ⟨k, rfl, st⟩ := src_of (as := refs d ++ refs .non) ck I1 P.hr xv e1 fun n hn => List.mem_append_left _ hn
  obtain ⟨ws, hw, _⟩ := st.2 M1 h1 H1 (Post.refl P.hr) (by simp [Mi.same])
  cases rv with
  | cons r rr =>
    cases rr
    rw [← ck.K] at hw
    exact beg_E I1 hw r (by rw [ck.K]; exact q _ (walk_enum st))
theorem wi_zip {e2 : Expr} {elts : List Expr} {kk : Nat} {p tpos : Pos} (ck : Ck G X) (hg : Gl X "zip") (hm : X.mg "zip" = none) (hs : starEach [e, e2] X.env = (false, eval e X.env) :: starEach [e2] X.env) (hpl : (backTo pos (starEach [e2] X.env)).any (·.1) = false)
    (hs0 : NoStar X e) (hs1 : NoStar X e2) (ha : PE X e (tO G W (ev C ma))) (hb : PE X e2 (tO G W (ev C mb))) (hn : mb.isNil = false) :
    PI X (.Tuple elts kk tpos) (.Call (.Name "zip" p) [e, e2] [] pos) (tI G W .zip (fun x y => refs x ++ refs y) (ev C ma) (evN mb (ev C mb))) := by
  constructor
  intro pins s σ H R I ⟨M, h, ρ, er, hr, g⟩
  have hP : PA X [e, e2] (tR G W (evr C [ma, mb])) := argr_cons hs0 ha (argr_cons hs1 hb argr_nil)
  have g' : Got G (fun c d H' => W c d σ H') M H (evr C [ma, mb] ρ h) fun ds M1 h1 H1 => ∃ d d2, ds = [d, d2] ∧ ∃ xs ys, itemsOf d h1 = some xs ∧ itemsOf d2 h1 = some ys ∧ ∀ J, WalkJ G M1 h1 H1 J (refs d ++ refs d2) ((xs.zip ys).map fun p => .tup [p.1, p.2]) → R J H1 := by
    rw [evr]
    cases o : ev C ma ρ h with
    | bad => rw [o] at g; exact g.elim
    | exc c h1 => rw [o] at g; exact g
    | ok d h1 =>
      rw [o] at g
      rw [Out.bd, evr]
      simp only [Out.bd, evN, hn, if_neg Bool.false_ne_true] at g
      cases o2 : ev C mb ρ h1 with
      | bad => rw [o2] at g; exact g.elim
      | exc c h2 => rw [o2] at g; exact g
      | ok d2 h2 =>
        rw [o2] at g
        simp only [Out.bd, evr]
        have g : Got G (fun c d H' => W c d σ H') M H (ofO ((walkV .zip d d2 h2).map fun ds => (d, d2, ds)) h2) fun p M' h' H' => ∀ J, WalkJ G M' h' H' J (refs p.1 ++ refs p.2.1) p.2.2 → R J H' := g
        obtain ⟨z, ez, q⟩ := g.ofO
        obtain ⟨ds, e1, rfl⟩ := mapO ez
        have e1 : ((itemsOf d h2).bind fun xs => (itemsOf d2 h2).map fun ys => (xs.zip ys).map fun p => D.tup [p.1, p.2]) = some ds := e1
        cases f1 : itemsOf d h2 with
        | none => rw [f1] at e1; cases e1
        | some xs =>
          rw [f1] at e1
          obtain ⟨ys, f2, rfl⟩ := mapO (show (itemsOf d2 h2).map (fun ys => (xs.zip ys).map fun p => D.tup [p.1, p.2]) = some ds from e1)
          exact fun M' H' P => ⟨d, d2, rfl, xs, ys, f1, f2, q M' H' P⟩
  refine Call_ (ld_blt I hg hm PyProof.Rows.boot_zip (PyProof.Rows.callWith_type1 (thn (useR hP I er hr g') fun us s1 ⟨ds, M1, h1, H1, vs, I1, rv, P, x, d, d2, ed, xs, ys, e1, e2, q⟩ => ?_) hs hpl))
  subst ed
  obtain ⟨v, w, rfl, xv, v2, w2, rfl, xv2, xw⟩ := x
  obtain rfl : w2 = [] := xw
  obtain ⟨k1, rfl, st1⟩ := src_of (as := refs d ++ refs d2) ck I1 P.hr xv e1 fun n hn => List.mem_append_left _ hn
  obtain ⟨k2, rfl, st2⟩ := src_of (as := refs d ++ refs d2) ck I1 P.hr xv2 e2 fun n hn => List.mem_append_right _ hn
  obtain ⟨ws, hw, _⟩ := st1.2 M1 h1 H1 (Post.refl P.hr) (by simp [Mi.same])
  obtain ⟨ws2, hw2, _⟩ := st2.2 M1 h1 H1 (Post.refl P.hr) (by simp [Mi.same])
  cases rv with
  | cons r rr =>
    cases rr with
    | cons r' rr =>
      cases rr
      rw [← ck.K] at hw hw2
      exact beg_Z I1 hw hw2 r r' (by rw [ck.K]; exact q _ (walk_zip st1 st2))
theorem wi_rng2 {e2 : Expr} {p : Pos} (hg : Gl X "range") (hm : X.mg "range" = none) (hs : starEach [e, e2] X.env = [(false, eval e X.env), (false, eval e2 X.env)]) (hs2 : starEach [e2] X.env = [(false, eval e2 X.env)])
    (hs0 : NoStar X e) (hs1 : NoStar X e2) (ha : PE X e (tO G W (ev C ma))) (hb : PE X e2 (tO G W (ev C mb))) (hn : mb.isNil = false) :
    PI X tg (.Call (.Name "range" p) [e, e2] [] pos) (tI G W .rng2 (fun x y => refs x ++ refs y) (ev C ma) (evN mb (ev C mb))) := by
  constructor
  intro pins s σ H R I ⟨M, h, ρ, er, hr, g⟩
  have hP : PA X [e, e2] (tR G W (evr C [ma, mb])) := argr_cons hs0 ha (argr_cons hs1 hb argr_nil)
  refine (pi_range2 hg hm hP hs hs2).run pins s σ H R I ⟨M, h, ρ, er, hr, ?_⟩
  rw [evr]
  cases o : ev C ma ρ h with
  | bad => rw [o] at g; exact g.elim
  | exc c h1 => rw [o] at g; exact g
  | ok d h1 =>
    rw [o] at g
    rw [Out.bd, evr]
    simp only [Out.bd, evN, hn, if_neg Bool.false_ne_true] at g
    cases o2 : ev C mb ρ h1 with
    | bad => rw [o2] at g; exact g.elim
    | exc c h2 => rw [o2] at g; exact g
    | ok d2 h2 =>
      rw [o2] at g
      simp only [Out.bd, evr]
      have g : Got G (fun c d H' => W c d σ H') M H (ofO ((walkV .rng2 d d2 h2).map fun ds => (d, d2, ds)) h2) fun p M' h' H' => ∀ J, WalkJ G M' h' H' J (refs p.1 ++ refs p.2.1) p.2.2 → R J H' := g
      obtain ⟨z, ez, q⟩ := g.ofO
      obtain ⟨ds, e1, rfl⟩ := mapO ez
      cases d with
      | int a =>
        cases d2 with
        | int b =>
          obtain ⟨hc, rfl⟩ := ite_some (show (if (-4611686018427387904 ≤ a ∧ a ≤ 16777216) ∧ (-4611686018427387904 ≤ b ∧ b ≤ 16777216) ∧ b - a ≤ 16777216 then some ((List.range (b - a).toNat).map fun (i : Nat) => D.int (a + (i : Int))) else none) = some ds from e1)
          intro M' H' P vs x
          obtain ⟨v, w, rfl, xv, v2, w2, rfl, xv2, xw⟩ := x
          obtain rfl : v = .int a := xv
          obtain rfl : v2 = .int b := xv2
          obtain rfl : w2 = [] := xw
          exact ⟨a, b, rfl, ⟨by omega, by omega, by omega, by omega⟩, q M' H' P _ (walk_rng (by omega))⟩
        | _ => cases e1
      | _ => cases e1
end
end Mi

/-! targets, comprehensions -/
namespace Mi
open PySem PySem.Spec PyProof.Rows L2

/-- the slots of a target -/
def Tg.slots : Tg → List Nat
  | .v i => [i]
  | .t is => is
section
variable {G : Gd} {M M' M1 : List Addr} {H H' H1 : AH} {h h' h1 : Hp} {W : WX} {X : Cx} {e a b c tg : Expr} {m ma mb mc : E} {pins : List (Addr × Obj)} {s : Shared} {σ σ' : L2.St} {ρ ρ' : Env} {pos : Pos} {C : Ctx}

theorem EnvR.set {i : Nat} {d : D} {v : V} (er : EnvR G M H ρ σ) (x : DR G M H d v) : EnvR G M H (ρ.set i (some d)) (σ.set i (some v)) := by
  refine ⟨by rw [List.length_set, List.length_set]; exact er.1, fun j d' e => ?_⟩
  by_cases hj : i = j
  · subst hj
    by_cases hl : i < ρ.length
    · rw [List.getElem?_set_self hl] at e
      cases e
      exact ⟨v, List.getElem?_set_self (by rw [← er.1]; exact hl), x⟩
    · rw [List.getElem?_eq_none (by rw [List.length_set]; omega)] at e
      cases e
  · rw [List.getElem?_set_ne hj] at e ⊢
    exact er.2 j d' e
theorem wipe_set {i : Nat} {x : Option V} : ∀ {vs : List Nat} {σ : L2.St}, i ∈ vs → L2.wipe (σ.set i x) vs = L2.wipe σ vs
  | [], _, e => nomatch e
  | v :: vs, σ, e => by
    show (L2.wipe (σ.set i x) vs).set v none = (L2.wipe σ vs).set v none
    by_cases hi : i ∈ vs
    · rw [wipe_set hi]
    · have hv : i = v := by
        rcases List.mem_cons.mp e with z | z
        · exact z
        · exact absurd z hi
      subst hv
      have out : ∀ {vs : List Nat}, i ∉ vs → L2.wipe (σ.set i x) vs = (L2.wipe σ vs).set i x := fun {vs} => by
        induction vs with
        | nil => intro _; rfl
        | cons w ws ih =>
          intro hn
          show (L2.wipe (σ.set i x) ws).set w none = ((L2.wipe σ ws).set w none).set i x
          rw [ih fun z => hn (List.mem_cons_of_mem _ z), List.set_comm _ _ (fun z : i = w => hn (by rw [z]; exact List.mem_cons_self))]
      rw [out hi, List.set_set]
/-- the slots of names one after another -/
def bindS : List Nat → List V → L2.St → Option L2.St
  | [], [], σ => some σ
  | i :: is, v :: vs, σ => bindS is vs (σ.set i (some v))
  | _, _, _ => none
theorem bind_rel : ∀ {is : List Nat} {ds : List D} {vs : List V} {ρ ρ' : Env} {σ : L2.St}, bind1 is ds ρ = some ρ' → DRs G M H ds vs → EnvR G M H ρ σ →
    ∃ σ', bindS is vs σ = some σ' ∧ EnvR G M H ρ' σ' ∧ ∀ ws, (∀ i ∈ is, i ∈ ws) → L2.wipe σ' ws = L2.wipe σ ws
  | [], [], vs, ρ, ρ', σ, e, x, er => by
    cases e
    rw [show vs = [] from x]
    exact ⟨σ, rfl, er, fun _ _ => rfl⟩
  | [], _ :: _, _, _, _, _, e, _, _ => by cases e
  | _ :: _, [], _, _, _, _, e, _, _ => by cases e
  | i :: is, d :: ds, vs, ρ, ρ', σ, e, x, er => by
    obtain ⟨v, ws, rfl, x1, x2⟩ := x
    obtain ⟨σ', e1, e2, e3⟩ := bind_rel (show bind1 is ds (ρ.set i (some d)) = some ρ' from e) x2 (er.set x1)
    refine ⟨σ', e1, e2, fun zs hz => ?_⟩
    rw [e3 zs fun j hj => hz j (List.mem_cons_of_mem _ hj), wipe_set (hz i List.mem_cons_self)]
/-- a target's reading -/
def tG (G : Gd) (t : Tg) : TG := fun v σ H Q => ∃ M h ρ d ρ', EnvR G M H ρ σ ∧ HR G M h H ∧ DR G M H d v ∧ bindT t d ρ h = some ρ' ∧ ∀ σ', EnvR G M H ρ' σ' → (∀ ws, (∀ i ∈ t.slots, i ∈ ws) → L2.wipe σ' ws = L2.wipe σ ws) → Q σ' H
/-- the names of a target -/
def NmOk (X : Cx) (i : Nat) (x : Str) : Prop := X.N[i]? = some x ∧ Loc X.env.scope x ∧ (X.fn x = true ∨ X.env.scope.names.lookup x = some .local)
theorem t_name {i : Nat} {x : Str} (ck : Ck G X) (nm : NmOk X i x) : PG X (.Name x pos) (tG G (.v i)) := by
  constructor
  intro pins s σ H v u Q I r ⟨M, h, ρ, d, ρ', er, hr, dr, e, q⟩
  refine (pg_name ck.nd nm.1 nm.2.1 nm.2.2).run pins s σ H v u Q I r ?_
  cases e
  exact q _ (er.set dr) fun ws hw => wipe_set (hw i List.mem_cons_self)
/-- names, one after another, as targets -/
def gNs : List Nat → TGs
  | [] => gNil
  | i :: is => gCons (gName i) (gNs is)
theorem gNs_of : ∀ {is : List Nat} {vs : List V} {σ σ' : L2.St} {H : AH} {Q : L2.St → AH → Prop}, bindS is vs σ = some σ' → Q σ' H → gNs is vs σ H Q
  | [], [], _, _, _, _, e, q => by cases e; exact ⟨rfl, q⟩
  | [], _ :: _, _, _, _, _, e, _ => by cases e
  | _ :: _, [], _, _, _, _, e, _ => by cases e
  | i :: is, v :: vs, σ, σ', H, Q, e, q => ⟨v, vs, rfl, gNs_of (is := is) (show bindS is vs (σ.set i (some v)) = some σ' from e) q⟩
theorem bindS_len : ∀ {is : List Nat} {vs : List V} {σ σ' : L2.St}, bindS is vs σ = some σ' → vs.length = is.length
  | [], [], _, _, _ => rfl
  | [], _ :: _, _, _, e => by cases e
  | _ :: _, [], _, _, e => by cases e
  | i :: is, v :: vs, σ, σ', e => by
    rw [List.length_cons, List.length_cons, bindS_len (show bindS is vs (σ.set i (some v)) = some σ' from e)]
theorem t_tup {k : Nat} {es : List Expr} {is : List Nat} (ck : Ck G X) (hp : PGs X es (gNs is)) (hn : (assignEach es X.env).length = is.length) (hst : (assignEach es X.env).findIdx? (·.1) = none) : PG X (.Tuple es k pos) (tG G (.t is)) := by
  constructor
  intro pins s σ H v u Q I r ⟨M, h, ρ, d, ρ', er, hr, dr, e, q⟩
  obtain ⟨xs, e1, e2⟩ := bindO (show (seqOf d h).bind (fun xs => bind1 is xs ρ) = some ρ' from e)
  obtain ⟨l, vs, rfl, hl, wl⟩ := dr.vr.seq hr e1
  obtain ⟨σ', b1, b2, b3⟩ := bind_rel e2 wl er
  have go : gNs is vs σ H Q := gNs_of b1 (q σ' b2 b3)
  rcases hl with hl | hl
  · exact (pg_lst (n := is.length) ck.calm hp hn hst).run pins s σ H _ u Q I r ⟨l, vs, rfl, by rw [ck.K]; exact hl, bindS_len b1, go⟩
  · exact (pg_tup (n := is.length) ck.calm hp hn hst).run pins s σ H _ u Q I r ⟨l, vs, rfl, by rw [ck.K]; exact hl, bindS_len b1, go⟩

/-! ### comprehensions -/
theorem wipe_mini : ∀ (own : List Nat) (ρ : Env) (i : Nat) (d : D), (Mi.wipe own ρ)[i]? = some (some d) → ρ[i]? = some (some d) ∧ i ∉ own
  | [], _, _, _, e => ⟨e, by simp⟩
  | o :: own, ρ, i, d, e => by
    have e : (Mi.wipe own (ρ.set o none))[i]? = some (some d) := e
    obtain ⟨e1, e2⟩ := wipe_mini own _ i d e
    by_cases ho : o = i
    · subst ho
      by_cases hl : o < ρ.length
      · rw [List.getElem?_set_self hl] at e1; cases e1
      · rw [List.getElem?_eq_none (by rw [List.length_set]; omega)] at e1; cases e1
    · rw [List.getElem?_set_ne ho] at e1
      exact ⟨e1, fun z => (List.mem_cons.mp z).elim (fun w => ho w.symm) e2⟩
theorem wipe_mlen : ∀ (own : List Nat) (ρ : Env), (Mi.wipe own ρ).length = ρ.length
  | [], _ => rfl
  | o :: own, ρ => by
    show (Mi.wipe own (ρ.set o none)).length = _
    rw [wipe_mlen own, List.length_set]
theorem EnvR.wipe {own : List Nat} (er : EnvR G M H ρ σ) : EnvR G M H (Mi.wipe own ρ) (L2.wipe σ own) := by
  refine ⟨by rw [wipe_mlen, wipe_length]; exact er.1, fun i d e => ?_⟩
  obtain ⟨e1, e2⟩ := wipe_mini own ρ i d e
  obtain ⟨v, e3, x⟩ := er.2 i d e1
  exact ⟨v, by rw [wipe_out e2]; exact e3, x⟩
/-- nothing is wished of exceptions -/
abbrev W0 : WX := fun _ _ _ _ => False
theorem Got.calm {α : Type} {W' : XK} {x : Out α} {k : α → List Addr → Hp → AH → Prop} (g : Got G W' M H x.calm k) : Got G (fun _ _ _ => False) M H x k := by
  cases x with
  | ok a h' => exact g
  | exc c h' => exact g.elim
  | bad => exact g
theorem wipe_idem {vs : List Nat} : L2.wipe (L2.wipe σ vs) vs = L2.wipe σ vs := by
  have key : ∀ us : List Nat, (∀ i ∈ us, i ∈ vs) → L2.wipe (L2.wipe σ us) vs = L2.wipe σ vs := by
    intro us
    induction us with
    | nil => intro _; rfl
    | cons u us ih =>
      intro hu
      show L2.wipe ((L2.wipe σ us).set u none) vs = _
      rw [wipe_set (hu u List.mem_cons_self), ih fun i hi => hu i (List.mem_cons_of_mem _ hi)]
  exact key vs fun _ h => h
/-- what is left of a comprehension: acc is made -/
def compR (C : Ctx) (t : Tg) (ρ : Env) (h1 : Hp) (as : List Nat) (mc mo : E) (acc ds : List D) (h' : Hp) : Out D :=
  (compL (compT t ρ h1 as (fun ρ1 h => ev C mc ρ1 h) (fun ρ1 h => ev C mo ρ1 h)) ds h').bd fun rs h3 => if same as h1 h3 then .ok (.lst (acc ++ rs)) h3 else .bad
def optL : Option D → List D
  | some x => [x]
  | none => []
theorem compR_cons {t : Tg} {as : List Nat} {acc ds : List D} {d : D} : compR C t ρ h1 as mc mb acc (d :: ds) h' = (compT t ρ h1 as (fun ρ1 h => ev C mc ρ1 h) (fun ρ1 h => ev C mb ρ1 h) d h').bd fun r h4 => compR C t ρ h1 as mc mb (acc ++ optL r) ds h4 := by
  unfold compR
  rw [compL, bd_assoc]
  congr 1
  funext r h4
  rw [bd_assoc]
  congr 1
  funext rs h5
  cases r with
  | none => simp [Out.bd, optL]
  | some x => simp [Out.bd, optL]
theorem Got.tests {W' : XK} {k : D → List Addr → Hp → AH → Prop} {x : Out D} {y : Hp → Out (Option D)} {f : Option D → Hp → Out D} (g : Got G W' M H ((x.bd fun b h1 => (match truth b h1 with
    | some true => y h1
    | some false => .ok none h1
    | none => .bad)).bd f) k) : Got G W' M H (x.bd fun x h1 => Mi.ofO (truth x h1) h1) fun b _ h1 _ => Got G W' M H ((if b = true then y h1 else .ok none h1).bd f) k := by
  cases x with
  | bad => exact g.elim
  | exc c h' => exact g
  | ok d h1 =>
    have g : Got G W' M H (Out.bd (match truth d h1 with
      | some true => y h1
      | some false => .ok none h1
      | none => .bad) f) k := g
    show Got G W' M H (Mi.ofO (truth d h1) h1) _
    cases t : truth d h1 with
    | none => rw [t] at g; exact g.elim
    | some b =>
      rw [t] at g
      intro M' H' p
      cases b with
      | true => exact g
      | false => exact g
/-- the source of a comprehension -/
theorem comp_src {own : List Nat} {t : Tg} {k : IK} {Q : VK} {mo : E} {W' : XK} (hr : HR G M h H) (g : Got G W' M H (ev C (.comp own t k ma mb mc mo) ρ h) fun d M' _ H' => ∀ v, RD G M' H H' d v → Q v H') :
    Got G W' M H ((ev C ma ρ h).bd fun x h1 => (evN mb (ev C mb) ρ h1).bd fun y h2 => ofO ((walkV k x y h2).map fun ds => (x, y, ds)) h2) fun p M1 h1 H1 =>
      Got G (fun _ _ _ => False) M1 H1 (compR C t (Mi.wipe own ρ) h1 (refs p.1 ++ refs p.2.1) mc mo [] p.2.2 h1) fun d M' _ H' => ∀ v, RD G M' H H' d v → Q v H' := by
  rw [ev] at g
  cases o1 : ev C ma ρ h with
  | bad => rw [o1] at g; exact g.elim
  | exc c h' => rw [o1] at g; exact g
  | ok x h1 =>
    rw [o1, Out.bd] at g
    rw [Out.bd]
    cases o2 : evN mb (ev C mb) ρ h1 with
    | bad => rw [o2] at g; exact g.elim
    | exc c h' => rw [o2] at g; exact g
    | ok y h2 =>
      rw [o2, Out.bd] at g
      rw [Out.bd]
      cases o3 : walkV k x y h2 with
      | none => rw [o3] at g; exact g.elim
      | some ds =>
        rw [o3] at g
        intro M1 H1 p
        exact Got.from hr p g.calm
/-- the reading of a comprehension -/
theorem comp_read {k : IK} {own : List Nat} {t : Tg} {mo : E} (hsl : ∀ i ∈ t.slots, i ∈ own) (σ : L2.St) (H : AH) (Q : VK) (red : tO G W (ev C (.comp own t k ma mb mc mo)) σ H Q) :
    tLc (tI G W k (fun x y => refs x ++ refs y) (ev C ma) (evN mb (ev C mb))) (tG G t) (tT G W0 (cnd C mc)) (tO G W0 (ev C mo)) own σ H Q := by
  obtain ⟨M, h, ρ, er, hr, g⟩ := red
  refine ⟨M, h, ρ, er, hr, (comp_src hr g).imp fun p M1 h1 H1 P1 g1 J wj => ?_⟩
  obtain ⟨x, y, ds⟩ := p
  intro Dn hD
  obtain ⟨lb, wj⟩ := wj
  refine ⟨fun i n H' => n = ds.length - i ∧ i ≤ ds.length ∧ ∃ M' h' acc vs, Post G M1 H1 M' h' H' ∧ Dn ∉ M' ∧ H' Dn = some (.lst vs) ∧ DRs G M' H' acc vs ∧ acc.length ≤ i ∧
      Got G (fun _ _ _ => False) M1 H1 (compR C t (Mi.wipe own ρ) h1 (refs x ++ refs y) mc mo acc (ds.drop i) h') fun d M' _ H' => ∀ v, RD G M' H H' d v → Q v H',
    ⟨ds.length, rfl, Nat.zero_le _, M1, h1, [], [], Post.lay P1.hr hD, P1.hr.nmem hD, upd_same, rfl, Nat.le_refl _, g1⟩, ?_⟩
  rintro i n H' ⟨rfl, hi, M', h', acc, vs, P, nM, eD, dr, hacc, g2⟩
  by_cases hsm : same (refs x ++ refs y) h1 h' = true
  · by_cases hlt : i < ds.length
    · -- a turn
      refine .inr ⟨((wj i M' h' H' P hsm).2 hlt).1, fun H3 => ∃ M3 h3 acc3 vs3, Post G M1 H1 M3 h3 H3 ∧ Dn ∉ M3 ∧ H3 Dn = some (.lst vs3) ∧ DRs G M3 H3 acc3 vs3 ∧ acc3.length ≤ i + 1 ∧
        Got G (fun _ _ _ => False) M1 H1 (compR C t (Mi.wipe own ρ) h1 (refs x ++ refs y) mc mo acc3 (ds.drop (i + 1)) h3) fun d M' _ H' => ∀ v, RD G M' H H' d v → Q v H', fun H3 q => ⟨ds.length - (i + 1), by omega, rfl, hlt, q⟩, fun xv H2 yl => ?_⟩
      obtain ⟨d, ed, P2, dx⟩ := ((wj i M' h' H' P hsm).2 hlt).2 xv H2 yl
      have edr : ds.drop i = d :: ds.drop (i + 1) := by
        rw [List.drop_eq_getElem_cons hlt]
        rw [List.getElem?_eq_getElem hlt] at ed
        cases ed
        rfl
      rw [edr, compR_cons] at g2
      unfold compT at g2
      rw [if_pos hsm] at g2
      cases eb : bindT t d (Mi.wipe own ρ) h' with
      | none => rw [eb] at g2; exact g2.elim
      | some ρ1 =>
        rw [eb] at g2
        have Pm := P.trans P1.hr P2
        have erw : EnvR G M' H2 (Mi.wipe own ρ) (L2.wipe σ own) := ((((er.mono hr P1).mono P1.hr P).mono P.hr P2)).wipe
        have eD2 : H2 Dn = some (.lst vs) := P2.keep _ _ nM eD
        refine ⟨M', h', _, d, ρ1, erw, P2.hr, dx, eb, fun σ2 er2 hw => ⟨by rw [hw _ hsl, wipe_idem], ?_⟩⟩
        have g5 := Got.from P1.hr Pm (Got.tests g2)
        refine ⟨M', h', ρ1, er2, P2.hr, g5.imp fun b M4 h4 H4 P4 g6 => ?_⟩
        have eD4 : H4 Dn = some (.lst vs) := P4.keep _ _ nM eD2
        have nM4 : Dn ∉ M4 := fun z => by rw [P4.new nM z] at eD2; cases eD2
        have Pm4 := Pm.trans P1.hr P4
        cases b with
        | false =>
          rw [if_neg Bool.false_ne_true] at g6
          refine iteF ?_
          have g6 : Got G (fun _ _ _ => False) M1 H1 (compR C t (Mi.wipe own ρ) h1 (refs x ++ refs y) mc mo (acc ++ []) (ds.drop (i + 1)) h4) fun d M' _ H' => ∀ v, RD G M' H H' d v → Q v H' := g6
          rw [List.append_nil] at g6
          exact ⟨M4, h4, acc, vs, Pm4, nM4, eD4, (dr.mono P.hr P2).mono P2.hr P4, by omega, g6⟩
        | true =>
          rw [if_pos rfl] at g6
          refine iteT ?_
          rw [bd_assoc] at g6
          refine ⟨M4, h4, ρ1, er2.mono P2.hr P4, P4.hr, (Got.from P1.hr Pm4 (Got.bd0 g6)).imp fun z M5 h5 H5 P5 g7 v zr => ?_⟩
          have eD5 : H5 Dn = some (.lst vs) := P5.keep _ _ nM4 eD4
          obtain ⟨M6, P6, zd, _⟩ := P5.sto zr
          have nM6 : Dn ∉ M6 := fun z => by rw [P6.new nM4 z] at eD4; cases eD4
          have Pm6 := Pm4.trans P1.hr P6
          have dr6 := ((dr.mono P.hr P2).mono P2.hr P4).mono P4.hr P6
          obtain ⟨P7, kn⟩ := Pm6.own (ws := vs ++ [v]) hD nM6 eD5
          refine ⟨vs, eD5, by
            have lb' : ds.length ≤ 16777216 := lb
            have hlt' : i < ds.length := hlt
            rw [← dr.length, sz_eq]
            clear lb hlt
            omega, M6, _, acc ++ [(sto z h5).1], vs ++ [v], P7, nM6, upd_same, ?_, by rw [List.length_append, List.length_singleton]; omega, ?_⟩
          · exact (dr6.keeps P6.hr kn fun _ _ e => e).append (DRs.one (zd.keeps P6.hr kn fun _ _ e => e))
          · exact g7.2
    · -- the end
      refine .inl ⟨(wj i M' h' H' P hsm).1 (Nat.le_antisymm (Nat.le_of_not_lt hlt) hi), ?_⟩
      rw [List.drop_eq_nil_of_le (Nat.le_of_not_lt hlt)] at g2
      have g3 : Got G (fun _ _ _ => False) M1 H1 (if same (refs x ++ refs y) h1 h' = true then Out.ok (D.lst (acc ++ [])) h' else .bad) fun d M' _ H' => ∀ v, RD G M' H H' d v → Q v H' := g2
      rw [if_pos hsm, List.append_nil] at g3
      exact g3 M' H' P _ ⟨Dn, vs, rfl, P1.free hr hD, nM, eD, dr⟩
  · -- the places have changed: no run
    exfalso
    cases el : ds.drop i with
    | nil =>
      rw [el] at g2
      have g3 : Got G (fun _ _ _ => False) M1 H1 (if same (refs x ++ refs y) h1 h' = true then Out.ok (D.lst (acc ++ [])) h' else .bad) fun d M' _ H' => ∀ v, RD G M' H H' d v → Q v H' := g2
      rw [if_neg hsm] at g3
      exact g3
    | cons d r =>
      rw [el, compR_cons] at g2
      unfold compT at g2
      rw [if_neg hsm] at g2
      exact g2
end
end Mi

/-! statements -/
namespace Mi
open PySem PySem.Spec PyProof.Rows L2

/-- a statement's end, with the heap behind it -/
def GotF (G : Gd) (W : WX) (M : List Addr) (H : AH) (N : Ends) (x : Fl) : Prop := match x with
  | .nx ρ h' => ∀ M' H' σ', Post G M H M' h' H' → EnvR G M' H' ρ σ' → N.nx σ' H'
  | .bk ρ h' => ∀ M' H' σ', Post G M H M' h' H' → EnvR G M' H' ρ σ' → N.bk σ' H'
  | .ct ρ h' => ∀ M' H' σ', Post G M H M' h' H' → EnvR G M' H' ρ σ' → N.ct σ' H'
  | .rt d h' => ∀ M' H' v, Post G M H M' h' H' → RD G M' H H' d v → N.rt v H'
  | .ex c ρ h' => ∀ M' H' σ', Post G M H M' h' H' → EnvR G M' H' ρ σ' → W (.ref (G.cl c)) none σ' H'
  | .bad => False
/-- the reading of a statement run by Mini -/
def tS (G : Gd) (W : WX) (f : Env → Hp → Fl) : TS := fun N σ H => ∃ M h ρ, EnvR G M H ρ σ ∧ HR G M h H ∧ GotF G W M H N (f ρ h)

section
variable {G : Gd} {M M' M1 : List Addr} {H H' H1 : AH} {h h' h1 : Hp} {W : WX} {X : Cx} {e a b c tg : Expr} {m ma mb mc : E} {pins : List (Addr × Obj)} {s : Shared} {σ σ' : L2.St} {ρ ρ' : Env} {pos : Pos} {C : Ctx} {N : Ends} {st : Stmt} {ms : S} {sts body : List Stmt} {mss mbody : List S}

theorem GotF.from {x : Fl} (hr : HR G M h H) (p : Post G M H M1 h1 H1) (g : GotF G W M H N x) : GotF G W M1 H1 N x := by
  cases x with
  | nx ρ h' => exact fun M' H' σ' q => g M' H' σ' (p.trans hr q)
  | bk ρ h' => exact fun M' H' σ' q => g M' H' σ' (p.trans hr q)
  | ct ρ h' => exact fun M' H' σ' q => g M' H' σ' (p.trans hr q)
  | ex c ρ h' => exact fun M' H' σ' q => g M' H' σ' (p.trans hr q)
  | rt d h' => exact fun M' H' v q x => g M' H' v (p.trans hr q) (x.back hr p)
  | bad => exact g
theorem GotF.fl {α : Type} {x : Out α} {f : α → Hp → Fl} (hr : HR G M h H) (er : EnvR G M H ρ σ) (g : GotF G W M H N (x.fl ρ f)) : Got G (fun c d H' => W c d σ H') M H x fun a _ h1 _ => x = .ok a h1 ∧ GotF G W M H N (f a h1) := by
  cases x with
  | ok a h' => exact fun M' H' q => ⟨rfl, g⟩
  | exc c h' => exact fun M' H' q => g M' H' σ q (er.mono hr q)
  | bad => exact g
/-- .. told from an earlier state -/
theorem GotF.fl2 {α : Type} {x : Out α} {f : α → Hp → Fl} (hr : HR G M h H) (p : Post G M H M' h' H') (er : EnvR G M' H' ρ σ) (g : GotF G W M H N (x.fl ρ f)) : Got G (fun c d H' => W c d σ H') M' H' x fun a _ h1 _ => GotF G W M H N (f a h1) := by
  cases x with
  | ok a h2 => exact fun M2 H2 q => g
  | exc c h2 => exact fun M2 H2 q => g M2 H2 σ (p.trans hr q) (er.mono p.hr q)
  | bad => exact g
/-- what follows a statement -/
def nxt (G : Gd) (W : WX) (M : List Addr) (H : AH) (N : Ends) (f : Env → Hp → Fl) : L2.St → AH → Prop := fun σ' H' => ∃ M' h' ρ', Post G M H M' h' H' ∧ EnvR G M' H' ρ' σ' ∧ GotF G W M H N (f ρ' h')
theorem GotF.sq {x : Fl} {f : Env → Hp → Fl} (g : GotF G W M H N (x.sq f)) : GotF G W M H { N with nx := nxt G W M H N f } x := by
  cases x with
  | nx ρ h' => exact fun M' H' σ' q er => ⟨M', h', ρ, q, er, g⟩
  | _ => exact g
theorem GotF.turn {x : Fl} {f : Env → Hp → Fl} (g : GotF G W M H N (match x with
    | .nx ρ1 h1 => f ρ1 h1
    | .ct ρ1 h1 => f ρ1 h1
    | .bk ρ1 h1 => .nx ρ1 h1
    | r => r)) : GotF G W M H { N with nx := nxt G W M H N f, ct := nxt G W M H N f, bk := N.nx } x := by
  cases x with
  | nx ρ h' => exact fun M' H' σ' q er => ⟨M', h', ρ, q, er, g⟩
  | ct ρ h' => exact fun M' H' σ' q er => ⟨M', h', ρ, q, er, g⟩
  | _ => exact g

theorem s_nil : PSs X [] (tS G W (exs C [])) := by
  constructor
  intro pins s σ H N I ⟨M, h, ρ, er, hr, g⟩
  rw [exs] at g
  exact pss_nil.run pins s σ H N I (g M H σ (Post.refl hr) er)
theorem s_cons (h1 : PS X st (tS G W (ex C ms))) (h2 : PSs X sts (tS G W (exs C mss))) : PSs X (st :: sts) (tS G W (exs C (ms :: mss))) := by
  constructor
  intro pins s σ H N I ⟨M, h, ρ, er, hr, g⟩
  rw [exs] at g
  refine wpAny_execs_cons (thn (h1.run pins s σ H { N with nx := nxt G W M H N (exs C mss) } I ⟨M, h, ρ, er, hr, g.sq⟩) fun f s1 q => ?_)
  cases f with
  | next =>
    obtain ⟨σ', H', I', M', h', ρ', p, er', g'⟩ := q
    exact h2.run pins s1 σ' H' N I' ⟨M', h', ρ', er', p.hr, g'.from hr p⟩
  | ret v => exact q
  | brk => exact q
  | cont => exact q
theorem s_pass : PS X (.Pass pos) (tS G W (ex C .pass)) := ⟨fun pins s σ H N I ⟨M, h, ρ, er, hr, g⟩ => ps_pass.run pins s σ H N I (g M H σ (Post.refl hr) er)⟩
theorem s_brk : PS X (.Break pos) (tS G W (ex C .brk)) := ⟨fun pins s σ H N I ⟨M, h, ρ, er, hr, g⟩ => ps_break.run pins s σ H N I (g M H σ (Post.refl hr) er)⟩
theorem s_cnt : PS X (.Continue pos) (tS G W (ex C .cnt)) := ⟨fun pins s σ H N I ⟨M, h, ρ, er, hr, g⟩ => ps_continue.run pins s σ H N I (g M H σ (Post.refl hr) er)⟩
theorem s_ex (he : PE X e (tO G W (ev C m))) (hs : swapsWith e none pos.line X.env = pure false) : PS X (.Expr e pos) (tS G W (ex C (.ex m))) :=
  ⟨fun pins s σ H N I ⟨M, h, ρ, er, hr, g⟩ => (ps_expr he hs).run pins s σ H N I ⟨M, h, ρ, er, hr, (GotF.fl hr er g).imp fun d M1 h1 H1 p g1 v x => g1.2 M1 H1 σ p (er.mono hr p)⟩⟩
theorem s_ret (he : PE X e (tO G W (ev C m))) : PS X (.Return (some e) pos) (tS G W (ex C (.ret m))) :=
  ⟨fun pins s σ H N I ⟨M, h, ρ, er, hr, g⟩ => (ps_ret he).run pins s σ H N I ⟨M, h, ρ, er, hr, (GotF.fl hr er g).imp fun d M1 h1 H1 p g1 v x => g1.2 M1 H1 v p x⟩⟩
theorem s_ite {sa sb : List Stmt} {ka kb : List S} (hc : PT X c (tT G W (cnd C mc))) (ha : PSs X sa (tS G W (exs C ka))) (hb : PSs X sb (tS G W (exs C kb))) : PS X (.If c sa sb pos) (tS G W (ex C (.ite mc ka kb))) := by
  constructor
  intro pins s σ H N I ⟨M, h, ρ, er, hr, g⟩
  refine (ps_if hc ha hb).run pins s σ H N I ⟨M, h, ρ, er, hr, (GotF.fl hr er (show GotF G W M H N ((cnd C mc ρ h).fl ρ fun v h1 => if v = true then exs C ka ρ h1 else exs C kb ρ h1) from g)).imp fun k M1 h1 H1 p g1 => ?_⟩
  cases k with
  | true => exact iteT ⟨M1, h1, ρ, er.mono hr p, p.hr, g1.2.from hr p⟩
  | false => exact iteF ⟨M1, h1, ρ, er.mono hr p, p.hr, g1.2.from hr p⟩

/-! ### stores -/
/-- a value is stored by a target -/
theorem asg_got {t : Tg} {W' : WX} (hr : HR G M h H) (er : EnvR G M H ρ σ) (g : GotF G W M H N (ex C (.asg t m) ρ h)) : Got G (fun c d H' => W c d σ H') M H (ev C m ρ h) fun d M1 h1 H1 => ∀ v, RD G M1 H H1 d v → tG G t v σ H1 N.nx := by
  rw [ex] at g
  refine (GotF.fl hr er g).imp fun d M1 h1 H1 p g1 v x => ?_
  obtain ⟨_, g1⟩ := g1
  obtain ⟨M2, P, y, _⟩ := p.sto x
  cases eb : bindT t (sto d h1).1 ρ (sto d h1).2 with
  | none => rw [eb] at g1; exact g1.elim
  | some ρ1 =>
    rw [eb] at g1
    exact ⟨M2, _, ρ, _, ρ1, er.mono hr P, P.hr, y, eb, fun σ' er' _ => g1 M2 H1 σ' P er'⟩
theorem s_asg {t : Tg} (hg : PG X tg (tG G t)) (he : PE X e (tO G W (ev C m))) (hs : swapsWithSole [tg] e pos.line X.env = pure false) (hw : swappedStores [tg] e X.env = pure none) (h1 : (assignEach [tg] X.env).map (·.2) = [assign tg X.env]) :
    PS X (.Assign [tg] e pos) (tS G W (ex C (.asg t m))) :=
  ⟨fun pins s σ H N I ⟨M, h, ρ, er, hr, g⟩ => (ps_asg he hg hs hw h1).run pins s σ H N I ⟨M, h, ρ, er, hr, asg_got (W' := W) hr er g⟩⟩

/-! ### loops -/
theorem s_for {k : IK} {t : Tg} (ck : Ck G X) (hp : PassesOwn (model X.prog X.w) X.A X.env X.xe) (hi : PI X tg a (tI G W k (fun x y => refs x ++ refs y) (ev C ma) (evN mb (ev C mb)))) (hg : PG X tg (tG G t)) (hb : PSs X body (tS G W (exs C mbody)))
    (hs : ∀ x, foldedSetIterable a X.env x = pure x) : PS X (.For tg a body [] pos) (tS G W (ex C (.forr t k ma mb mbody))) := by
  constructor
  intro pins s σ H N I ⟨M, h, ρ, er, hr, g⟩
  refine (ps_for hp ck.calm hi hg hb hs).run pins s σ H N I ⟨M, h, ρ, er, hr, ?_⟩
  -- the source
  have src : Got G (fun c d H' => W c d σ H') M H ((ev C ma ρ h).bd fun x h1 => (evN mb (ev C mb) ρ h1).bd fun y h2 => ofO ((walkV k x y h2).map fun ds => (x, y, ds)) h2) fun p M1 h1 H1 =>
      GotF G W M H N (forL (fun d ρ1 h3 => (match bindT t d ρ1 h3 with
        | some ρ2 => exs C mbody ρ2 h3
        | none => .bad)) (same (refs p.1 ++ refs p.2.1) h1) p.2.2 ρ h1) := by
    rw [ex] at g
    cases o1 : ev C ma ρ h with
    | bad => rw [o1] at g; exact g.elim
    | exc c h' => rw [o1] at g; exact fun M' H' q => g M' H' σ q (er.mono hr q)
    | ok x h1 =>
      rw [o1, Out.fl] at g
      rw [Out.bd]
      cases o2 : evN mb (ev C mb) ρ h1 with
      | bad => rw [o2] at g; exact g.elim
      | exc c h' => rw [o2] at g; exact fun M' H' q => g M' H' σ q (er.mono hr q)
      | ok y h2 =>
        rw [o2, Out.fl] at g
        rw [Out.bd]
        cases o3 : walkV k x y h2 with
        | none => rw [o3] at g; exact g.elim
        | some ds =>
          rw [o3] at g
          exact fun M1 H1 p => g
  refine src.imp fun p M1 h1 H1 P1 g0 J wj => ?_
  obtain ⟨x, y, ds⟩ := p
  obtain ⟨_, wj⟩ := wj
  have g1 := g0.from hr P1
  refine ⟨fun i n σ' H' => n = ds.length - i ∧ i ≤ ds.length ∧ nxt G W M1 H1 N (fun ρ3 h3 => forL (fun d ρ1 h3 => (match bindT t d ρ1 h3 with
        | some ρ2 => exs C mbody ρ2 h3
        | none => .bad)) (same (refs x ++ refs y) h1) (ds.drop i) ρ3 h3) σ' H', ⟨ds.length, rfl, Nat.zero_le _, M1, h1, ρ, Post.refl P1.hr, er.mono hr P1, g1⟩, ?_⟩
  rintro i n σ' H' ⟨rfl, hi', M', h', ρ', P, er', g2⟩
  by_cases hsm : same (refs x ++ refs y) h1 h' = true
  · by_cases hlt : i < ds.length
    · refine .inr ⟨((wj i M' h' H' P hsm).2 hlt).1, nxt G W M1 H1 N (fun ρ3 h3 => forL (fun d ρ1 h3 => (match bindT t d ρ1 h3 with
        | some ρ2 => exs C mbody ρ2 h3
        | none => .bad)) (same (refs x ++ refs y) h1) (ds.drop (i + 1)) ρ3 h3), fun σ3 H3 q => ⟨ds.length - (i + 1), by
          have hlt' : i < ds.length := hlt
          clear wj hlt g0 src
          omega, rfl, hlt, q⟩, fun xv H2 yl => ?_⟩
      obtain ⟨d, ed, P2, dx⟩ := ((wj i M' h' H' P hsm).2 hlt).2 xv H2 yl
      have edr : ds.drop i = d :: ds.drop (i + 1) := by
        rw [List.drop_eq_getElem_cons hlt]
        rw [List.getElem?_eq_getElem hlt] at ed
        cases ed
        rfl
      simp only [edr, forL] at g2
      rw [if_pos hsm] at g2
      cases eb : bindT t d ρ' h' with
      | none => rw [eb] at g2; exact g2.elim
      | some ρ2 =>
        rw [eb] at g2
        exact ⟨M', h', ρ', d, ρ2, er'.mono P.hr P2, P2.hr, dx, eb, fun σ2 er2 _ => ⟨M', h', ρ2, er2, P2.hr, g2.turn.from P1.hr (P.trans P1.hr P2)⟩⟩
    · refine .inl ⟨(wj i M' h' H' P hsm).1 (Nat.le_antisymm (Nat.le_of_not_lt hlt) hi'), ?_⟩
      simp only [List.drop_eq_nil_of_le (Nat.le_of_not_lt hlt), forL] at g2
      rw [if_pos hsm] at g2
      exact g2 M' H' σ' P er'
  · exfalso
    cases el : ds.drop i with
    | nil =>
      simp only [el, forL] at g2
      rw [if_neg hsm] at g2
      exact g2
    | cons d r =>
      simp only [el, forL] at g2
      rw [if_neg hsm] at g2
      exact g2
theorem s_while (hp : PassesOwn (model X.prog X.w) X.A X.env X.xe) (hc : PT X c (tT G W (cnd C mc))) (hb : PSs X body (tS G W (exs C mbody))) : PS X (.While c body [] pos) (tS G W (ex C (.whil mc mbody))) := by
  constructor
  intro pins s σ H N I ⟨M, h, ρ, er, hr, g⟩
  refine (ps_while hp hc hb).run pins s σ H N I ⟨fun n => nxt G W M H N (fun ρ' h' => whileL (cnd C mc) (exs C mbody) n ρ' h'), ⟨turns, M, h, ρ, Post.refl hr, er, by rw [ex] at g; exact g⟩, ?_⟩
  rintro n σ' H' ⟨M', h', ρ', P, er', g2⟩
  cases n with
  | zero => exact g2.elim
  | succ n =>
    have g2 : GotF G W M H N ((cnd C mc ρ' h').fl ρ' fun b h1 => if b = true then (match exs C mbody ρ' h1 with
      | .nx ρ1 h2 => whileL (cnd C mc) (exs C mbody) n ρ1 h2
      | .ct ρ1 h2 => whileL (cnd C mc) (exs C mbody) n ρ1 h2
      | .bk ρ1 h2 => .nx ρ1 h2
      | r => r) else .nx ρ' h1) := g2
    refine ⟨M', h', ρ', er', P.hr, (Got.imp (GotF.fl2 hr P er' g2) fun b M1 h1 H1 p g4 => ?_)⟩
    have P1 := P.trans hr p
    cases b with
    | false =>
      refine iteF ?_
      rw [if_neg Bool.false_ne_true] at g4
      exact g4 M1 H1 σ' P1 (er'.mono P.hr p)
    | true =>
      rw [if_pos rfl] at g4
      exact iteT ⟨nxt G W M H N (fun ρ3 h3 => whileL (cnd C mc) (exs C mbody) n ρ3 h3), fun σ3 H3 q => ⟨n, Nat.lt_succ_self n, q⟩, M1, h1, ρ', er'.mono P.hr p, p.hr, g4.turn.from hr P1⟩

/-! ### raise -/
/-- a class of errors -/
structure ErrK (G : Gd) (X : Cx) (x : Str) (c : String) : Prop where
  g : X.mg x = some (.ref (G.cl c))
  q : PySem.W.excIn X.K (G.cl c) He.veBase "ValueError.__new__" = true
  kp : PySem.W.keepIn X.K (.ref (G.cl c)) = true
  s : PySem.W.subIn X.K (.ref (G.cl c)) (.type "BaseException") = some true
  t : PySem.W.typeIn X.K (.ref (G.cl c)) = some (.type "type")
theorem s_raise {x tx : Str} {cn : String} {p p2 q pos' : Pos} {j : Nat} (ck : Ck G X) (tk : Takes X W) (E : ErrK G X x cn) (hg : Gl X x) (hdb : (x == ("__debug__" : Str)) = false) :
    PS X (.Raise (some (.Call (.Name x p) [.Constant (.str tx) j p2] [] q)) none pos) (tS G W (ex C (.raise cn))) := by
  constructor
  intro pins s σ H N I ⟨M, h, ρ, er, hr, g⟩
  exact (ps_raise ck.calm tk (pmk_own PySem.F.excBase_ValueError E.q E.g E.kp (raises_own E.s E.t) hg hdb)).run pins s σ H N I (g M H σ (Post.refl hr) er)
end
end Mi

/-! functions -/
namespace Mi
open PySem PySem.Spec PyProof.Rows L2

section
variable {G : Gd} {M M' M1 : List Addr} {H H' H1 : AH} {h h' h1 : Hp}
theorem RD.cut {d : D} {v : V} (hr : HR G M h H) (p : Post G M H M' h' H') (x : RD G M' H H' d v) (b : below h.length d = true) : RD G M H H' d v := by
  obtain ⟨z, e, _⟩ := p.pre
  have tk : M'.take h.length = M := by rw [e, ← hr.len]; simp
  cases d with
  | lst xs =>
    obtain ⟨a, vs, e1, e2, e3, e4, e5⟩ := x
    refine ⟨a, vs, e1, e2, fun w => e3 (p.mem w), e4, ?_⟩
    rw [← tk]
    exact e5.cut b
  | _ =>
    rw [← tk]
    exact DR.cut x b
/-- behind a call: what Mini forgets is nobody's -/
theorem close_ok {d d2 : D} {v : V} {h2 : Hp} (hr : HR G M h H) (p : Post G M H M' h' H') (x : RD G M' H H' d v) (e : closeD h d h' = .ok d2 h2) : ∃ M2, Post G M H M2 h2 H' ∧ RD G M2 H H' d2 v := by
  unfold closeD at e
  by_cases c1 : h'.length = h.length
  · rw [if_pos c1] at e
    injection e with e1 e2
    subst e1 e2
    exact ⟨M', p, x⟩
  · rw [if_neg c1] at e
    by_cases c2 : gcOk h (trunc h.length h') = true
    · rw [if_pos c2] at e
      have P := Post.trunc hr p c2
      by_cases c3 : below h.length d = true
      · rw [if_pos c3] at e
        injection e with e1 e2
        subst e1 e2
        exact ⟨M, P, x.cut hr p c3⟩
      · rw [if_neg c3] at e
        cases d with
        | ref a =>
          cases g : get h' a with
          | none =>
            simp only [g] at e
            injection e with e1 e2
            subst e1 e2
            exact ⟨M', p, x⟩
          | some o =>
            cases o with
            | lst xs =>
              simp only [g] at e
              by_cases c4 : belows h.length xs = true
              · rw [if_pos c4] at e
                injection e with e1 e2
                subst e1 e2
                refine ⟨M, P, ?_⟩
                obtain ⟨b, hb, rfl⟩ := x
                obtain ⟨b', hb', vs, z, w⟩ := p.hr.obj a _ g
                rw [hb] at hb'; cases hb'
                have nb : b ∉ M := fun w => by
                  obtain ⟨i, hi⟩ := List.mem_iff_getElem?.mp w
                  have := p.hr.inj (p.at hi) hb
                  subst this
                  exact c3 (decide_eq_true (by rw [← hr.len]; exact (List.getElem?_eq_some_iff.mp hi).1))
                obtain ⟨zz, ez, hz⟩ := p.pre
                have tk : M'.take h.length = M := by rw [ez, ← hr.len]; simp
                refine ⟨b, vs, rfl, p.new nb (List.mem_of_getElem? hb), nb, z, ?_⟩
                rw [← tk]
                exact w.cut c4
              · rw [if_neg c4] at e
                injection e with e1 e2
                subst e1 e2
                exact ⟨M', p, x⟩
            | _ =>
              simp only [g] at e
              injection e with e1 e2
              subst e1 e2
              exact ⟨M', p, x⟩
        | _ =>
          injection e with e1 e2
          subst e1 e2
          exact ⟨M', p, x⟩
    · rw [if_neg c2] at e
      injection e with e1 e2
      subst e1 e2
      exact ⟨M', p, x⟩
theorem closeD_is {h : Hp} {d : D} {h' : Hp} : ∃ d2 h2, closeD h d h' = .ok d2 h2 := by
  unfold closeD
  split
  · exact ⟨_, _, rfl⟩
  · split
    · split
      · exact ⟨_, _, rfl⟩
      · split
        · split
          · split <;> exact ⟨_, _, rfl⟩
          · exact ⟨_, _, rfl⟩
        · exact ⟨_, _, rfl⟩
    · exact ⟨_, _, rfl⟩
/-- what a function's body has to reach -/
theorem body_got {E : XK} {Q : VK} {y : Fl} (hr : HR G M h H) (g : Got G E M H (close h (ends y)) fun d M' _ H' => ∀ v, RD G M' H H' d v → Q v H') :
    GotF G (fun c d _ H' => E c d H') M H { nx := fun _ H' => Q .non H', rt := Q } y := by
  have fin : ∀ {d : D} {h' : Hp}, Got G E M H (closeD h d h') (fun d M' _ H' => ∀ v, RD G M' H H' d v → Q v H') → ∀ M' H' v, Post G M H M' h' H' → RD G M' H H' d v → Q v H' := fun {d h'} g M' H' v p x => by
    obtain ⟨d2, h2, e⟩ := closeD_is (h := h) (d := d) (h' := h')
    rw [e] at g
    obtain ⟨M2, P, x2⟩ := close_ok hr p x e
    exact g M2 H' P v x2
  cases y with
  | nx ρ h' => exact fun M' H' _ p _ => fin g M' H' .non p rfl
  | rt d h' => exact fun M' H' v p x => fin g M' H' v p x
  | bk ρ h' => exact g.elim
  | ct ρ h' => exact g.elim
  | bad => exact g.elim
  | ex c ρ h' =>
    intro M' H' _ p _
    have g : Got G E M H (if h'.length = h.length then Out.exc c h' else if gcOk h (trunc h.length h') = true then .exc c (trunc h.length h') else .exc c h') fun d M' _ H' => ∀ v, RD G M' H H' d v → Q v H' := g
    by_cases c1 : h'.length = h.length
    · rw [if_pos c1] at g
      exact g M' H' p
    · rw [if_neg c1] at g
      by_cases c2 : gcOk h (trunc h.length h') = true
      · rw [if_pos c2] at g
        exact g M H' (Post.trunc hr p c2)
      · rw [if_neg c2] at g
        exact g M' H' p
theorem start_rel {N : List Str} {nl : Nat} : ∀ {ds : List D} {vs : List V}, DRs G M H ds vs → EnvR G M H (ds.map some ++ List.replicate nl none) (vs.map some ++ List.replicate nl none) := fun {ds vs} x => by
  refine ⟨by simp [x.length], fun i d e => ?_⟩
  by_cases hi : i < ds.length
  · rw [List.getElem?_append_left (by simpa using hi), List.getElem?_map] at e
    obtain ⟨d', e1, e2⟩ := Option.map_eq_some_iff.mp e
    cases e2
    obtain ⟨v, e3, y⟩ := x.get e1
    exact ⟨v, by rw [List.getElem?_append_left (by rw [List.length_map, ← x.length]; exact hi), List.getElem?_map, e3] <;> rfl, y⟩
  · rw [List.getElem?_append_right (by simpa using hi), List.getElem?_replicate] at e
    split at e <;> cases e
end
section
variable {P : Program} {w : World} {G : Gd} {mg : Str → Option Value} {base : Heap} {x qual : Str} {params : Arguments} {body : List Stmt} {scope : Scope} {f : Addr} {fd : FuncData}
/-- a function of the text keeps what Mini's run of it tells -/
theorem fn_ok {k n : Nat} {pr : Prog} {fn : String × String} {d : Fd} {N ps : List Str} (F : FunD G.K x qual params body scope [] [] f fd) (S : FnScope N ps scope) (hd : pr.fn fn = some d) (hp : d.np = ps.length) (hl : d.nl = N.length)
    (hb : ∀ (cdv : Value) (A : Around) (outer : List PySem.Env) (s : Shared) (H : AH) (E : XK), Room k (A.deeper (envOfC qual scope s.heap.objs.size f cdv)) →
      PSs (cxOf (L2.CX P w) P w G.K mg base N qual scope f cdv A outer s H E) body (tS G (fun c d _ H' => E c d H') (exs (ctx pr n) d.body))) :
    FnOk P w G.K mg base (L2.CX P w) (k + 1) f fd ps (spOf G (call pr (n + 1) fn)) := by
  have unf : ∀ ds h, call pr (n + 1) fn ds h = if ds.length = d.np then close h (ends (exs (ctx pr n) d.body (ds.map some ++ List.replicate (d.nl - d.np) none) h)) else .bad := fun ds h => by
    rw [call_succ, hd]
  refine F.ok S (fun vs H Q E h => ?_) (fun cdv A outer s H vs Q E hr h => ?_)
  · obtain ⟨M, mh, ds, r, x, g⟩ := h
    rw [unf] at g
    by_cases c : ds.length = d.np
    · rw [← x.length, c, hp]
    · rw [if_neg c] at g; exact g.elim
  · refine ⟨_, hb cdv A outer s H E hr, ?_⟩
    obtain ⟨M, mh, ds, r, x, g⟩ := h
    rw [unf] at g
    by_cases c : ds.length = d.np
    · rw [if_pos c] at g
      refine ⟨M, mh, _, ?_, r, body_got r g⟩
      have er := start_rel (N := N) (nl := d.nl - d.np) x
      unfold L2.start
      rw [← x.length, c, ← hl]
      exact er
    · rw [if_neg c] at g; exact g.elim
end
end Mi

/-! comprehensions as values and as stores; parallel stores -/
namespace Mi
open PySem PySem.Spec PyProof.Rows L2

section
variable {G : Gd} {M M' M1 : List Addr} {H H' H1 : AH} {h h' h1 : Hp} {W : WX} {X : Cx} {e a b c tg elt iter : Expr} {m ma mb mc mo : E} {pins : List (Addr × Obj)} {s : Shared} {σ σ' : L2.St} {ρ ρ' : Env} {pos : Pos} {C : Ctx}

/-- a block of X -/
abbrev blkOf (X : Cx) (scope : Scope) (s : Shared) (H : AH) (c : Addr) (cl : List (Str × Addr)) (fp : List Addr) : Cx := X.blk s H scope (compEnvC scope cl c X.env) fp
theorem Ck.blk (ck : Ck G X) {scope : Scope} {s : Shared} {H : AH} {c : Addr} {cl : List (Str × Addr)} {fp : List Addr} : Ck G (blkOf X scope s H c cl fp) := ⟨ck.K, ck.w, ck.calm, ck.un, ck.nd⟩
theorem takes0 {scope : Scope} {s : Shared} {H : AH} {c : Addr} {cl : List (Str × Addr)} {fp : List Addr} : Takes (blkOf X scope s H c cl fp) W0 := fun u s' ⟨a, B, sI, pins, σ, H, cls, d, e, I, nb, up, sky, na, os, ag, w⟩ => w.elim
theorem cond_none : PTs X [] (tT G W0 (cnd C (.bl true))) := by
  constructor
  intro pins s σ H Q I ⟨M, h, ρ, er, hr, g⟩
  exact pts_nil.run pins s σ H Q I (g M H (Post.refl hr))
theorem m_comp {k : IK} {own : List (Str × Nat)} {t : Tg} {ifs : List Expr} {scope : Scope} (ck : Ck G X) (hi : PI X tg iter (tI G W k (fun x y => refs x ++ refs y) (ev C ma) (evN mb (ev C mb)))) (ok : BlkOk X.N X.env.scope scope own)
    (hg : ∀ (s : Shared) (H : AH) (c : Addr) (cl : List (Str × Addr)) (fp : List Addr), PG (blkOf X scope s H c cl fp) tg (tG G t)) (ht : ∀ (s : Shared) (H : AH) (c : Addr) (cl : List (Str × Addr)) (fp : List Addr), PTs (blkOf X scope s H c cl fp) ifs (tT G W0 (cnd C mc)))
    (he : ∀ (s : Shared) (H : AH) (c : Addr) (cl : List (Str × Addr)) (fp : List Addr), PE (blkOf X scope s H c cl fp) elt (tO G W0 (ev C mo))) (hs : ∀ x, foldedSetIterable iter X.env x = pure x) (hsl : ∀ i ∈ t.slots, i ∈ own.map (·.2)) :
    PE X (.ListComp elt [⟨tg, iter, ifs, 0⟩] scope pos) (tO G W (ev C (.comp (own.map (·.2)) t k ma mb mc mo))) :=
  ⟨fun pins s σ H Q I g => (pe_lc ck.calm ck.nd hi ok hg ht he hs).run pins s σ H Q I (comp_read hsl σ H Q g)⟩
/-- name = [..] on one line -/
theorem s_setc {k : IK} {own : List (Str × Nat)} {t : Tg} {ifs : List Expr} {scope : Scope} {i : Nat} {y : Str} {py spos : Pos} (ck : Ck G X) (hy : X.N[i]? = some y) (hyl : X.env.scope.names.lookup y = some .local)
    (hsw : swapsWith (.ListComp elt [⟨tg, iter, ifs, 0⟩] scope pos) (some (.Name y py)) spos.line X.env = pure true) (hi : PI X tg iter (tI G W k (fun x y => refs x ++ refs y) (ev C ma) (evN mb (ev C mb)))) (ok : BlkOk X.N X.env.scope scope own)
    (hg : ∀ (s : Shared) (H : AH) (c : Addr) (cl : List (Str × Addr)) (fp : List Addr), PG (blkOf X scope s H c cl fp) tg (tG G t)) (ht : ∀ (s : Shared) (H : AH) (c : Addr) (cl : List (Str × Addr)) (fp : List Addr), PTs (blkOf X scope s H c cl fp) ifs (tT G W0 (cnd C mc)))
    (he : ∀ (s : Shared) (H : AH) (c : Addr) (cl : List (Str × Addr)) (fp : List Addr), PE (blkOf X scope s H c cl fp) elt (tO G W0 (ev C mo))) (hs : ∀ x, foldedSetIterable iter X.env x = pure x) (hsl : ∀ i ∈ t.slots, i ∈ own.map (·.2)) :
    PS X (.Assign [.Name y py] (.ListComp elt [⟨tg, iter, ifs, 0⟩] scope pos) spos) (tS G W (ex C (.asg (.v i) (.comp (own.map (·.2)) t k ma mb mc mo)))) := by
  constructor
  intro pins s σ H N I ⟨M, h, ρ, er, hr, g⟩
  refine (ps_setLc ck.calm ck.nd hy hyl hsw hi ok hg ht he hs).run pins s σ H N I (comp_read hsl σ H _ ⟨M, h, ρ, er, hr, (asg_got (W' := W) hr er g).imp fun d M1 h1 H1 p q v x => ?_⟩)
  obtain ⟨M2, h2, ρ2, d2, ρ', er2, hr2, dr2, e2, q2⟩ := q v x
  cases e2
  exact q2 _ (er2.set dr2) fun ws hw => wipe_set (hw i List.mem_cons_self)
/-! ### a, b = x, y -/
theorem par_got {is : List Nat} {ms : List E} (hr : HR G M h H) (er : EnvR G M H ρ σ) {N : Ends} (g : GotF G W M H N (ex C (.asg (.t is) (.tup ms)) ρ h)) :
    tA G W (evs C ms) σ H fun vs H1 => ∃ σ', bindS is vs σ = some σ' ∧ N.nx σ' H1 := by
  refine ⟨M, h, ρ, er, hr, ?_⟩
  have g2 : GotF G W M H N ((evs C ms ρ h).fl ρ fun ds h1 => (match bind1 is ds ρ with
    | some ρ1 => .nx ρ1 h1
    | none => .bad)) := by
    rw [ex, ev] at g
    cases o : evs C ms ρ h with
    | ok ds h1 => rw [o] at g; exact g
    | exc c h1 => rw [o] at g; exact g
    | bad => rw [o] at g; exact g
  refine (GotF.fl hr er g2).imp fun ds M1 h1 H1 p g3 vs x => ?_
  obtain ⟨_, g3⟩ := g3
  cases eb : bind1 is ds ρ with
  | none => rw [eb] at g3; exact g3.elim
  | some ρ1 =>
    rw [eb] at g3
    obtain ⟨σ', e1, e2, _⟩ := bind_rel eb x (er.mono hr p)
    exact ⟨σ', e1, g3 M1 H1 σ' p e2⟩
theorem s_par2 {i j : Nat} {x y : Str} {px py pt : Pos} {kt k2 : Nat} {pt2 : Pos} {ms : List E} (ck : Ck G X) (hi : X.N[i]? = some x) (hj : X.N[j]? = some y) (hij : i ≠ j)
    (hx : X.env.scope.names.lookup x = some .local) (hy : X.env.scope.names.lookup y = some .local) (ha : PA X [a, b] (tA G W (evs C ms)))
    (hw : swappedStores [.Tuple [.Name x px, .Name y py] kt pt] (.Tuple [a, b] k2 pt2) X.env = pure (some [x, y])) :
    PS X (.Assign [.Tuple [.Name x px, .Name y py] kt pt] (.Tuple [a, b] k2 pt2) pos) (tS G W (ex C (.asg (.t [i, j]) (.tup ms)))) := by
  constructor
  intro pins s σ H N I ⟨M, h, ρ, er, hr, g⟩
  obtain ⟨M', h', ρ', er', hr', g'⟩ := par_got hr er g
  refine (ps_par ck.calm ck.nd hi hj hij hx hy ha hw).run pins s σ H N I ⟨M', h', ρ', er', hr', g'.imp fun ds M1 h1 H1 p q vs x => ?_⟩
  obtain ⟨σ', e, n⟩ := q vs x
  match vs, e with
  | [v, w], e => cases e; exact ⟨v, w, rfl, n⟩
theorem s_par3 {i j l : Nat} {x y z : Str} {px py pz pt : Pos} {kt k2 : Nat} {pt2 : Pos} {ms : List E} (ck : Ck G X) (hi : X.N[i]? = some x) (hj : X.N[j]? = some y) (hl : X.N[l]? = some z) (hij : i ≠ j) (hil : i ≠ l) (hjl : j ≠ l)
    (hx : X.env.scope.names.lookup x = some .local) (hy : X.env.scope.names.lookup y = some .local) (hz : X.env.scope.names.lookup z = some .local) (ha : PA X [a, b, c] (tA G W (evs C ms)))
    (hw : swappedStores [.Tuple [.Name x px, .Name y py, .Name z pz] kt pt] (.Tuple [a, b, c] k2 pt2) X.env = pure (some [x, y, z])) :
    PS X (.Assign [.Tuple [.Name x px, .Name y py, .Name z pz] kt pt] (.Tuple [a, b, c] k2 pt2) pos) (tS G W (ex C (.asg (.t [i, j, l]) (.tup ms)))) := by
  constructor
  intro pins s σ H N I ⟨M, h, ρ, er, hr, g⟩
  obtain ⟨M', h', ρ', er', hr', g'⟩ := par_got hr er g
  refine (ps_par3 ck.calm ck.nd hi hj hl hij hil hjl hx hy hz ha hw).run pins s σ H N I ⟨M', h', ρ', er', hr', g'.imp fun ds M1 h1 H1 p q vs x => ?_⟩
  obtain ⟨σ', e, n⟩ := q vs x
  match vs, e with
  | [v, w, u], e => cases e; exact ⟨v, w, u, rfl, n⟩
end
end Mi

/-! built-in functions -/
namespace Mi
open PySem PySem.Spec PyProof.Rows L2

mutual
theorem alike_py : ∀ a b : D, alikeD a b = true → PySem.W.alike (toPy a) (toPy b) = true
  | .int _, b, e => by cases b <;> first | rfl | cases e
  | .str _, b, e => by cases b <;> first | rfl | cases e
  | .tup xs, b, e => by
    cases b with
    | tup ys => simp only [toPy, PySem.W.alike]; exact alikes_py xs ys e
    | _ => cases e
  | .non, b, e => by cases b <;> cases e
  | .bl _, b, e => by cases b <;> cases e
  | .lst _, b, e => by cases b <;> cases e
  | .ref _, b, e => by cases b <;> cases e
  | .exc _, b, e => by cases b <;> cases e
  | .cst _, b, e => by cases b <;> cases e
theorem alikes_py : ∀ xs ys : List D, alikeDs xs ys = true → PySem.W.alikeAll (toPys xs) (toPys ys) = true
  | [], _, _ => by simp [toPys, PySem.W.alikeAll]
  | _ :: _, [], _ => by simp [toPys, PySem.W.alikeAll]
  | x :: xs, y :: ys, e => by
    rw [alikeDs, Bool.and_eq_true] at e
    simp only [toPys, PySem.W.alikeAll]
    rw [alike_py x y e.1, alikes_py xs ys e.2] <;> rfl
end
section
variable {G : Gd} {M M' M1 : List Addr} {H H' H1 : AH} {h h' h1 : Hp} {W : WX} {X : Cx} {e a b c : Expr} {es : List Expr} {m ma mb mc : E} {ms : List E} {pins : List (Addr × Obj)} {s : Shared} {σ : L2.St} {ρ : Env} {pos : Pos} {C : Ctx}
mutual
theorem alike_dp : ∀ (d : D) (v : V), alikeD d d = true → DR G M H d v → Dp G.K H v (toPy d)
  | .int i, v, _, x => by rw [show v = .int i from x]; exact .int i
  | .str z, v, _, x => by obtain ⟨rfl, _⟩ := x; exact .str _
  | .tup xs, v, e, x => by
    obtain ⟨p, vs, rfl, q, y⟩ := x
    exact .tup q.sq (alikes_dp xs vs e y)
  | .non, _, e, _ => by cases e
  | .bl _, _, e, _ => by cases e
  | .lst _, _, e, _ => by cases e
  | .ref _, _, e, _ => by cases e
  | .exc _, _, e, _ => by cases e
  | .cst _, _, e, _ => by cases e
theorem alikes_dp : ∀ (ds : List D) (vs : List V), alikeDs ds ds = true → DRs G M H ds vs → DpAll G.K H vs (toPys ds)
  | [], vs, _, x => by rw [show vs = [] from x]; exact .nil
  | d :: ds, vs, e, x => by
    rw [alikeDs, Bool.and_eq_true] at e
    obtain ⟨v, w, rfl, x1, x2⟩ := x
    exact .cons (alike_dp d v e.1 x1) (alikes_dp ds w e.2 x2)
end
/-- a built-in keeps what Mini says of it -/
def BiR (G : Gd) (X : Cx) (f : Bi) (fv : Value) : Prop := ∀ (pins : List (Addr × Obj)) (s : Shared) (σ : L2.St) (H : AH) (M : List Addr) (h : Hp) (ds : List D) (vs : List V) (us : List Value) (Q : VK) (W' : XK), Inv X pins σ H s → HR G M h H → VRs G M H ds vs → Vals vs us →
  Got G W' M H (biV f ds h) (fun d M' _ H' => ∀ v, RD G M' H H' d v → Q v H') → wpAny (model X.prog X.w) X.A (PySem.call fv us) (EP X pins σ Q) X.xe s
theorem m_biB {f : Bi} {id : String} {x : Str} {p : Pos} (hc : BiR G X f (.builtin id)) (hg : Gl X x) (hm : X.mg x = none) (hv : bootBuiltins x = some (.builtin id)) (hs : NoStar X e) (ha : PA X (e :: es) (tR G W (evr C ms)))
    (hn : x ≠ "__name__") (hdb : (x == ("__debug__" : Str)) = false) (hpl : (backTo pos (starEach es X.env)).any (·.1) = false) : PE X (.Call (.Name x p) (e :: es) [] pos) (tO G W (ev C (.bi f ms))) := by
  constructor
  intro pins s σ H Q I ⟨M, h, ρ, er, hr, g⟩
  refine wpAny_Call_Name_kw (ld_blt I hg hm hv ?_ hn hdb)
  refine PyProof.Rows.callWith_builtin1 (thn (useR ha I er hr (Got.bd hr g)) fun us s1 ⟨ds, M1, h1, H1, vs, I1, rv, p1, x1, g1⟩ => ?_) (hs es) hpl
  exact hc pins s1 σ H1 M1 h1 ds vs us Q _ I1 p1.hr x1 rv (g1.imp fun d M2 h2 H2 p2 q v y => q v (y.back hr p1))
theorem m_biT {f : Bi} {T : String} {x : Str} {p : Pos} (hc : BiR G X f (.type T)) (hg : Gl X x) (hm : X.mg x = none) (hv : bootBuiltins x = some (.type T)) (hs : NoStar X e) (ha : PA X (e :: es) (tR G W (evr C ms)))
    (hn : x ≠ "__name__") (hdb : (x == ("__debug__" : Str)) = false) (hpl : (backTo pos (starEach es X.env)).any (·.1) = false) : PE X (.Call (.Name x p) (e :: es) [] pos) (tO G W (ev C (.bi f ms))) := by
  constructor
  intro pins s σ H Q I ⟨M, h, ρ, er, hr, g⟩
  refine wpAny_Call_Name_kw (ld_blt I hg hm hv ?_ hn hdb)
  refine PyProof.Rows.callWith_type1 (thn (useR ha I er hr (Got.bd hr g)) fun us s1 ⟨ds, M1, h1, H1, vs, I1, rv, p1, x1, g1⟩ => ?_) (hs es) hpl
  exact hc pins s1 σ H1 M1 h1 ds vs us Q _ I1 p1.hr x1 rv (g1.imp fun d M2 h2 H2 p2 q v y => q v (y.back hr p1))
/-- one argument, a value that is worked out -/
theorem bi_one {f : Bi} {fv : Value} {k : D → Hp → Option D} (hf : ∀ ds h, biV f ds h = match ds with
    | [d] => ofO (k d h) h
    | _ => .bad) (hk : ∀ (pins : List (Addr × Obj)) (s : Shared) (σ : L2.St) (H : AH) (M : List Addr) (h : Hp) (d z : D) (v : V) (u : Value) (Q : VK), Inv X pins σ H s → HR G M h H → VR G M H d v → RelV v u → k d h = some z →
      (∀ M' H' v, Post G M H M' h H' → RD G M' H H' z v → Q v H') → wpAny (model X.prog X.w) X.A (PySem.call fv [u]) (EP X pins σ Q) X.xe s) : BiR G X f fv := by
  intro pins s σ H M h ds vs us Q W' I hr x rv g
  rw [hf] at g
  match ds, x, g with
  | [], x, g => exact g.elim
  | _ :: _ :: _, x, g => exact g.elim
  | [d], x, g =>
    obtain ⟨v, w, rfl, x1, x2⟩ := x
    rw [show w = [] from x2] at rv
    obtain ⟨u, rfl, ru⟩ := rv.one
    obtain ⟨z, e, q⟩ := g.ofO
    exact hk pins s σ H M h d z v u Q I hr x1 ru e fun M' H' v p y => q M' H' p v y
theorem post0 (hr : HR G M h H) : Post G M H M h H := Post.refl hr
theorem sq_of (ck : Ck G X) {d : D} {v : V} {xs : List D} (hr : HR G M h H) (x : VR G M H d v) (e : seqOf d h = some xs) : ∃ a vs, v = .ref a ∧ (SqL X.K H a vs ∨ SqT X.K H a vs) ∧ DRs G M H xs vs := by
  obtain ⟨a, vs, rfl, q, w⟩ := x.seq hr e
  refine ⟨a, vs, rfl, ?_, w⟩
  rcases q with q | q
  · exact .inl (by rw [ck.K]; exact q)
  · exact .inr (by rw [ck.K]; exact q)
theorem sq_tp (ck : Ck G X) {d : D} {v : V} {xs : List D} (hr : HR G M h H) (x : VR G M H d v) (e : seqOf d h = some xs) : ∃ a vs, v = .ref a ∧ (SqL X.K H a vs ∨ TpR X.K H a vs) ∧ DRs G M H xs vs := by
  cases d with
  | tup ys =>
    cases e
    obtain ⟨a, vs, e, q, y⟩ := x
    exact ⟨a, vs, e, .inr (by rw [ck.K]; exact q), y⟩
  | _ =>
    obtain ⟨a, vs, rfl, q, w⟩ := VR.lst hr x (by exact e)
    exact ⟨a, vs, rfl, .inl (by rw [ck.K]; exact q), w⟩
theorem lst_of (ck : Ck G X) (hr : HR G M h H) {d : D} {v : V} {xs : List D} (x : VR G M H d v) (e : listOf d h = some xs) : ∃ a vs, v = .ref a ∧ SqL X.K H a vs ∧ DRs G M H xs vs := by
  obtain ⟨a, vs, rfl, q, w⟩ := x.lst hr e
  exact ⟨a, vs, rfl, by rw [ck.K]; exact q, w⟩
theorem len_dict (ck : Ck G X) (I : Inv X pins σ H s) (hr : HR G M h H) {d : D} {v : V} {u : Value} {p : Bool × List (D × D)} (x : VR G M H d v) (ru : RelV v u) (e : dicOf d h = some p) {Q : VK} (q : Q (.int p.2.length) H) : wpAny (model X.prog X.w) X.A (PySem.call (.builtin "len") [u]) (EP X pins σ Q) X.xe s := by
  obtain ⟨t, kvs⟩ := p
  obtain ⟨n, a, rfl, rfl, _, _, hp⟩ := dic_at hr x e
  cases ru
  rcases hp with ⟨rfl, ks, hp, dk⟩ | ⟨rfl, es, hp, dk⟩
  · refine d_len I (.inl hp) fun t s' I' => ⟨.int ks.length, H, I', ⟨t, rfl⟩, ?_⟩
    rw [← dk.len]; exact q
  · obtain ⟨z, hm, dp, xs, xr, dd⟩ := td_of ck.K ck.w I hp dk
    refine call_len_dictH hm dd (by rw [← xr.len]; rw [sz_eq] at z; omega) ?_
    exact ⟨.int xs.length, H, I.tok _, ⟨_, rfl⟩, by rw [← xr.len, ← dk.len]; exact q⟩
theorem bi_len (ck : Ck G X) : BiR G X .len (.builtin "len") := by
  refine bi_one (k := fun d h => match dicOf d h with
    | some p => some (D.int p.2.length)
    | none => (match d with
      | .str s => some (D.int s.length)
      | d => (seqOf d h).map fun xs => D.int xs.length)) (fun ds h => ?_) ?_
  · match ds with
    | [] => rfl
    | [.str _] => rfl
    | [.non] | [.bl _] | [.int _] | [.tup _] | [.lst _] | [.exc _] | [.cst _] => rfl
    | [.ref n] =>
      show (match dicOf (.ref n) h with
        | some p => Out.ok (D.int p.2.length) h
        | none => ofO ((seqOf (.ref n) h).map fun (xs : List D) => D.int xs.length) h) = _
      simp only
      cases dicOf (.ref n) h <;> rfl
    | _ :: _ :: _ => rfl
  · intro pins s σ H M h d z v u Q I hr x ru e q
    cases ed : dicOf d h with
    | some p =>
      simp only [ed] at e
      cases e
      exact len_dict ck I hr x ru ed (q M H _ (Post.refl hr) rfl)
    | none =>
    simp only [ed] at e
    by_cases hd : ∃ ss, d = .str ss
    · obtain ⟨ss, rfl⟩ := hd
      cases e
      obtain ⟨rfl, k⟩ := x
      refine call_len pins s σ H [.str (sOf ss)] [u] Q I (.cons ru .nil) ⟨_, _, rfl, ⟨by rw [sOf_len, sz_eq]; exact k.1, rfl⟩, ?_⟩
      rw [sOf_len]
      exact q M H _ (Post.refl hr) rfl
    · have e : (seqOf d h).map (fun xs => D.int xs.length) = some z := by
        cases d <;> first | exact e | exact absurd ⟨_, rfl⟩ hd
      obtain ⟨xs, e1, rfl⟩ := mapO e
      obtain ⟨a, vs, rfl, hq, w⟩ := sq_of ck hr x e1
      refine call_len_seq pins s σ H [.ref a] [u] Q I (.cons ru .nil) ⟨a, vs, rfl, hq, ?_⟩
      rw [← w.length]
      exact q M H _ (Post.refl hr) rfl
theorem bi_tuple (ck : Ck G X) : BiR G X .tuple (.type "tuple") := by
  refine bi_one (k := fun d h => (seqOf d h).map .tup) (fun ds h => by
    match ds with
    | [] => rfl
    | [_] => rfl
    | _ :: _ :: _ => rfl) ?_
  intro pins s σ H M h d z v u Q I hr x ru e q
  obtain ⟨xs, e1, rfl⟩ := mapO e
  obtain ⟨a, vs, rfl, hq, w⟩ := sq_tp ck hr x e1
  refine call_tuple_F pins s σ H [.ref a] [u] Q I (.cons ru .nil) ⟨a, vs, rfl, ?_⟩
  rcases hq with hq | hq
  · refine .inl ⟨hq, fun l ob hl hd => ?_⟩
    obtain ⟨P, R⟩ := new_tup hr hl hd w
    exact q M _ _ P R
  · exact .inr ⟨hq.sq, q M H _ (Post.refl hr) ⟨a, vs, rfl, by rw [← ck.K]; exact hq, w⟩⟩
theorem keys_dr : ∀ {ks : List (L2.Key × V)}, (∀ p ∈ ks, ∀ z, p.1 = .inr z → okS z.cps.toList) → DRs G M H (ks.map fun p => keyD p.1) (ks.map fun kv => kV kv.1)
  | [], _ => rfl
  | p :: ks, h => by
    refine ⟨_, _, rfl, ?_, keys_dr fun q hq => h q (List.mem_cons_of_mem _ hq)⟩
    have := h p List.mem_cons_self
    cases q : p.1 with
    | inl i => show DR G M H (keyD p.1) (kV p.1); rw [q]; rfl
    | inr z => show DR G M H (keyD p.1) (kV p.1); rw [q]; exact ⟨rfl, this z q⟩
theorem list_dict (ck : Ck G X) (I : Inv X pins σ H s) (hr : HR G M h H) {d : D} {v : V} {u : Value} {p : Bool × List (D × D)} (x : VR G M H d v) (ru : RelV v u) (e : dicOf d h = some p) {Q : VK}
    (q : ∀ M' H' v, Post G M H M' h H' → RD G M' H H' (.lst (p.2.map (·.1))) v → Q v H') : wpAny (model X.prog X.w) X.A (PySem.call (.type "list") [u]) (EP X pins σ Q) X.xe s := by
  obtain ⟨t, kvs⟩ := p
  obtain ⟨n, a, rfl, rfl, _, _, hp⟩ := dic_at hr x e
  rcases hp with ⟨rfl, ks, hp, dk⟩ | ⟨rfl, es, hp, dk⟩
  · refine call_listD ck.calm pins s σ H [.ref a] [u] Q I (.cons ru .nil) ⟨a, ks, rfl, .inl hp, fun p np => ?_⟩
    have w : DRs G M H (kvs.map (·.1)) (ks.map fun kv => kV kv.1) := by
      rw [dk.key]; exact keys_dr dk.ok
    obtain ⟨P, R⟩ := new_lst hr np w
    exact q M _ _ P R
  · cases ru
    obtain ⟨z, hm, dp, xs, xr, o, ents, ep, ho, hx, hdt, he, _, _⟩ := td_of ck.K ck.w I hp dk
    have l1 : ents.size = xs.length := size_of_entries he
    refine PySem.W.kdl_call (kdl_raw hm hx hdt) (I.ok.hd ck.calm) ho (by rw [l1, ← xr.len]; exact z) fun h' tk acc' c' kp e it => ?_
    have ea : acc'.toList = xs.map fun x => Value.ref x.2.1 := by
      have hl : acc'.toList.length = xs.length := by rw [Array.length_toList, it.1]; exact l1
      apply List.ext_getElem?
      intro j
      rw [List.getElem?_map]
      cases hj : acc'.toList[j]? with
      | none =>
        have h1 := List.getElem?_eq_none_iff.mp hj
        rw [List.getElem?_eq_none (by omega)]
        all_goals rfl
      | some v =>
        obtain ⟨en, hen, hv⟩ := it.2 j v (by rw [← Array.getElem?_toList]; exact hj)
        have qe := entry_at he j
        rw [hen] at qe
        cases hb : xs[j]? with
        | none =>
          rw [hb] at qe
          exact nomatch (show some en = none from qe)
        | some b =>
          rw [hb] at qe
          have e2 : en = entryOfKey (nestedKind X.prog X.w) b := Option.some.inj qe
          rw [hv, e2]
          all_goals rfl
    have rv : ∀ {es : TEs} {xs : XEs}, XR es xs → Vals (es.map fun p => V.ref p.2.1) (xs.map fun x => Value.ref x.2.1) := fun {es xs} r => by
      induction r with
      | nil => exact .nil
      | cons h t ih => exact .cons (congrArg Value.ref h.2.1.symm) ih
    have zl : (es.map fun p => V.ref p.2.1).length ≤ sizeLine := by rw [List.length_map]; exact z
    have np : H s.heap.objs.size = none := I.hok.fresh (Nat.le_refl _)
    obtain ⟨P, R⟩ := new_lst hr np dk.kdr
    refine ⟨.ref s.heap.objs.size, _, I.laid (t' := tk) (o := .lst (es.map fun p => V.ref p.2.1)) kp (Nat.le_refl _) ?_, rfl, q M _ _ P R⟩
    exact ⟨zl, acc'.toList, c', by rw [ea]; exact rv xr, by rw [Array.toArray_toList]; exact e⟩
theorem bi_list (ck : Ck G X) : BiR G X .list (.type "list") := by
  refine bi_one (k := fun d h => match dicOf d h with
    | some p => some (D.lst (p.2.map fun (q : D × D) => q.1))
    | none => (itemsOf d h).map D.lst) (fun ds h => by
    match ds with
    | [] => rfl
    | [d] =>
      show (match dicOf d h with
        | some p => Out.ok (D.lst (p.2.map fun (q : D × D) => q.1)) h
        | none => ofO ((itemsOf d h).map D.lst) h) = _
      simp only
      cases dicOf d h <;> rfl
    | _ :: _ :: _ => rfl) ?_
  intro pins s σ H M h d z v u Q I hr x ru e q
  cases ed : dicOf d h with
  | some p =>
    simp only [ed] at e
    cases e
    exact list_dict ck I hr x ru ed q
  | none =>
  simp only [ed] at e
  obtain ⟨xs, e1, rfl⟩ := mapO e
  by_cases hd : ∃ ss, d = .str ss
  · obtain ⟨ss, rfl⟩ := hd
    cases e1
    obtain ⟨rfl, k⟩ := x
    obtain ⟨t, rfl⟩ := ru
    have hz : (sOf ss).cps.size = ss.length := by simp [sOf]
    refine PySem.call_list_str (I.ok.hd ck.calm) (sOf ss) t (fun h' tk acc' c' hk hS hit => ?_) (by rw [hz, sz_eq]; exact k.1)
    have hn : H s.heap.objs.size = none := I.hok.fresh (Nat.le_refl _)
    have hlen : acc'.toList.length = ss.length := by rw [Array.length_toList, hit.1, hz]
    have rv : Vals (ss.map fun c => V.str (sOf [c])) acc'.toList := vals_of_at (by rw [List.length_map, hlen]) fun j x u e1 e2 => by
      rw [List.getElem?_map] at e1
      obtain ⟨c, e3, rfl⟩ := Option.map_eq_some_iff.mp e1
      obtain ⟨c', t', e6, rfl⟩ := hit.2 j u (by rw [← Array.getElem?_toList]; exact e2)
      have e7 : ss[j]? = some c' := by simpa [sOf] using e6
      rw [e3] at e7; cases e7
      exact ⟨t', rfl⟩
    have w : DRs G M H (ss.map fun c => D.str [c]) (ss.map fun c => V.str (sOf [c])) := by
      have : ∀ l : List Nat, (∀ c ∈ l, c < 1114112) → DRs G M H (l.map fun c => D.str [c]) (l.map fun c => V.str (sOf [c])) := by
        intro l
        induction l with
        | nil => intro _; rfl
        | cons c l ih =>
          intro hl
          exact ⟨_, _, rfl, ⟨rfl, by simp, fun c' h' => by rw [List.mem_singleton.mp h']; exact hl c List.mem_cons_self⟩, ih fun c' h' => hl c' (List.mem_cons_of_mem _ h')⟩
      exact this ss k.2
    obtain ⟨P, R⟩ := new_lst hr hn w
    exact ⟨.ref _, _, I.laid (o := .lst (ss.map fun c => V.str (sOf [c]))) (t' := tk) (fun b o e => hk b o e) (Nat.le_refl _) ⟨by rw [List.length_map, sz_eq]; exact k.1, _, c', rv, hS⟩, rfl, q M _ _ P R⟩
  · have e1 : seqOf d h = some xs := by
      cases d <;> first | exact e1 | exact absurd ⟨_, rfl⟩ hd
    obtain ⟨a, vs, rfl, hq, w⟩ := sq_of ck hr x e1
    refine call_list_of pins s σ H [.ref a] [u] Q I (.cons ru .nil) ⟨a, vs, rfl, hq, fun l hl => ?_⟩
    obtain ⟨P, R⟩ := new_lst hr hl w
    exact q M _ _ P R
theorem bools_rel : ∀ {ds : List D} {bs : List Bool} {vs : List V}, boolsOf ds = some bs → DRs G M H ds vs → vs = bs.map V.bl
  | [], bs, vs, e, x => by cases e; exact x
  | .bl b :: ds, bs, vs, e, x => by
    obtain ⟨cs, e1, rfl⟩ := mapO (show (boolsOf ds).map (b :: ·) = some bs from e)
    obtain ⟨v, w, rfl, x1, x2⟩ := x
    rw [show v = .bl b from x1, bools_rel e1 x2] <;> rfl
  | .non :: _, _, _, e, _ => by cases e
  | .int _ :: _, _, _, e, _ => by cases e
  | .str _ :: _, _, _, e, _ => by cases e
  | .tup _ :: _, _, _, e, _ => by cases e
  | .lst _ :: _, _, _, e, _ => by cases e
  | .ref _ :: _, _, _, e, _ => by cases e
  | .exc _ :: _, _, _, e, _ => by cases e
  | .cst _ :: _, _, _, e, _ => by cases e
theorem ints_rel : ∀ {ds : List D} {bs : List Int} {vs : List V}, intsOf ds = some bs → DRs G M H ds vs → vs = bs.map V.int
  | [], bs, vs, e, x => by cases e; exact x
  | .int b :: ds, bs, vs, e, x => by
    obtain ⟨cs, e1, rfl⟩ := mapO (show (intsOf ds).map (b :: ·) = some bs from e)
    obtain ⟨v, w, rfl, x1, x2⟩ := x
    rw [show v = .int b from x1, ints_rel e1 x2] <;> rfl
  | .non :: _, _, _, e, _ => by cases e
  | .bl _ :: _, _, _, e, _ => by cases e
  | .str _ :: _, _, _, e, _ => by cases e
  | .tup _ :: _, _, _, e, _ => by cases e
  | .lst _ :: _, _, _, e, _ => by cases e
  | .ref _ :: _, _, _, e, _ => by cases e
  | .exc _ :: _, _, _, e, _ => by cases e
  | .cst _ :: _, _, _, e, _ => by cases e
theorem bi_all (ck : Ck G X) : BiR G X .all (.builtin "all") := by
  refine bi_one (k := fun d h => ((listOf d h).bind boolsOf).map fun bs => .bl (bs.all id)) (fun ds h => by
    match ds with
    | [] => rfl
    | [_] => rfl
    | _ :: _ :: _ => rfl) ?_
  intro pins s σ H M h d z v u Q I hr x ru e q
  obtain ⟨bs, e1, rfl⟩ := mapO e
  obtain ⟨xs, e1, e2⟩ := bindO e1
  obtain ⟨a, vs, rfl, hq, w⟩ := lst_of ck hr x e1
  rw [bools_rel e2 w] at hq
  exact cr_all ck.calm pins s σ H [.ref a] [u] Q I (.cons ru .nil) ⟨a, bs, rfl, hq, q M H _ (Post.refl hr) rfl⟩
theorem bi_any (ck : Ck G X) : BiR G X .any (.builtin "any") := by
  refine bi_one (k := fun d h => ((listOf d h).bind boolsOf).map fun bs => .bl (bs.any id)) (fun ds h => by
    match ds with
    | [] => rfl
    | [_] => rfl
    | _ :: _ :: _ => rfl) ?_
  intro pins s σ H M h d z v u Q I hr x ru e q
  obtain ⟨bs, e1, rfl⟩ := mapO e
  obtain ⟨xs, e1, e2⟩ := bindO e1
  obtain ⟨a, vs, rfl, hq, w⟩ := lst_of ck hr x e1
  rw [bools_rel e2 w] at hq
  exact cr_any ck.calm pins s σ H [.ref a] [u] Q I (.cons ru .nil) ⟨a, bs, rfl, hq, q M H _ (Post.refl hr) rfl⟩
theorem bi_sum (ck : Ck G X) : BiR G X .sum (.builtin "sum") := by
  refine bi_one (k := fun d h => ((listOf d h).bind intsOf).map fun bs => .int bs.sum) (fun ds h => by
    match ds with
    | [] => rfl
    | [_] => rfl
    | _ :: _ :: _ => rfl) ?_
  intro pins s σ H M h d z v u Q I hr x ru e q
  obtain ⟨bs, e1, rfl⟩ := mapO e
  obtain ⟨xs, e1, e2⟩ := bindO e1
  obtain ⟨a, vs, rfl, hq, w⟩ := lst_of ck hr x e1
  rw [ints_rel e2 w] at hq
  exact cr_sum ck.calm pins s σ H [.ref a] [u] Q I (.cons ru .nil) ⟨a, bs, rfl, hq, q M H _ (Post.refl hr) rfl⟩
theorem maxL_ge : ∀ {l : List Int} {m : Int}, maxL l = some m → l ≠ [] ∧ ∀ n, n ∈ l → (∀ y, y ∈ l → y ≤ n) → n = m
  | [x], m, e => by
    cases e
    exact ⟨by simp, fun n hn _ => List.mem_singleton.mp hn⟩
  | x :: y :: r, m, e => by
    obtain ⟨k, e1, rfl⟩ := mapO (show (maxL (y :: r)).map (fun m => if m > x then m else x) = some m from e)
    obtain ⟨_, ih⟩ := maxL_ge e1
    have hk : ∀ {l : List Int} {m : Int}, maxL l = some m → m ∈ l ∧ ∀ y ∈ l, y ≤ m := fun {l} => by
      induction l with
      | nil => intro m e; cases e
      | cons a l ih =>
        intro m e
        cases l with
        | nil => cases e; simp
        | cons b l =>
          obtain ⟨k, e1, rfl⟩ := mapO (show (maxL (b :: l)).map (fun m => if m > a then m else a) = some m from e)
          obtain ⟨i1, i2⟩ := ih e1
          by_cases c : k > a
          · rw [if_pos c]
            refine ⟨List.mem_cons_of_mem _ i1, fun z hz => ?_⟩
            rcases List.mem_cons.mp hz with rfl | hz
            · omega
            · exact i2 z hz
          · rw [if_neg c]
            refine ⟨List.mem_cons_self, fun z hz => ?_⟩
            rcases List.mem_cons.mp hz with rfl | hz
            · omega
            · have := i2 z hz
              omega
    obtain ⟨h1, h2⟩ := hk e
    refine ⟨by simp, fun n hn hy => ?_⟩
    have a1 := hy _ h1
    have a2 := h2 n hn
    omega
theorem minL_le : ∀ {l : List Int} {m : Int}, minL l = some m → l ≠ [] ∧ m ∈ l ∧ ∀ y ∈ l, m ≤ y
  | [x], m, e => by
    cases e
    exact ⟨by simp, by simp, by simp⟩
  | x :: y :: r, m, e => by
    obtain ⟨k, e1, rfl⟩ := mapO (show (minL (y :: r)).map (fun m => if m < x then m else x) = some m from e)
    obtain ⟨_, i1, i2⟩ := minL_le e1
    refine ⟨by simp, ?_⟩
    by_cases c : k < x
    · rw [if_pos c]
      refine ⟨List.mem_cons_of_mem _ i1, fun z hz => ?_⟩
      rcases List.mem_cons.mp hz with rfl | hz
      · omega
      · exact i2 z hz
    · rw [if_neg c]
      refine ⟨List.mem_cons_self, fun z hz => ?_⟩
      rcases List.mem_cons.mp hz with rfl | hz
      · omega
      · have := i2 z hz
        omega
theorem bi_max (ck : Ck G X) : BiR G X .max (.builtin "max") := by
  refine bi_one (k := fun d h => ((listOf d h).bind intsOf).bind fun bs => (maxL bs).map .int) (fun ds h => by
    match ds with
    | [] => rfl
    | [_] => rfl
    | _ :: _ :: _ => rfl) ?_
  intro pins s σ H M h d z v u Q I hr x ru e q
  obtain ⟨bs, e1, e2⟩ := bindO e
  obtain ⟨m, e3, rfl⟩ := mapO e2
  obtain ⟨xs, e1, e2⟩ := bindO e1
  obtain ⟨a, vs, rfl, hq, w⟩ := lst_of ck hr x e1
  rw [ints_rel e2 w] at hq
  obtain ⟨hne, hu⟩ := maxL_ge e3
  exact cr_max ck.calm pins s σ H [.ref a] [u] Q I (.cons ru .nil) ⟨a, bs, rfl, hq, List.length_pos_iff.mpr hne, fun n hn hy => by rw [hu n hn hy]; exact q M H _ (Post.refl hr) rfl⟩
theorem bi_min (ck : Ck G X) : BiR G X .min (.builtin "min") := by
  refine bi_one (k := fun d h => ((listOf d h).bind intsOf).bind fun bs => (minL bs).map .int) (fun ds h => by
    match ds with
    | [] => rfl
    | [_] => rfl
    | _ :: _ :: _ => rfl) ?_
  intro pins s σ H M h d z v u Q I hr x ru e q
  obtain ⟨bs, e1, e2⟩ := bindO e
  obtain ⟨m, e3, rfl⟩ := mapO e2
  obtain ⟨xs, e1, e2⟩ := bindO e1
  obtain ⟨a, vs, rfl, hq, w⟩ := lst_of ck hr x e1
  rw [ints_rel e2 w] at hq
  obtain ⟨hne, h1, h2⟩ := minL_le e3
  exact cr_min ck.calm pins s σ H [.ref a] [u] Q I (.cons ru .nil) ⟨a, bs, rfl, hq, List.length_pos_iff.mpr hne, fun n hn hy => by
    have a1 := hy m h1
    have a2 := h2 n hn
    rw [show n = m by omega]
    exact q M H _ (Post.refl hr) rfl⟩
end
end Mi

/-! dict(d), dict(pairs) -/
namespace Mi
open PySem PySem.Spec PyProof.Rows L2

section
variable {G : Gd} {M M' : List Addr} {H H' : AH} {h h' : Hp} {X : Cx} {pins : List (Addr × Obj)} {s : Shared} {σ : L2.St} {d : D} {v : V} {u : Value} {xs : List D}
/-- the pairs of a list of tuples -/
theorem pairs_rel (K : G.K = X.K) (I : Inv X pins σ H s) : ∀ {xs : List D} {ps : List (D × D)} {vs : List V}, pairsOf xs = some ps → DRs G M H xs vs → (ps.all fun p => keyB false p.1) = true →
    ∃ (as : List Addr) (kvs : List (L2.Key × V)), vs = as.map V.ref ∧ Paired (fun p (kv : L2.Key × V) => SqT X.K H p [kV kv.1, kv.2]) as kvs ∧ DkR G M H ps kvs
  | [], ps, vs, e, x, _ => by
    cases e
    exact ⟨[], [], x, .nil, .nil⟩
  | .tup [k, b] :: r, ps, vs, e, x, hk => by
    obtain ⟨qs, e1, rfl⟩ := mapO (show (pairsOf r).map ((k, b) :: ·) = some ps from e)
    obtain ⟨w, ws, rfl, ⟨a, zs, rfl, q, k1, zs1, rfl, x1, b1, zs2, rfl, x2, x3⟩, x4⟩ := x
    cases x3
    rw [List.all_cons, Bool.and_eq_true] at hk
    obtain ⟨as, kvs, rfl, i1, i2⟩ := pairs_rel K I e1 x4 hk.2
    obtain ⟨kq, rfl, rfl, ok⟩ := key_at x1.vr hk.1
    exact ⟨a :: as, (kq, b1) :: kvs, rfl, .cons (by rw [← K]; exact q.sq) i1, i2.cons (p := (kq, b1)) ok x2⟩
  | .tup [] :: _, _, _, e, _, _ => by cases e
  | .tup [_] :: _, _, _, e, _, _ => by cases e
  | .tup (_ :: _ :: _ :: _) :: _, _, _, e, _, _ => by cases e
  | .non :: _, _, _, e, _, _ => by cases e
  | .bl _ :: _, _, _, e, _, _ => by cases e
  | .int _ :: _, _, _, e, _, _ => by cases e
  | .str _ :: _, _, _, e, _, _ => by cases e
  | .lst _ :: _, _, _, e, _, _ => by cases e
  | .ref _ :: _, _, _, e, _, _ => by cases e
  | .exc _ :: _, _, _, e, _, _ => by cases e
  | .cst _ :: _, _, _, e, _, _ => by cases e
/-- a tuple's object -/
theorem plain_seq (I : Inv X pins σ H s) {a : Addr} {vs : List V} (q : TpR X.K H a vs) : ∃ its : List Value, Vals vs its ∧ PlainSeq "tuple" s.heap a its.toArray ∧ vs.length ≤ sizeLine := by
  obtain ⟨its, r, ⟨o, ho, hc, n, hd⟩, hz⟩ := I.tuple q.sq
  refine ⟨its, r, ⟨o, n, ho, hc, ?_, hd⟩, hz⟩
  rcases q.2 with ⟨ob, u, e, d⟩ | ⟨ob, e, d⟩
  · obtain ⟨e1, _⟩ := (show _ ∧ _ from I.hok a _ e)
    rw [ho] at e1
    cases e1
    exact d
  · rw [I.kIn a ob e] at ho
    cases ho
    exact d
/-- the pairs in the heap -/
theorem pairs_heap (I : Inv X pins σ H s) : ∀ {as : List Addr} {kvs : List (L2.Key × V)}, Paired (fun p (kv : L2.Key × V) => SqT X.K H p [kV kv.1, kv.2]) as kvs →
    ∃ (prs : List (L2.Key × Value)) (ps : List (Value × Value)), KV kvs prs ∧ prs.length = as.length ∧ ps.length = as.length ∧
      ∀ (j : Nat) (k v : Value), ps[j]? = some (k, v) → (∃ b, as[j]? = some b ∧ s.heap.IsTuple b #[k, v]) ∧ ∃ q, prs[j]? = some (q, v) ∧ keyIs q k = true
  | _, _, .nil => ⟨[], [], .nil, rfl, rfl, fun j k v e => by simp at e⟩
  | _, _, .cons (a := p) (b := kv) h t => by
    obtain ⟨prs, ps, r, hl, hl2, hp⟩ := pairs_heap I t
    obtain ⟨its, rv, ht, _⟩ := I.tuple h
    obtain ⟨u, y, rfl, ru, ry⟩ := vals2 rv
    refine ⟨(kv.1, y) :: prs, (u, y) :: ps, .cons ⟨rfl, ry⟩ r, by rw [List.length_cons, List.length_cons, hl], by rw [List.length_cons, List.length_cons, hl2], fun j k v e => ?_⟩
    cases j with
    | zero =>
      cases (Option.some.inj e : (u, y) = (k, v))
      exact ⟨⟨p, rfl, ht⟩, kv.1, rfl, kV_is (P := X.prog) (w := X.w) ru⟩
    | succ j =>
      obtain ⟨⟨b, e1, e2⟩, q, e3, e4⟩ := hp j k v (by simpa using e)
      exact ⟨⟨b, by simpa using e1, e2⟩, q, by simpa using e3, e4⟩
/-- dict() of a tuple of pairs -/
theorem call_dict_T (hcalm : X.calm = true) : CallR X (.type "dict") (fun xs H Q => ∃ (a : Addr) (ps : List Addr) (kvs : List (L2.Key × V)), xs = [.ref a] ∧ TpR X.K H a (ps.map V.ref) ∧ Paired (fun p (kv : L2.Key × V) => SqT X.K H p [kV kv.1, kv.2]) ps kvs ∧
    ∀ p, H p = none → Q (.ref p) (upd H p (.dK (mergeK [] kvs)))) := by
  intro pins s σ H xs us Q I r q
  obtain ⟨a, as, kvs, rfl, hq, hp, q⟩ := q
  obtain ⟨u, rfl, rx⟩ := vals1 r
  cases rx
  obtain ⟨its, rv, pl, hz⟩ := plain_seq I hq
  have ei := refs_at rv
  subst ei
  rw [List.length_map] at hz
  obtain ⟨prs, ps, rel, hl, hl2, hpr⟩ := pairs_heap I hp
  refine _root_.PySem.call_dict_pairs (knd := mixKind X.prog X.w) (kvs := prs) (PairArg.tuple a (as.map Value.ref).toArray (fun j => as.getD j 0) ps) (I.ok.hd hcalm) ⟨pl, by simp [hl2], fun j k v e => ?_⟩ ⟨by rw [hl, hl2], fun j k v e => ?_⟩ (by rw [hl2]; exact hz) fun h' tk hd' k => ?_
  · obtain ⟨⟨b, e1, e2⟩, _⟩ := hpr j k v e
    have eb : as.getD j 0 = b := by rw [List.getD_eq_getElem?_getD, e1] <;> rfl
    show (as.map Value.ref).toArray[j]? = some (Value.ref (as.getD j 0)) ∧ PairAt s.heap (as.getD j 0) k v
    rw [eb]
    exact ⟨by simp [e1], .inl e2⟩
  · obtain ⟨_, q, e3, e4⟩ := hpr j k v e
    exact ⟨q, e3, e4⟩
  · have hm : (s.heap.objs.size == sysModules) = false := beq_eq_false_iff_ne.mpr (Nat.ne_of_gt I.big)
    have hlen : (mergeK [] kvs).length ≤ sizeLine := by
      refine Nat.le_trans (length_mergeK kvs []) ?_
      rw [List.length_nil, Nat.zero_add, rel.length, hl]
      exact hz
    exact ⟨.ref s.heap.objs.size, upd H s.heap.objs.size (.dK (mergeK [] kvs)), I.laid (t' := tk) (fun b o e => k b o (fun z => nomatch z) e) (Nat.le_refl _) (show ObjOk X.prog X.w _ _ _ (.dK (mergeK [] kvs)) from ⟨hlen, hm, merged [] prs, KV.merge rel .nil, hd'⟩), rfl, q _ (I.hok.fresh (Nat.le_refl _))⟩
/-- a new dict comes to Mini's heap -/
theorem dic_new (hr : HR G M h H) {p : Addr} {kvs : List (D × D)} {ks : List (L2.Key × V)} (np : H p = none) (dk : DkR G M H kvs ks) : Post G M H (M ++ [p]) (.dic false kvs :: h) (upd H p (.dK ks)) ∧ (M ++ [p])[h.length]? = some p := by
  have P0 := Post.lay (G := G) (u := .dK ks) hr np
  refine ⟨Post.new1 hr np ⟨ks, upd_same, dk.key, dk.ok, ?_⟩, by rw [← hr.len]; simp⟩
  exact dk.val.keeps hr (KeepA.upd np).n fun _ _ e => at_snoc e
theorem bi_dict (ck : Ck G X) : BiR G X .dict (.type "dict") := by
  intro pins s σ H M h ds vs us Q W' I hr x rv g
  match ds, x, g with
  | [], x, g => exact g.elim
  | _ :: _ :: _, x, g => exact g.elim
  | [d], x, g =>
    obtain ⟨v, w, rfl, x1, x2⟩ := x
    rw [show w = [] from x2] at rv
    obtain ⟨u, rfl, ru⟩ := rv.one
    have g : Got G W' M H (match dicOf d h with
      | some (false, kvs) => Out.ok (D.ref h.length) (Ob.dic false kvs :: h)
      | some _ => .bad
      | none => (match (seqOf d h).bind pairsOf with
        | some ps => if (ps.all fun p => keyB false p.1) = true then .ok (.ref h.length) (.dic false (mergeD [] ps) :: h) else .bad
        | none => .bad)) (fun d M' _ H' => ∀ v, RD G M' H H' d v → Q v H') := g
    cases ed : dicOf d h with
    | some p =>
      rw [ed] at g
      obtain ⟨t, kvs⟩ := p
      cases t with
      | true => exact g.elim
      | false =>
        obtain ⟨n, a, rfl, rfl, _, _, hp⟩ := dic_at hr x1 ed
        obtain rfl : u = Value.ref a := ru
        rcases hp with ⟨_, ks, hp, dk⟩ | ⟨e, _⟩
        · refine d_copyOf I (.inl hp) fun p s' np I' => ?_
          obtain ⟨P, l⟩ := dic_new hr np dk
          exact ⟨.ref p, _, I', rfl, g _ _ P _ ⟨p, l, rfl⟩⟩
        · cases e
    | none =>
      rw [ed] at g
      have g : Got G W' M H (match (seqOf d h).bind pairsOf with
        | some ps => if (ps.all fun p => keyB false p.1) = true then Out.ok (.ref h.length) (.dic false (mergeD [] ps) :: h) else .bad
        | none => .bad) (fun d M' _ H' => ∀ v, RD G M' H H' d v → Q v H') := g
      cases e0 : (seqOf d h).bind pairsOf with
      | none => rw [e0] at g; exact g.elim
      | some ps =>
        rw [e0] at g
        simp only at g
        by_cases hk : (ps.all fun p => keyB false p.1) = true
        · rw [if_pos hk] at g
          obtain ⟨xs, e1, e2⟩ := bindO e0
          obtain ⟨a, vs, rfl, hq, w⟩ := sq_tp ck hr x1 e1
          obtain ⟨as, kvs, rfl, hp, dk⟩ := pairs_rel (X := X) ck.K.symm I e2 w hk
          have fin : ∀ p, H p = none → Q (.ref p) (upd H p (.dK (mergeK [] kvs))) := fun p np => by
            obtain ⟨P, l⟩ := dic_new hr np (merge_rel .nil dk)
            exact g _ _ P _ ⟨p, l, rfl⟩
          rcases hq with hq | hq
          · exact call_dictP ck.calm pins s σ H [.ref a] [u] Q I (.cons ru .nil) ⟨a, as, kvs, rfl, hq, hp, fin⟩
          · exact call_dict_T ck.calm pins s σ H [.ref a] [u] Q I (.cons ru .nil) ⟨a, as, kvs, rfl, hq, hp, fin⟩
        · rw [if_neg hk] at g; exact g.elim
end
end Mi

/-! built-in functions: the others -/
namespace Mi
open PySem PySem.Spec PyProof.Rows L2

section
variable {G : Gd} {M M' M1 : List Addr} {H H' H1 : AH} {h h' h1 : Hp} {W : WX} {X : Cx} {e a b c : Expr} {es : List Expr} {m ma mb mc : E} {ms : List E} {pins : List (Addr × Obj)} {s : Shared} {σ : L2.St} {ρ : Env} {pos : Pos} {C : Ctx}
theorem bi_max2 (ck : Ck G X) : BiR G X .max2 (.builtin "max") := by
  intro pins s σ H M h ds vs us Q W' I hr x rv g
  match ds, x, g with
  | [.int i, .int j], x, g =>
    obtain ⟨v, w, rfl, x1, x2⟩ := x
    obtain ⟨v2, w2, rfl, x3, x4⟩ := x2
    rw [show v = .int i from x1, show v2 = .int j from x3, show w2 = [] from x4] at rv
    exact call_max2 ck.calm pins s σ H _ us Q I rv ⟨i, j, rfl, g M H (Post.refl hr) _ rfl⟩
  | [], x, g => exact g.elim
  | [.non], x, g | [.bl _], x, g | [.int _], x, g | [.str _], x, g | [.tup _], x, g | [.lst _], x, g | [.ref _], x, g | [.exc _], x, g | [.cst _], x, g => exact g.elim
  | .non :: _ :: _, x, g | .bl _ :: _ :: _, x, g | .str _ :: _ :: _, x, g | .tup _ :: _ :: _, x, g | .lst _ :: _ :: _, x, g | .ref _ :: _ :: _, x, g | .exc _ :: _ :: _, x, g | .cst _ :: _ :: _, x, g => exact g.elim
  | .int _ :: .non :: _, x, g | .int _ :: .bl _ :: _, x, g | .int _ :: .str _ :: _, x, g | .int _ :: .tup _ :: _, x, g | .int _ :: .lst _ :: _, x, g | .int _ :: .ref _ :: _, x, g | .int _ :: .exc _ :: _, x, g | .int _ :: .cst _ :: _, x, g => exact g.elim
  | .int _ :: .int _ :: _ :: _, x, g => exact g.elim
theorem bi_min2 (ck : Ck G X) : BiR G X .min2 (.builtin "min") := by
  intro pins s σ H M h ds vs us Q W' I hr x rv g
  match ds, x, g with
  | [.int i, .int j], x, g =>
    obtain ⟨v, w, rfl, x1, x2⟩ := x
    obtain ⟨v2, w2, rfl, x3, x4⟩ := x2
    rw [show v = .int i from x1, show v2 = .int j from x3, show w2 = [] from x4] at rv
    exact call_min2 ck.calm pins s σ H _ us Q I rv ⟨i, j, rfl, g M H (Post.refl hr) _ rfl⟩
  | [], x, g => exact g.elim
  | [.non], x, g | [.bl _], x, g | [.int _], x, g | [.str _], x, g | [.tup _], x, g | [.lst _], x, g | [.ref _], x, g | [.exc _], x, g | [.cst _], x, g => exact g.elim
  | .non :: _ :: _, x, g | .bl _ :: _ :: _, x, g | .str _ :: _ :: _, x, g | .tup _ :: _ :: _, x, g | .lst _ :: _ :: _, x, g | .ref _ :: _ :: _, x, g | .exc _ :: _ :: _, x, g | .cst _ :: _ :: _, x, g => exact g.elim
  | .int _ :: .non :: _, x, g | .int _ :: .bl _ :: _, x, g | .int _ :: .str _ :: _, x, g | .int _ :: .tup _ :: _, x, g | .int _ :: .lst _ :: _, x, g | .int _ :: .ref _ :: _, x, g | .int _ :: .exc _ :: _, x, g | .int _ :: .cst _ :: _, x, g => exact g.elim
  | .int _ :: .int _ :: _ :: _, x, g => exact g.elim
theorem bi_int (ck : Ck G X) : BiR G X .int (.type "int") := by
  refine bi_one (k := fun d h => match d with
    | .bl b => some (.int (if b then 1 else 0))
    | .int i => some (.int i)
    | _ => none) (fun ds h => by
    match ds with
    | [] => rfl
    | [.non] | [.bl _] | [.int _] | [.str _] | [.tup _] | [.lst _] | [.ref _] | [.exc _] | [.cst _] => rfl
    | .non :: _ :: _ | .bl _ :: _ :: _ | .int _ :: _ :: _ | .str _ :: _ :: _ | .tup _ :: _ :: _ | .lst _ :: _ :: _ | .ref _ :: _ :: _ | .exc _ :: _ :: _ | .cst _ :: _ :: _ => rfl) ?_
  intro pins s σ H M h d z v u Q I hr x ru e q
  cases d with
  | bl b =>
    cases e
    rw [show v = .bl b from x] at ru
    exact call_int1 pins s σ H [.bl b] [u] Q I (.cons ru .nil) (.inr ⟨b, rfl, q M H _ (Post.refl hr) rfl⟩)
  | int i =>
    cases e
    rw [show v = .int i from x] at ru
    exact call_int1 pins s σ H [.int i] [u] Q I (.cons ru .nil) (.inl ⟨i, rfl, q M H _ (Post.refl hr) rfl⟩)
  | _ => cases e
theorem bi_ord (ck : Ck G X) : BiR G X .ord (.builtin "ord") := by
  refine bi_one (k := fun d h => match d with
    | .str [c] => some (.int c)
    | _ => none) (fun ds h => by
    match ds with
    | [] => rfl
    | [.str []] | [.str [_]] | [.str (_ :: _ :: _)] => rfl
    | [.non] | [.bl _] | [.int _] | [.tup _] | [.lst _] | [.ref _] | [.exc _] | [.cst _] => rfl
    | .str [] :: _ :: _ | .str [_] :: _ :: _ | .str (_ :: _ :: _) :: _ :: _ => rfl
    | .non :: _ :: _ | .bl _ :: _ :: _ | .int _ :: _ :: _ | .tup _ :: _ :: _ | .lst _ :: _ :: _ | .ref _ :: _ :: _ | .exc _ :: _ :: _ | .cst _ :: _ :: _ => rfl) ?_
  intro pins s σ H M h d z v u Q I hr x ru e q
  cases d with
  | str ss =>
    cases ss with
    | nil => cases e
    | cons c r =>
    cases r with
    | cons _ _ => cases e
    | nil =>
    cases e
    obtain ⟨rfl, k⟩ := x
    exact call_ord pins s σ H [.str (sOf [c])] [u] Q I (.cons ru .nil) ⟨_, rfl, rfl, q M H _ (Post.refl hr) rfl⟩
  | _ => cases e
theorem ofS_str (z : String) : Str.ofString z = sOf (z.toList.map Char.toNat) := by
  exact Str.ofString_eq_toList z
theorem bi_str (ck : Ck G X) : BiR G X .str (.type "str") := by
  refine bi_one (k := fun d h => match d with
    | .int i => if i.natAbs.log2 < 1920 ∧ okLen (strI i).length = true then some (.str (strI i)) else none
    | _ => none) (fun ds h => by
    match ds with
    | [] => rfl
    | [.int i] =>
      show (if _ then _ else _) = ofO (if _ then _ else _) h
      by_cases c : i.natAbs.log2 < 1920 ∧ okLen (strI i).length = true
      · rw [if_pos c, if_pos c] <;> rfl
      · rw [if_neg c, if_neg c] <;> rfl
    | [.non] | [.bl _] | [.str _] | [.tup _] | [.lst _] | [.ref _] | [.exc _] | [.cst _] => rfl
    | .non :: _ :: _ | .bl _ :: _ :: _ | .int _ :: _ :: _ | .str _ :: _ :: _ | .tup _ :: _ :: _ | .lst _ :: _ :: _ | .ref _ :: _ :: _ | .exc _ :: _ :: _ | .cst _ :: _ :: _ => rfl) ?_
  intro pins s σ H M h d z v u Q I hr x ru e q
  cases d with
  | int i =>
    obtain ⟨c, rfl⟩ := ite_some e
    rw [show v = .int i from x] at ru
    refine call_str_int pins s σ H [.int i] [u] Q I (.cons ru .nil) ⟨i, rfl, c.1, ?_⟩
    refine q M H _ (Post.refl hr) ⟨congrArg V.str (ofS_str _), by simpa [okLen] using c.2, fun k hk => ?_⟩
    obtain ⟨ch, _, rfl⟩ := List.mem_map.mp hk
    have := ch.valid
    rcases this with h1 | h1
    · exact Nat.lt_trans h1 (by decide)
    · exact h1.2
  | _ => cases e

/-! ### sorted -/
theorem each_of : ∀ {ds : List D} {vs : List V} {us : List Value} {R : Value → D → Prop}, DRs G M H ds vs → Vals vs us → (∀ d v u, d ∈ ds → DR G M H d v → RelV v u → R u d) → PySem.W.EachIs R us ds
  | [], vs, us, R, x, rv, f => by
    rw [show vs = [] from x] at rv
    rw [rv.zero]
    exact .nil
  | d :: ds, vs, us, R, x, rv, f => by
    obtain ⟨v, w, rfl, x1, x2⟩ := x
    cases rv with
    | cons r1 r2 => exact .cons (f d v _ List.mem_cons_self x1 r1) (each_of x2 r2 fun d v u hd => f d v u (List.mem_cons_of_mem _ hd))
theorem each_to : ∀ {ds : List D} {us : List Value}, PySem.W.EachIs (fun u d => ∃ v, RelV v u ∧ DR G M H d v) us ds → ∃ vs, DRs G M H ds vs ∧ Vals vs us
  | _, _, .nil => ⟨[], rfl, .nil⟩
  | _, _, .cons ⟨v, r, x⟩ e => by
    obtain ⟨vs, y, rv⟩ := each_to e
    exact ⟨v :: vs, ⟨v, vs, rfl, x, y⟩, .cons r rv⟩
theorem bi_sorted (ck : Ck G X) : BiR G X .sorted (.builtin "sorted") := by
  refine bi_one (k := fun d h => (listOf d h).bind fun xs => if sortable xs = true then some (.lst (srt xs)) else none) (fun ds h => by
    match ds with
    | [] => rfl
    | [_] => rfl
    | _ :: _ :: _ => rfl) ?_
  intro pins s σ H M h d z v u Q I hr x ru e q
  obtain ⟨xs, e1, e2⟩ := bindO e
  obtain ⟨c, rfl⟩ := ite_some e2
  obtain ⟨a, vs, rfl, hq, w⟩ := lst_of ck hr x e1
  obtain ⟨its, rv, hl, hz⟩ := I.list hq
  cases ru
  unfold sortable at c
  rw [Bool.and_eq_true] at c
  obtain ⟨c1, c2⟩ := c
  have c1 : ∀ d ∈ xs, (toPy d).depth ≤ 40 ∧ ∀ d' ∈ xs, alikeD d d' = true := fun d hd => by
    have := List.all_eq_true.mp c1 d hd
    rw [Bool.and_eq_true] at this
    exact ⟨of_decide_eq_true this.1, List.all_eq_true.mp this.2⟩
  have er := each_of (R := fun u d => ∃ v, RelV v u ∧ DR G M H d v) w rv fun d v u _ x r => ⟨v, r, x⟩
  have ed := each_of (R := fun u d => ∃ as, Reads s.heap u (toPy d) as) w rv fun d v u hd x r => Dp.reads I _ _ _ (by rw [ck.K]; exact alike_dp d v ((c1 d hd).2 d hd) x) r
  refine PySem.W.sorted_data (enc := toPy) (A := X.A) hl.isList er ed ?_ ?_ (by rw [w.length]; exact hz) ?_ fun out ho eo => ?_
  · intro p hp p' hp'
    obtain ⟨d, hd, rfl⟩ := List.mem_map.mp hp
    obtain ⟨d', hd', rfl⟩ := List.mem_map.mp hp'
    exact alike_py d d' ((c1 d hd).2 d' hd')
  · rw [Bool.or_eq_true] at c2
    rcases c2 with c2 | c2
    · refine .inl fun p hp => ?_
      obtain ⟨d, hd, rfl⟩ := List.mem_map.mp hp
      have := List.all_eq_true.mp c2 d hd
      match d, this with
      | .tup (y :: ys), _ => exact ⟨toPy y, toPys ys, by simp [toPy, toPys]⟩
    · refine .inr fun p hp => ?_
      obtain ⟨d, hd, rfl⟩ := List.mem_map.mp hp
      have t := List.all_eq_true.mp c2 d hd
      have al := (c1 d hd).2 d hd
      cases d with
      | int i => simp [toPy]
      | str z => simp [toPy]
      | tup ys => cases t
      | _ => cases al
  · intro d hd
    have := (c1 d hd).1
    have := ck.un
    omega
  · obtain ⟨ep, he'⟩ := PyProof.Rows.sortedAll_at s.heap its out.toArray
    obtain ⟨ws, y, rw'⟩ := each_to eo
    have hn : H (s.heap.objs.size + 1) = none := I.hok.fresh (Nat.le_succ _)
    have hlen : ws.length ≤ sizeLine := by
      rw [rw'.length, ho, w.length]
      exact hz
    obtain ⟨P, R⟩ := new_lst hr hn y
    exact ⟨.ref _, upd H (s.heap.objs.size + 1) (.lst ws), I.laid (o := .lst ws) (t' := s.toks) (fun _ _ => PyProof.Rows.sortedAll_old) (Nat.le_succ _) ⟨hlen, out, ep, rw', he'⟩, rfl, q M _ _ P R⟩
end
end Mi

/-! sorted(d.items()) -/
namespace Mi
open PySem PySem.Spec PyProof.Rows L2

section
variable {G : Gd} {M M' M1 : List Addr} {H H' H1 : AH} {h h' h1 : Hp} {W : WX} {X : Cx} {e a b c : Expr} {es : List Expr} {m ma mb mc : E} {ms : List E} {pins : List (Addr × Obj)} {s : Shared} {σ : L2.St} {ρ : Env} {pos : Pos} {C : Ctx}
/-- new objects are laid beside those there were -/
theorem inv_news (I : Inv X pins σ H s) {g' : Heap} {tk : Nat} {H' : AH} (hk : ∀ b o, s.heap.get? b = some o → g'.get? b = some o) (kp : ∀ b u, H b = some u → H' b = some u) (fr : ∀ b o, s.heap.get? b = some o → H b = none → H' b = none)
    (nw : ∀ b u, H' b = some u → H b = some u ∨ ObjOk X.prog X.w H' g' b u) : Inv X pins σ H' { s with heap := g', toks := tk } := by
  refine I.call' (ch := []) rfl ⟨fun b o q _ _ _ => hk b o q, fun b o q _ _ _ => ⟨o.slots, hk b o q⟩, fun b o q n _ => fr b o q n, fun b o q _ => ⟨o, hk b o q⟩, fun b xs q => kp b _ q, fun b o u q => kp b _ q, fun b ps q => ⟨#[], by rw [kp b _ q]; simp⟩⟩ (fun b u q => ?_) I.bare fun b z => by simp at z
  rcases nw b u q with o | o
  · exact (I.hok b u o).stay (fun d v _ y => hk d v y) (fun d y => kp d _ y) fun d xs y => kp d _ y
  · exact o
theorem Post.ext (r : HR G M h H) (kp : ∀ b u, H b = some u → H' b = some u) : Post G M H M h H' :=
  ⟨⟨[], by simp, fun _ z => nomatch z⟩, fun b u _ q => kp b u q, ⟨r.len, r.nd, fun k p q => by
    obtain ⟨b, hb, y⟩ := r.obj k p q
    obtain ⟨u, hu⟩ := y.there
    exact ⟨b, hb, y.keeps r (fun c w _ _ z => kp c w z) (fun _ _ e => e) (by rw [hu]; exact kp b u hu)⟩⟩⟩
/-- tuples are laid, one behind the other -/
def layT : AH → List (Addr × Obj × List V) → AH
  | H, [] => H
  | H, p :: r => layT (upd H p.1 (.frz p.2.1 (.tup p.2.2))) r
theorem layT_off {b : Addr} : ∀ (l : List (Addr × Obj × List V)) (H : AH), b ∉ l.map (·.1) → layT H l b = H b
  | [], _, _ => rfl
  | p :: r, H, n => by
    rw [List.map_cons, List.mem_cons, not_or] at n
    show layT (upd H p.1 _) r b = _
    rw [layT_off r _ n.2, upd_ne n.1]
theorem layT_at : ∀ (l : List (Addr × Obj × List V)) (H : AH), (l.map (·.1)).Nodup → ∀ p ∈ l, layT H l p.1 = some (.frz p.2.1 (.tup p.2.2))
  | [], _, _, _, h => nomatch h
  | q :: r, H, nd, p, hp => by
    rw [List.map_cons, List.nodup_cons] at nd
    rcases List.mem_cons.mp hp with rfl | hp
    · show layT (upd H p.1 _) r p.1 = _
      rw [layT_off r _ nd.1, upd_same]
    · exact layT_at r _ nd.2 p hp
/-- a pair of a key and a value -/
def pairO (k v : Value) : Obj := { cls := .type "tuple", data := .seq #[k, v] }
theorem DRs_ix : ∀ {ds : List D} {vs : List V}, ds.length = vs.length → (∀ (j : Nat) (d : D) (v : V), ds[j]? = some d → vs[j]? = some v → DR G M H d v) → DRs G M H ds vs
  | [], [], _, _ => rfl
  | [], _ :: _, h, _ => by simp at h
  | _ :: _, [], h, _ => by simp at h
  | d :: ds, v :: vs, h, f => ⟨v, vs, rfl, f 0 d v rfl rfl, DRs_ix (by simpa using h) fun j d' v' h1 h2 => f (j + 1) d' v' (by simpa using h1) (by simpa using h2)⟩
theorem pairs_ix {K : Type} [DecidableEq K] {P : Program} {w : World} {knd : KeyKind P w K} : ∀ {es : List DictEntry} {kvs : List (K × Value)}, Pairs knd es kvs → es.length = kvs.length ∧ ∀ (j : Nat) (e : DictEntry) (p : K × Value), es[j]? = some e → kvs[j]? = some p → knd.is p.1 e.key = true ∧ e.val = p.2
  | _, _, .nil => ⟨rfl, fun j e p h _ => by simp at h⟩
  | _, _, .cons h1 h2 t => by
    obtain ⟨l, f⟩ := pairs_ix t
    refine ⟨by rw [List.length_cons, List.length_cons, l], fun j e p g1 g2 => ?_⟩
    cases j with
    | zero => cases g1; cases g2; exact ⟨h1, h2⟩
    | succ j => exact f j e p (by simpa using g1) (by simpa using g2)
theorem kv_ix : ∀ {ks : List (L2.Key × V)} {vs : List (L2.Key × Value)}, KV ks vs → ∀ (j : Nat) (x : L2.Key × V) (y : L2.Key × Value), ks[j]? = some x → vs[j]? = some y → x.1 = y.1 ∧ RelV x.2 y.2
  | _, _, .nil, j, x, y, h1, _ => by simp at h1
  | _, _, .cons h t, j, x, y, h1, h2 => by
    cases j with
    | zero => cases h1; cases h2; exact h
    | succ j => exact kv_ix t j x y (by simpa using h1) (by simpa using h2)
mutual
theorem reads_flat {h : Heap} : ∀ (d : D) (v : Value) (as : List Addr), alikeD d d = true → Reads h v (toPy d) as → as = []
  | .int i, v, as, _, r => by simp only [toPy] at r; cases r; rfl
  | .str z, v, as, _, r => by simp only [toPy] at r; cases r; rfl
  | .tup xs, v, as, a, r => by
    simp only [toPy] at r
    cases r with
    | tuple _ _ _ t => exact readsAll_flat xs _ as (by simpa [alikeD] using a) t
  | .non, _, _, a, _ => by simp [alikeD] at a
  | .bl _, _, _, a, _ => by simp [alikeD] at a
  | .lst _, _, _, a, _ => by simp [alikeD] at a
  | .ref _, _, _, a, _ => by simp [alikeD] at a
  | .exc _, _, _, a, _ => by simp [alikeD] at a
  | .cst _, _, _, a, _ => by simp [alikeD] at a
theorem readsAll_flat {h : Heap} : ∀ (ds : List D) (vs : List Value) (as : List Addr), alikeDs ds ds = true → ReadsAll h vs (toPys ds) as → as = []
  | [], vs, as, _, r => by simp only [toPys] at r; cases r; rfl
  | d :: ds, vs, as, a, r => by
    simp only [alikeDs, Bool.and_eq_true] at a
    simp only [toPys] at r
    cases r with
    | cons r1 r2 => rw [reads_flat d _ _ a.1 r1, readsAll_flat ds _ _ a.2 r2]; rfl
end
theorem sorted_items (ck : Ck G X) (I : Inv X pins σ H s) (hr : HR G M h H) {d r : Addr} {kvs : List (D × D)} {ks : List (L2.Key × V)} (hp : H d = some (.dK ks)) (dk : DkR G M H kvs ks) (c : sortable (itD kvs) = true) (view : s.heap.IsItemsView r d) {Q : VK}
    (q : ∀ H' v, Post G M H M h H' → RD G M H H' (.lst (srt (itD kvs))) v → Q v H') : wpAny (model X.prog X.w) X.A (PySem.call (.builtin "sorted") [.ref r]) (EP X pins σ Q) X.xe s := by
  obtain ⟨z, hd, vs, rel, o, ents, ep, ho, hx, hdat, hks, hpr, hnd⟩ := dk_of I.hok hp
  obtain ⟨pl, pix⟩ := pairs_ix hpr
  have kl : kvs.length = ks.length := dk.len
  have kv : ks.length = vs.length := rel.length
  have el : ents.size = vs.length := by rw [← Array.length_toList]; exact pl
  refine DT.sortedI (es := ents) (ep := ep) (I.ok.hd ck.calm) view ⟨o, ho, hx, hdat⟩ (by rw [el, ← kv]; exact z) fun h' tk as hk hlt hl hG => ?_
  have al : as.length = ks.length := by omega
  have nd : as.Nodup := List.Pairwise.imp (fun {a b} (h : a < b) => Nat.ne_of_lt h) hG.rise
  have new : ∀ t ∈ as, H t = none := fun t ht => I.hok.fresh (Nat.le_of_lt (hG.above t ht))
  -- what is laid
  let l : List (Addr × Obj × List V) := (as.zip ks).map fun p => (p.1, (h'.get? p.1).getD { cls := .none, data := .fields #[] }, [kV p.2.1, p.2.2])
  have l1 : l.map (·.1) = as := by
    show ((as.zip ks).map _).map _ = as
    rw [List.map_map]
    exact List.map_fst_zip (by omega)
  have l2 : ∀ (j : Nat) (b : Addr), as[j]? = some b → ∃ (p : L2.Key × V) (ob : Obj) (u w : Value), ks[j]? = some p ∧ (b, ob, [kV p.1, p.2]) ∈ l ∧ h'.get? b = some ob ∧ ob = { cls := .type "tuple", data := .seq #[u, w] } ∧ RelV (kV p.1) u ∧ RelV p.2 w := by
    intro j b hj
    have jl : j < ks.length := by rw [← al]; exact (List.getElem?_eq_some_iff.mp hj).1
    have jv : j < vs.length := by rw [← kv]; exact jl
    obtain ⟨en, he, hg⟩ := hG.pairs j b hj
    have hkj := List.getElem?_eq_getElem jl
    have hvj := List.getElem?_eq_getElem jv
    obtain ⟨p1, p2⟩ := pix j en vs[j] (by rw [Array.getElem?_toList]; exact he) hvj
    obtain ⟨r1, r2⟩ := kv_ix rel j _ _ hkj hvj
    refine ⟨ks[j], _, en.key, en.val, hkj, ?_, hg, rfl, ?_, ?_⟩
    · refine List.mem_map.mpr ⟨(b, ks[j]), List.mem_of_getElem? (i := j) ?_, ?_⟩
      · rw [List.getElem?_zip_eq_some]; exact ⟨hj, hkj⟩
      · show (b, (h'.get? b).getD _, [kV ks[j].1, ks[j].2]) = _
        rw [hg] <;> rfl
    · rw [r1]; exact relV_key (show keyIs vs[j].1 en.key = true from p1)
    · rw [p2]; exact r2
  have ndl : (l.map (·.1)).Nodup := by rw [l1]; exact nd
  have kp : ∀ b u, H b = some u → layT H l b = some u := fun b u e => by
    rw [layT_off l H (by rw [l1]; exact fun z => by rw [new b z] at e; cases e)]; exact e
  have atj : ∀ (j : Nat) (b : Addr), as[j]? = some b → ∃ (p : L2.Key × V) (ob : Obj) (u w : Value), ks[j]? = some p ∧ layT H l b = some (.frz ob (.tup [kV p.1, p.2])) ∧ h'.get? b = some ob ∧ ob = { cls := .type "tuple", data := .seq #[u, w] } ∧ RelV (kV p.1) u ∧ RelV p.2 w := fun j b hj => by
    obtain ⟨p, ob, u, w, e1, e2, e3, e4, e5, e6⟩ := l2 j b hj
    exact ⟨p, ob, u, w, e1, layT_at l H ndl _ e2, e3, e4, e5, e6⟩
  have I1 : Inv X pins σ (layT H l) { s with heap := h', toks := tk } := by
    refine inv_news I hk kp (fun b o e n => ?_) fun b u e => ?_
    · rw [layT_off l H (by rw [l1]; exact fun z => absurd (Heap.lt_size e) (Nat.not_lt.mpr (Nat.le_of_lt (hG.above b z))))]; exact n
    · by_cases hb : b ∈ as
      · obtain ⟨j, hj⟩ := List.mem_iff_getElem?.mp hb
        obtain ⟨p, ob, u', w', e1, e2, e3, e4, e5, e6⟩ := atj j b hj
        rw [e2] at e
        cases e
        subst e4
        exact .inr ⟨e3, by show 2 ≤ sizeLine; decide, [u', w'], .cons e5 (.cons e6 .nil), ⟨_, e3, rfl, _, rfl⟩⟩
      · rw [layT_off l H (by rw [l1]; exact hb)] at e
        exact .inl e
  have P1 : Post G M H M h (layT H l) := Post.ext hr kp
  have dk1 : DkR G M (layT H l) kvs ks := ⟨dk.key, dk.ok, dk.val.mono hr P1⟩
  have w1 : DRs G M (layT H l) (itD kvs) (as.map V.ref) := by
    refine DRs_ix (by unfold itD; simp; omega) fun j dd v h1 h2 => ?_
    unfold itD at h1
    rw [List.getElem?_map] at h1 h2
    obtain ⟨kvj, g1, rfl⟩ := Option.map_eq_some_iff.mp h1
    obtain ⟨b, g2, rfl⟩ := Option.map_eq_some_iff.mp h2
    obtain ⟨p, ob, u, w, e1, e2, e3, e4, e5, e6⟩ := atj j b g2
    subst e4
    have ek : kvj.1 = keyD p.1 := by
      have := congrArg (fun l : List D => l[j]?) dk.key
      simp only [List.getElem?_map, g1, e1, Option.map_some, Option.some.injEq] at this
      exact this
    obtain ⟨y, hy, dy⟩ := dk1.val.get (i := j) (d := kvj.2) (by rw [List.getElem?_map, g1]; rfl)
    rw [List.getElem?_map, e1] at hy
    cases hy
    refine ⟨b, [kV p.1, p.2], rfl, ⟨.inl (.inr ⟨_, e2⟩), .inl ⟨_, _, e2, rfl⟩⟩, kV p.1, [p.2], rfl, ?_, DRs.one dy⟩
    rw [ek]
    have ok := dk.ok p (List.mem_of_getElem? e1)
    cases q : p.1 with
    | inl i => rfl
    | inr z => exact ⟨rfl, ok z q⟩
  -- the sort
  have rv : Vals (as.map V.ref) (as.map Value.ref) := vals_refs as
  have hL : (h'.push { cls := .type "list", data := .seq (as.map Value.ref).toArray }).get? h'.objs.size = some (seqObj "list" (as.map Value.ref).toArray 0) := Heap.get?_push_size _ rfl
  have ka : ∀ b o, h'.get? b = some o → (h'.push { cls := .type "list", data := .seq (as.map Value.ref).toArray }).get? b = some o := fun b o e => Heap.get?_push_of_some _ e
  unfold sortable at c
  rw [Bool.and_eq_true] at c
  obtain ⟨c1, c2⟩ := c
  have c1 : ∀ d ∈ itD kvs, (toPy d).depth ≤ 40 ∧ ∀ d' ∈ itD kvs, alikeD d d' = true := fun d hd => by
    have := List.all_eq_true.mp c1 d hd
    rw [Bool.and_eq_true] at this
    exact ⟨of_decide_eq_true this.1, List.all_eq_true.mp this.2⟩
  have er := each_of (R := fun u d => ∃ v, RelV v u ∧ DR G M (layT H l) d v) w1 rv fun d v u _ x r => ⟨v, r, x⟩
  have ed := each_of (R := fun u d => ∃ as', Reads (h'.push { cls := .type "list", data := .seq (as.map Value.ref).toArray }) u (toPy d) as' ∧ h'.objs.size ∉ as') w1 rv fun d v u hd x r => by
    have ad := (c1 d hd).2 d hd
    obtain ⟨as', rd⟩ := Dp.reads I1 _ _ _ (by rw [ck.K]; exact alike_dp d v ad x) r
    have e0 := reads_flat d u as' ad rd
    subst e0
    exact ⟨[], PyProof.Rows.Reads.keeps ka rd, by simp⟩
  refine PySem.W.list_sort_data (enc := toPy) (s := { s with heap := h'.push { cls := .type "list", data := .seq (as.map Value.ref).toArray }, toks := tk }) hL er ed ?_ ?_ (by unfold itD; rw [List.length_map, kl]; exact z) (fun d hd => ?_) fun out ho eo => ?_
  · intro p hp p' hp'
    obtain ⟨d, hd, rfl⟩ := List.mem_map.mp hp
    obtain ⟨d', hd', rfl⟩ := List.mem_map.mp hp'
    exact alike_py d d' ((c1 d hd).2 d' hd')
  · refine .inl fun p hp => ?_
    obtain ⟨d, hd, rfl⟩ := List.mem_map.mp hp
    obtain ⟨kv, _, rfl⟩ := List.mem_map.mp hd
    exact ⟨toPy kv.1, [toPy kv.2], by simp [toPy, toPys]⟩
  · have := (c1 d hd).1
    have := ck.un
    show X.A.in1.units + 1 + _ < cLine
    have : X.A.in1.units ≤ X.A.units + 100 := by
      show X.A.units + _ ≤ _
      omega
    omega
  · obtain ⟨ep', he'⟩ := PyProof.Rows.sortedHeap_at (out := out.toArray) hL
    obtain ⟨ws, y, rw'⟩ := each_to eo
    have hn : layT H l h'.objs.size = none := I1.hok.fresh (Nat.le_refl _)
    have hlen : ws.length ≤ sizeLine := by
      rw [rw'.length, ho]
      unfold itD
      rw [List.length_map, kl]
      exact z
    obtain ⟨P2, R2⟩ := new_lst P1.hr hn y
    refine ⟨.ref h'.objs.size, _, ?_, rfl, q _ _ (P1.trans hr P2) (R2.back hr P1)⟩
    exact I1.laid (o := .lst ws) (t' := tk) (fun b o e => (PyProof.Rows.sortedHeap_old (Nat.ne_of_lt (Heap.lt_size e)) (by rw [Heap.size_push]; exact Nat.lt_succ_of_lt (Heap.lt_size e))).trans (ka b o e)) (Nat.le_refl _) ⟨hlen, out, ep', rw', he'⟩
theorem m_sortedItems {o : Expr} {mo : E} {p apos cpos : Pos} (ck : Ck G X) (hg : Gl X "sorted") (hm : X.mg "sorted" = none) (ho : PE X o (tO G W (ev C mo))) (hbase : attributeBase o "items" X.env (eval o X.env) = eval o X.env) (hline : (apos.endLine == cpos.line) = true) :
    PE X (.Call (.Name "sorted" p) [.Call (.Attribute o "items" apos) [] [] cpos] [] pos) (tO G W (ev C (.bi .sortedItems [mo]))) := by
  constructor
  intro pins s σ H Q I ⟨M, h, ρ, er, hr, g⟩
  have g : Got G (fun c d H' => W c d σ H') M H ((ev C mo ρ h).bd fun d h1 => biV .sortedItems [d] h1) fun d M' _ H' => ∀ v, RD G M' H H' d v → Q v H' := by
    have e : ev C (.bi .sortedItems [mo]) ρ h = (ev C mo ρ h).bd fun d h1 => biV .sortedItems [d] h1 := by
      rw [ev, evr]
      cases ev C mo ρ h <;> simp [Out.bd, evr]
    rw [e] at g
    exact g
  refine wpAny_Call_Name_kw (ld_blt I hg hm (by decide +kernel : bootBuiltins "sorted" = some (.builtin "sorted")) ?_ (by decide +kernel) (by decide +kernel))
  refine PyProof.Rows.callWith_builtin1 ?_ rfl rfl
  show wpAny _ _ (spliced ((false, eval (.Call (.Attribute o "items" apos) [] [] cpos) X.env) :: backTo pos (starEach [] X.env))) _ _ s
  refine Calls.spliced_cons ?_
  refine wpAny_Call_method0_late hbase hline (thn (use ho I er hr (Got.bd hr g)) fun u s1 ⟨d, M1, h1, H1, v, I1, ru, p1, r1, g1⟩ => ?_)
  have g2 : Got G (fun c d H' => W c d σ H') M1 H1 (match dicOf d h1 with
    | some (false, kvs) => if sortable (itD kvs) = true then Out.ok (.lst (srt (itD kvs))) h1 else .bad
    | _ => .bad) fun d M' _ H' => ∀ v, RD G M' H H' d v → Q v H' := g1
  cases ed : dicOf d h1 with
  | none => rw [ed] at g2; exact g2.elim
  | some q =>
    obtain ⟨t, kvs⟩ := q
    rw [ed] at g2
    cases t with
    | true => exact g2.elim
    | false =>
      by_cases c : sortable (itD kvs) = true
      · simp only [c, if_true] at g2
        obtain ⟨n, a, rfl, rfl, _, _, hp⟩ := dic_at p1.hr r1.vr ed
        obtain rfl : u = Value.ref a := ru
        rcases hp with ⟨_, ks, hp, dk⟩ | ⟨e, _⟩
        · obtain ⟨z, hs0, vs, kv, hdo⟩ := dk_of I1.hok hp
          have I2 : Inv X pins σ H1 { s1 with heap := s1.heap.push { cls := .type "dict_items", data := .fields #[.ref a] } } := I1.kept (t' := s1.toks) fun b ob q => Heap.get?_push_of_some _ q
          refine ⟨"dict", "dict.items", F.plainAttrs_dict, F.slot_dict_items, F.type_dict_items, hdo.typeIs, hdo.mapOf.noDict, ?_⟩
          show wpAny _ _ (callWith cpos (.builtin "dict.items") [.ref a] [] []) _ X.xe s1
          refine method_meetsIn F.slot_dict_items F.entry_dict_items rfl (PySem.evalArgs_none ⟨rfl, hdo.typeIs, F.args_dict_items_1 _, _, meets_dict_items (mixKind X.prog X.w) a hs0, ⟨vs, hdo⟩, ?_⟩)
          refine Calls.spliced_nil ?_
          exact sorted_items ck I2 p1.hr hp dk c ⟨_, Heap.get?_push_size _ rfl, rfl, rfl⟩ fun H' v P R => g2 M1 H' P v (R.back hr p1)
        · cases e
      · simp only [c] at g2; exact g2.elim
/-- list(range(n)) -/
theorem ints_rg {M : List Addr} {H : AH} (n : Nat) : DRs G M H ((List.range n).map fun (i : Nat) => D.int (i : Int)) ((List.range n).map fun (i : Nat) => V.int (0 + (i : Int))) := by
  have go : ∀ l : List Nat, DRs G M H (l.map fun (i : Nat) => D.int (i : Int)) (l.map fun (i : Nat) => V.int (0 + (i : Int))) := fun l => by
    induction l with
    | nil => rfl
    | cons i l ih => exact ⟨_, _, rfl, (show V.int (0 + (i : Int)) = .int (i : Int) by rw [Int.zero_add]), ih⟩
  exact go _
theorem m_listRng {e : Expr} {ma : E} {p q pos pos2 : Pos} (hc : X.calm = true) (hg : Gl X "list") (hm : X.mg "list" = none) (hg2 : Gl X "range") (hm2 : X.mg "range" = none) (hs : starEach [e] X.env = [(false, eval e X.env)]) (ha : PE X e (tO G W (ev C ma))) :
    PE X (.Call (.Name "list" p) [.Call (.Name "range" q) [e] [] pos2] [] pos) (tO G W (ev C (.lsI .rng ma .nil))) := by
  constructor
  intro pins s σ H Q I ⟨M, h, ρ, er, hr, g⟩
  have g : Got G (fun c d H' => W c d σ H') M H ((ev C ma ρ h).bd fun x h1 => ofO ((walkV .rng x .non h1).map D.lst) h1) fun d M' _ H' => ∀ v, RD G M' H H' d v → Q v H' := by
    have e : ev C (.lsI .rng ma .nil) ρ h = (ev C ma ρ h).bd fun x h1 => ofO ((walkV .rng x .non h1).map D.lst) h1 := by
      rw [ev]
      cases ev C ma ρ h <;> rfl
    rw [e] at g
    exact g
  refine (pe_listRg (p := p) (pos := pos) hc hg hm (prg_1 (p := q) (pos := pos2) hg2 hm2 ha hs)).run pins s σ H Q I ?_
  show tO G W (ev C ma) σ H _
  refine ⟨M, h, ρ, er, hr, (Got.bd hr g).imp fun d M1 h1 H1 q0 g1 v x => ?_⟩
  obtain ⟨z, e, q1⟩ := g1.ofO
  obtain ⟨ds, e1, rfl⟩ := mapO e
  cases d with
  | int n =>
    obtain ⟨hn, rfl⟩ := ite_some (show (if -4611686018427387904 ≤ n ∧ n ≤ 16777216 then some ((List.range n.toNat).map fun (i : Nat) => D.int (i : Int)) else none) = some ds from e1)
    refine ⟨n, by rw [show v = .int n from x], ⟨by omega, by omega, by omega, by omega, by omega⟩, fun a ha0 => ?_⟩
    have ev : rgV 0 n = (List.range n.toNat).map fun (i : Nat) => V.int (0 + (i : Int)) := by
      unfold rgV
      rw [Int.sub_zero]
    rw [ev]
    obtain ⟨P, R⟩ := new_lst q0.hr ha0 (ints_rg (G := G) (M := M1) (H := H1) n.toNat)
    exact q1 M1 _ P _ (R.back hr q0)
  | _ => cases e1
end
end Mi

/-! own classes: fields, methods, making -/
namespace Mi
open PySem PySem.Spec PyProof.Rows L2

section
variable {G : Gd} {M M' M1 : List Addr} {H H' H1 : AH} {h h' h1 : Hp} {W : WX} {X : Cx} {e o a b c : Expr} {es : List Expr} {mo me : E} {ms : List E} {pins : List (Addr × Obj)} {s : Shared} {σ : L2.St} {ρ : Env} {pos : Pos} {C : Ctx}
/-- the methods that a def may call, at level n -/
structure ObK (G : Gd) (X : Cx) (C : Ctx) (n : Nat) : Prop where
  mth : ∀ c m, C.hm (c, m) = true → ∃ f fd ps, Meth X.K (G.cl c) (Str.ofString m) f ∧ Binds X.K fd ps [] ∧ FnOk X.prog X.w X.K X.mg X.base (L2.CX X.prog X.w) n f fd ps (spOf G (C.fn (c, m)))
/-- a class that may be made -/
structure MkK (G : Gd) (X : Cx) (C : Ctx) (n : Nat) (x : Str) (c : String) : Prop where
  g : X.mg x = some (.ref (G.cl c))
  cl : ClG G c
  kp : PySem.W.keepIn X.K (.ref (G.cl c)) = true
  ini : (∀ ds h, C.fi (c, "__init__") ds h = .bad) ∨ ∃ k f fd ps, n = k + 1 ∧ Mk X.K (G.cl c) f ∧ Binds X.K fd ps [] ∧ FnOk X.prog X.w X.K X.mg X.base L2.CX0 k f fd ps fun vs H Q _ => spOf G (C.fi (c, "__init__")) vs H Q fun _ _ _ => False
theorem lookF_rel {f : String} : ∀ {fs : List (String × D)} {gs : List (Str × V)}, fs.map (fun p => Str.ofString p.1) = gs.map (·.1) → DRs G M H (fs.map (·.2)) (gs.map (·.2)) →
    (∀ d, lookF f fs = some d → ∃ v, gs.lookup (Str.ofString f) = some v ∧ DR G M H d v) ∧ (lookF f fs = none → gs.lookup (Str.ofString f) = none)
  | [], gs, e, x => by
    cases gs with
    | nil => exact ⟨fun d q => by simp [lookF] at q, fun _ => rfl⟩
    | cons g gs => cases e
  | (k, d) :: fs, [], e, x => by cases e
  | (k, d) :: fs, (k2, v) :: gs, e, x => by
    rw [List.map_cons, List.map_cons, List.cons.injEq] at e
    obtain ⟨v', r, e2, a, b⟩ := (show DRs G M H (d :: fs.map (·.2)) (v :: gs.map (·.2)) from x)
    cases e2
    obtain ⟨i1, i2⟩ := lookF_rel (f := f) e.2 b
    have e1 : Str.ofString k = k2 := e.1
    subst e1
    by_cases c : k = f
    · subst c
      have e3 : ((Str.ofString k, v) :: gs).lookup (Str.ofString k) = some v := by rw [List.lookup_cons]; simp
      rw [e3]
      simp only [lookF, if_true]
      exact ⟨fun d' q => by cases q; exact ⟨v, rfl, a⟩, fun q => by cases q⟩
    · have ne : (Str.ofString f == Str.ofString k) = false := by
        rw [beq_eq_false_iff_ne]
        exact fun z => c (ofS_inj z.symm)
      have e3 : ((Str.ofString k, v) :: gs).lookup (Str.ofString f) = gs.lookup (Str.ofString f) := by rw [List.lookup_cons, ne]
      rw [e3]
      simp only [lookF, c, if_false]
      exact ⟨i1, i2⟩
theorem putF_rel {f : String} {d : D} {v : V} (x1 : DR G M H d v) : ∀ {fs : List (String × D)} {gs : List (Str × V)}, fs.map (fun p => Str.ofString p.1) = gs.map (·.1) → DRs G M H (fs.map (·.2)) (gs.map (·.2)) →
    (Mi.putF f d fs).map (fun p => Str.ofString p.1) = (L2.putF (Str.ofString f) v gs).map (·.1) ∧ DRs G M H ((Mi.putF f d fs).map (·.2)) ((L2.putF (Str.ofString f) v gs).map (·.2))
  | [], gs, e, x => by
    cases gs with
    | nil => exact ⟨rfl, DRs.one x1⟩
    | cons g gs => cases e
  | (k, z) :: fs, [], e, x => by cases e
  | (k, z) :: fs, (k2, y) :: gs, e, x => by
    rw [List.map_cons, List.map_cons, List.cons.injEq] at e
    obtain ⟨v', r, e2, a, b⟩ := (show DRs G M H (z :: fs.map (·.2)) (y :: gs.map (·.2)) from x)
    cases e2
    obtain ⟨i1, i2⟩ := putF_rel (f := f) x1 e.2 b
    have e1 : Str.ofString k = k2 := e.1
    subst e1
    by_cases c : k = f
    · subst c
      simp only [Mi.putF, L2.putF, if_true, List.map_cons]
      exact ⟨by rw [e.2], v, _, rfl, x1, b⟩
    · have ne : ¬ Str.ofString k = Str.ofString f := fun z => c (ofS_inj z)
      simp only [Mi.putF, L2.putF, c, ne, if_false, List.map_cons]
      exact ⟨by rw [i1], y, _, rfl, a, i2⟩
/-- an instance, as it stands in both heaps -/
theorem ins_at (hr : HR G M h H) {d : D} {v : V} {c : String} {fs : List (String × D)} (x : VR G M H d v) (e : insOf d h = some (c, fs)) : ∃ n a dx gs, d = .ref n ∧ v = .ref a ∧ M[n]? = some a ∧ get h n = some (.ins c fs) ∧ H a = some (.ins (G.cl c) dx gs) ∧
    fs.map (fun p => Str.ofString p.1) = gs.map (·.1) ∧ DRs G M H (fs.map (·.2)) (gs.map (·.2)) ∧ ClG G c := by
  cases d with
  | ref n =>
    have e : (match get h n with
      | some (.ins c fs) => some (c, fs)
      | _ => none) = some (c, fs) := e
    cases g : get h n with
    | none => rw [g] at e; cases e
    | some o =>
      rw [g] at e
      cases o with
      | ins c' fs' =>
        cases e
        obtain ⟨b, hb, dx, gs, y1, y2, y3, y4⟩ := hr.obj n _ g
        obtain ⟨a, ha, rfl⟩ := x
        rw [ha] at hb
        obtain rfl := Option.some.inj hb
        exact ⟨n, a, dx, gs, rfl, rfl, ha, g, y1, y2, y3, y4⟩
      | _ => cases e
  | _ => cases e
/-- e.f -/
theorem m_fld {f : String} {name : Str} (ck : Ck G X) (hname : name = Str.ofString f) (hf : f ∈ G.flds) (ho : PE X o (tO G W (ev C mo))) (hbase : attributeBase o name X.env (eval o X.env) = eval o X.env) :
    PE X (.Attribute o name pos) (tO G W (ev C (.fld mo f))) := by
  subst hname
  constructor
  intro pins s σ H Q I ⟨M, h, ρ, er, hr, g⟩
  rw [ev] at g
  refine attr_of hbase (thn (use ho I er hr (Got.bd hr g)) fun u s1 ⟨d, M1, h1, H1, v, I1, ru, p1, r1, g1⟩ => ?_)
  have g1 : Got G (fun c d H' => W c d σ H') M1 H1 (match d with
    | .ref a => (match get h1 a with
      | some (.ins _ fs) => ofO (lookF f fs) h1
      | _ => .bad)
    | _ => .bad) fun d M' _ H' => ∀ v, RD G M' H H' d v → Q v H' := g1
  cases e : insOf d h1 with
  | none =>
    cases d with
    | ref n =>
      cases gn : get h1 n with
      | none => simp only [gn] at g1; exact g1.elim
      | some ob =>
        cases ob with
        | ins c fs => simp only [insOf, gn] at e; cases e
        | _ => simp only [gn] at g1; exact g1.elim
    | _ => exact g1.elim
  | some p =>
    obtain ⟨c, fs⟩ := p
    obtain ⟨n, a, dx, gs, rfl, rfl, hn, gn, ha, y2, y3, cg⟩ := ins_at p1.hr r1.vr e
    simp only [gn] at g1
    obtain ⟨z, e1, q⟩ := g1.ofO
    obtain ⟨v, e2, x⟩ := (lookF_rel y2 y3).1 z e1
    obtain rfl : u = Value.ref a := ru
    refine getattr_ok I1 ha (by rw [ck.K]; exact cg.cls) (by rw [ck.K]; exact cg.no f hf) e2 fun u' s2 I2 ru' => ⟨v, H1, I2, ru', ?_⟩
    exact q M1 H1 (Post.refl p1.hr) v x.rd
/-- o.f = e -/
theorem s_fset {f : String} {name : Str} {pos' : Pos} (ck : Ck G X) (hname : name = Str.ofString f) (hf : f ∈ G.flds) (ho : PE X o (tO G W (ev C mo))) (he : PE X e (tO G W (ev C me))) (hs : swapsWith e (some (.Attribute o name pos')) pos.line X.env = pure false) :
    PS X (.Assign [.Attribute o name pos'] e pos) (tS G W (ex C (.fset mo f me))) := by
  subst hname
  constructor
  intro pins s σ H N I ⟨M, h, ρ, er, hr, g⟩
  rw [ex] at g
  refine plainObj_wpAny_Assign_Attribute (thn (use he I er hr (GotF.fl hr er g)) fun ud s1 ⟨d, M1, h1, H1, vd, I1, rd, p1, x1, _, g1⟩ => ?_) hs
  obtain ⟨M2, p2, dd, _⟩ := p1.sto x1
  have er2 := er.mono hr p2
  refine thn (use ho I1 er2 p2.hr (GotF.fl2 hr p2 er2 g1)) fun uo s2 ⟨x, M3, h3, H3, vo, I3, ro, p3, x3, g3⟩ => ?_
  have p13 := p2.trans hr p3
  have g4 := GotF.from hr p13 g3
  cases ei : insOf x h3 with
  | none =>
    cases x with
    | ref n =>
      cases gn : get h3 n with
      | none => simp only [gn] at g4; exact g4.elim
      | some ob =>
        cases ob with
        | ins c fs => simp only [insOf, gn] at ei; cases ei
        | _ => simp only [gn] at g4; exact g4.elim
    | _ => exact g4.elim
  | some p =>
    obtain ⟨c, fs⟩ := p
    obtain ⟨n, a, dx, gs, rfl, rfl, hn, gn, ha, y2, y3, cg⟩ := ins_at p3.hr x3.vr ei
    simp only [gn] at g4
    by_cases c1 : fs.length < 1000
    · rw [if_pos c1] at g4
      obtain rfl : uo = Value.ref a := ro
      have lg : gs.length < 1000 := by
        have := congrArg List.length y2
        simp at this
        omega
      have dd3 := dd.mono p2.hr p3
      obtain ⟨z1, z2⟩ := putF_rel (f := f) dd3 y2 y3
      have kp : KeepN M3 H3 (upd H3 a (.ins (G.cl c) dx (L2.putF (Str.ofString f) vd gs))) := fun b w nb _ q => by
        rw [upd_ne (fun z => nb (by rw [z]; exact List.mem_of_getElem? hn))]; exact q
      have P : Post G M3 H3 M3 (put h3 n (.ins c (Mi.putF f (sto d h1).1 fs))) (upd H3 a (.ins (G.cl c) dx (L2.putF (Str.ofString f) vd gs))) :=
        Post.put p3.hr gn hn ⟨dx, _, upd_same, z1, z2.keeps p3.hr kp fun _ _ e => e, cg⟩
      exact setattr_ok I3 ha (by rw [ck.K]; exact cg.cls) (by rw [ck.K]; exact cg.no f hf) lg rd fun s4 I4 => ⟨σ, _, I4, g4 M3 _ σ P (er.mono hr (p13.trans hr P))⟩
    · rw [if_neg c1] at g4; exact g4.elim
/-- a new instance -/
theorem new_run {n : Nat} {x : Str} {c : String} {us : List Value} {ds : List D} {vs : List V} {Q : VK} {W' : XK} (ck : Ck G X) (MK : MkK G X C n x c) (hr0 : Room n X.A) (I : Inv X pins σ H s) (hr : HR G M h H) (rv : Vals vs us) (xs : DRs G M H ds vs)
    (g : Got G W' M H ((C.fi (c, "__init__") (.ref h.length :: ds) (.ins c [] :: h)).calm.bd fun r h2 => (match r with
      | .non => .ok (.ref h.length) h2
      | _ => .bad)) fun d M' _ H' => ∀ v, RD G M' H H' d v → Q v H') : wpAny (model X.prog X.w) X.A (PySem.call (.ref (G.cl c)) us) (EP X pins σ Q) X.xe s := by
  rcases MK.ini with bd | ⟨k, f, fd, ps, rfl, mk, hb, F⟩
  · rw [bd] at g; exact g.elim
  refine run_make mk F hr0 hb .nil pass0 I rv fun p dx np ndx nex => ?_
  rw [List.append_nil]
  have P1 := Post.lay (G := G) (u := .own p) hr ndx
  have np1 : (upd H dx (.own p)) p = none := by rw [upd_ne (Ne.symm nex)]; exact np
  have P2 := Post.new1 (G := G) (o := .ins c []) (u := .ins (G.cl c) dx []) P1.hr np1 ⟨dx, [], upd_same, rfl, rfl, MK.cl⟩
  have P := P1.trans hr P2
  have ln : (M ++ [p])[h.length]? = some p := by rw [← hr.len]; exact at_last
  refine ⟨M ++ [p], .ins c [] :: h, .ref h.length :: ds, P2.hr, ⟨_, _, rfl, ⟨p, ln, rfl⟩, xs.mono hr P⟩, ?_⟩
  cases o : C.fi (c, "__init__") (.ref h.length :: ds) (.ins c [] :: h) with
  | bad => rw [o] at g; exact g.elim
  | exc k' h2 => rw [o] at g; exact g.elim
  | ok r h2 =>
    rw [o] at g
    intro M' H' P3 v xr
    have PP := P.trans hr P3
    cases r with
    | non => exact ⟨xr, g M' H' PP (.ref p) ⟨p, P3.at ln, rfl⟩⟩
    | _ => exact (show False from g).elim
theorem m_new {n : Nat} {x : Str} {c : String} {p : Pos} (ck : Ck G X) (MK : MkK G X C n x c) (hr0 : Room n X.A) (hg : Gl X x) (hs : NoStar X e) (ha : PA X (e :: es) (tA G W (evs C ms)))
    (hdb : (x == ("__debug__" : Str)) = false) (hpl : (backTo pos (starEach es X.env)).any (·.1) = false) : PE X (.Call (.Name x p) (e :: es) [] pos) (tO G W (ev C (.new c ms))) := by
  constructor
  intro pins s σ H Q I ⟨M, h, ρ, er, hr, g⟩
  rw [ev] at g
  refine wpAny_Call_Name_kw (ld_glob I hg MK.g ?_ hdb)
  refine PySem.W.callWith_K (first := []) (h₀ := X.base) I.ok.mod.kin MK.kp (thn (useA (pos := pos) ha I er hr (Got.bd hr g)) fun us s1 ⟨ds, M1, h1, H1, vs, I1, rv, p1, x1, g1⟩ => ⟨I1.kIn, ?_⟩) (hs es) hpl
  exact new_run (us := us) ck MK hr0 I1 p1.hr rv x1 (g1.imp fun d M2 h2 H2 p2 q v y => q v (y.back hr p1))
theorem m_new0 {n : Nat} {x : Str} {c : String} {p : Pos} (ck : Ck G X) (MK : MkK G X C n x c) (hr0 : Room n X.A) (hg : Gl X x) (hdb : (x == ("__debug__" : Str)) = false) : PE X (.Call (.Name x p) [] [] pos) (tO G W (ev C (.new c []))) := by
  constructor
  intro pins s σ H Q I ⟨M, h, ρ, er, hr, g⟩
  rw [ev, evs] at g
  refine wpAny_Call_Name_kw (ld_glob I hg MK.g ?_ hdb)
  exact PySem.W.callWith_K0 I.kIn MK.kp (new_run (us := []) (ds := []) (vs := []) ck MK hr0 I hr .nil rfl g)
/-- a method call: the object first, then its method, then the arguments -/
theorem call_late {prog : Program} {w : World} {A : Around} {E : Value → Shared → Prop} {env : PySem.Env} {name : Str} {apos pos : Pos} {args : List Expr} {Q : Value → Shared → Prop} {s : Shared}
    (hbase : attributeBase o name env (eval o env) = eval o env)
    (hfew : ((backTo pos (starEach args env)).all (fun x => !x.1) && (backToKw pos (keywordEach [] env)).all (fun x => x.1.isSome)
      && decide (args.length + ([] : List Keyword).length + (if ([] : List Keyword).isEmpty then 0 else 1) < 30)) = true)
    (hline : (apos.endLine == pos.line) = true)
    (h : wpAny (model prog w) A (eval o env) (fun ov s₁ => ∀ pl : Sem Bool, wpAny (model prog w) A (getMethod ov name pl) (fun fx s₂ => wpAny (model prog w) A (callWith pos fx.1 fx.2 (backTo pos (starEach args env)) []) Q E s₂) E s₁) E s) :
    wpAny (model prog w) A (eval (.Call (.Attribute o name apos) args [] pos) env) Q E s := by
  rw [arm_eval_Call, hbase]
  refine wpAny_bind (wpAny_mono h (fun ov s₁ h₁ => ?_) fun _ _ e => e)
  refine wpAny_bind (wpAny_standAt ?_)
  have hform : methodCallForm (args.length + ([] : List Keyword).length) (backTo pos (starEach args env)) (backToKw pos (keywordEach [] env)) = true := hfew
  have hpos : methodCallPos true o env apos pos = pure pos := by unfold methodCallPos; simp [hline]
  unfold methodCall
  rw [hform]
  refine wpAny_bind (wpAny_holding (wpAny_mono (h₁ _) (fun fx s₂ h₂ => ?_) fun _ _ e => e))
  exact wpAny_bind (wpAny_of_eq hpos h₂)
end
end Mi

/-! methods of built-in types -/
namespace Mi
open PySem PySem.Spec PyProof.Rows L2

section
variable {G : Gd} {M M' M1 : List Addr} {H H' H1 : AH} {h h' h1 : Hp} {W : WX} {X : Cx} {e o a b c : Expr} {es : List Expr} {mm mo ma mb mc : E} {ms : List E} {pins : List (Addr × Obj)} {s : Shared} {σ : L2.St} {ρ : Env} {pos : Pos} {C : Ctx}

def kindT : Nat → String
  | 1 => "str"
  | 2 => "list"
  | 3 => "dict"
  | _ => ""
theorem kind_is (ck : Ck G X) (I : Inv X pins σ H s) (hr : HR G M h H) {d : D} {v : V} {u : Value} (ru : RelV v u) (x : VR G M H d v) (hk : kindD d h ≠ 0) : s.TypeIs u (kindT (kindD d h)) ∧ ∀ a, u = .ref a → ∃ ob, s.heap.get? a = some ob ∧ ob.dict = none := by
  cases d with
  | str z => obtain ⟨rfl, _⟩ := x; exact L2.tyV_is I ru (show L2.tyV X.K "str" (.str _) H from rfl)
  | lst ys =>
    obtain ⟨p, vs, rfl, _, q, _⟩ := x
    exact L2.tyV_is I ru (show L2.tyV X.K "list" (.ref p) H from .inl ⟨rfl, vs, .inl (.inl q)⟩)
  | ref n =>
    obtain ⟨p, hp, e1⟩ := x
    subst e1
    cases g : get h n with
    | none => exact absurd (by simp only [kindD, g]) hk
    | some o =>
      obtain ⟨b, hb, y⟩ := hr.obj n o g
      rw [hp] at hb; cases hb
      cases o with
      | lst xs =>
        have e : kindD (.ref n) h = 2 := by simp only [kindD, g]
        rw [e]
        obtain ⟨vs, z, _⟩ := y
        exact L2.tyV_is I ru (show L2.tyV X.K "list" (.ref p) H from .inl ⟨rfl, vs, .inl (.inl z)⟩)
      | dic t kvs =>
        have e : kindD (.ref n) h = 3 := by simp only [kindD, g]
        rw [e]
        cases t with
        | true =>
          obtain ⟨es, z, w⟩ := y
          cases ru
          obtain ⟨_, _, _, xs, _, o, _, _, ho, hx, _⟩ := td_of ck.K ck.w I z ⟨w.1, w.2.1, w.2.2⟩
          exact ⟨⟨o, ho, hx.1⟩, fun a e => by cases e; exact ⟨o, ho, hx.2.1⟩⟩
        | false =>
          obtain ⟨ks, z, _⟩ := y
          exact L2.tyV_is I ru (show L2.tyV X.K "dict" (.ref p) H from .inr (.inr (.inl ⟨rfl, .inl ⟨ks, z⟩⟩)))
      | frz xs => exact absurd (by simp only [kindD, g]) hk
      | ins c fs => exact absurd (by simp only [kindD, g]) hk
  | _ => exact absurd rfl hk
/-- a method of objects of kind k -/
def MtG (G : Gd) (X : Cx) (m : String) (k : Nat) (id : String) : Prop := ∀ (pins : List (Addr × Obj)) (s : Shared) (σ : L2.St) (H : AH) (M : List Addr) (h : Hp) (x : D) (ds : List D) (v : V) (vs : List V) (u : Value) (us : List Value) (Q : VK) (W' : XK), Inv X pins σ H s → HR G M h H →
  kindD x h = k → VR G M H x v → DRs G M H ds vs → RelV v u → Vals vs us → Got G W' M H (mthV m x ds h) (fun d M' _ H' => ∀ v, RD G M' H H' d v → Q v H') → wpAny (model X.prog X.w) X.A (PySem.call (.builtin id) (u :: us)) (EP X pins σ Q) X.xe s
/-- the methods of a kind -/
def MR (G : Gd) (X : Cx) (m : String) (k : Nat) : Prop := k ≠ 0 ∧ ∃ id, PlainAttrs (kindT k) ∧ Slot (kindT k) (Str.ofString m) id ∧ typeOf (.builtin id) = pure (.type "method_descriptor") ∧ MtG G X m k id
theorem got_bad {W' : XK} {α : Type} {k : α → List Addr → Hp → AH → Prop} (g : Got G W' M H (.bad : Out α) k) : False := g
theorem kind_lst (hr : HR G M h H) {d : D} {v : V} (x : VR G M H d v) (hk : kindD d h = 2) : ∃ p xs vs, v = .ref p ∧ H p = some (.lst vs) ∧ DRs G M H xs vs ∧ ((d = .lst xs ∧ p ∉ M) ∨ ∃ n, d = .ref n ∧ get h n = some (.lst xs) ∧ M[n]? = some p) := by
  cases d with
  | lst ys =>
    obtain ⟨p, vs, rfl, n, q, w⟩ := x
    exact ⟨p, ys, vs, rfl, q, w, .inl ⟨rfl, n⟩⟩
  | ref n =>
    obtain ⟨p, hp, e1⟩ := x
    subst e1
    cases g : get h n with
    | none => simp [kindD, g] at hk
    | some o =>
      obtain ⟨b, hb, y⟩ := hr.obj n o g
      rw [hp] at hb; cases hb
      cases o with
      | lst xs =>
        obtain ⟨vs, z, w⟩ := y
        exact ⟨p, xs, vs, rfl, z, w, .inr ⟨n, rfl, g, hp⟩⟩
      | _ => simp [kindD, g] at hk
  | _ => simp [kindD] at hk
theorem mthV_ref {m : String} {n : Nat} {xs ds : List D} (g : get h n = some (.lst xs)) : mthV m (.ref n) ds h = lstM m n xs ds h := by
  unfold mthV
  simp only [g]
theorem upd_keep {p : Addr} {u : HO} (mem : p ∈ M) : KeepA M H (upd H p u) := fun b w nb q => by
  rw [upd_ne (fun z => nb (by rw [z]; exact mem))]; exact q
theorem lst_put (hr : HR G M h H) {n : Nat} {p : Addr} {xs ys : List D} {ws : List V} (g : get h n = some (.lst xs)) (hp : M[n]? = some p) (w : DRs G M H ys ws) : Post G M H M (put h n (.lst ys)) (upd H p (.lst ws)) :=
  Post.put hr g hp ⟨ws, upd_same, w.keeps hr (upd_keep (List.mem_of_getElem? hp)).n fun _ _ e => e⟩
theorem lst_put_dr (hr : HR G M h H) {p : Addr} {d : D} {v : V} {u : HO} (mem : p ∈ M) (x : DR G M H d v) : DR G M (upd H p u) d v := x.keeps hr (upd_keep mem).n fun _ _ e => e
theorem mth_append : MtG G X "append" 2 "list.append" := by
  intro pins s σ H M h x ds v vs u us Q W' I hr hk rx rds ru rus g
  obtain ⟨p, xs, ws, rfl, q, w, hx⟩ := kind_lst hr rx hk
  rcases hx with ⟨rfl, _⟩ | ⟨n, rfl, gn, hp⟩
  · exact g.elim
  rw [mthV_ref gn] at g
  match ds, rds, g with
  | [], _, g => exact g.elim
  | _ :: _ :: _, _, g => exact g.elim
  | [d], rds, g =>
    obtain ⟨y, r, rfl, x1, x2⟩ := rds
    cases x2
    have g : Got G W' M H (if xs.length < 16777216 then Out.ok D.non (put h n (.lst (xs ++ [d]))) else .bad) _ := g
    by_cases c : xs.length < 16777216
    · rw [if_pos c] at g
      exact mt_append pins s σ H (.ref p) [y] u us Q I ru rus ⟨p, ws, y, rfl, rfl, q, by rw [← w.length, sz_eq]; exact c, g M _ (lst_put hr gn hp (w.append ⟨y, [], rfl, x1, rfl⟩)) _ rfl⟩
    · rw [if_neg c] at g; exact g.elim
theorem mth_extend : MtG G X "extend" 2 "list.extend" := by
  intro pins s σ H M h x ds v vs u us Q W' I hr hk rx rds ru rus g
  obtain ⟨p, xs, ws, rfl, q, w, hx⟩ := kind_lst hr rx hk
  rcases hx with ⟨rfl, _⟩ | ⟨n, rfl, gn, hp⟩
  · exact g.elim
  rw [mthV_ref gn] at g
  match ds, rds, g with
  | [], _, g => exact g.elim
  | _ :: _ :: _, _, g => exact g.elim
  | [d], rds, g =>
    obtain ⟨y, r, rfl, x1, x2⟩ := rds
    cases x2
    have g : Got G W' M H (match mutOf d h with
      | some ys => if okLen (xs.length + ys.length) then Out.ok D.non (put h n (.lst (xs ++ ys))) else .bad
      | none => .bad) _ := g
    cases em : mutOf d h with
    | none => rw [em] at g; exact g.elim
    | some ys =>
      rw [em] at g
      obtain ⟨p2, zs, rfl, q2, w2⟩ := VR.mut hr x1.vr em
      have g : Got G W' M H (if okLen (xs.length + ys.length) then Out.ok D.non (put h n (.lst (xs ++ ys))) else .bad) _ := g
      by_cases c : okLen (xs.length + ys.length) = true
      · rw [if_pos c] at g
        refine mt_extend pins s σ H (.ref p) [.ref p2] u us Q I ru rus ⟨p, p2, ws, zs, rfl, rfl, q, q2, ?_, g M _ (lst_put hr gn hp (w.append w2)) _ rfl⟩
        rw [← w.length, ← w2.length, sz_eq]
        exact of_decide_eq_true c
      · rw [if_neg c] at g; exact g.elim
theorem mth_pop : MtG G X "pop" 2 "list.pop" := by
  intro pins s σ H M h x ds v vs u us Q W' I hr hk rx rds ru rus g
  obtain ⟨p, xs, ws, rfl, q, w, hx⟩ := kind_lst hr rx hk
  rcases hx with ⟨rfl, _⟩ | ⟨n, rfl, gn, hp⟩
  · exact g.elim
  rw [mthV_ref gn] at g
  have mem := List.mem_of_getElem? hp
  match ds, rds, g with
  | [], rds, g =>
    cases rds
    have g : Got G W' M H (match xs[xs.length - 1]? with
      | some d => Out.ok d (put h n (.lst xs.dropLast))
      | none => .bad) _ := g
    cases el : xs[xs.length - 1]? with
    | none => rw [el] at g; exact g.elim
    | some d =>
      rw [el] at g
      obtain ⟨y, e1, dy⟩ := w.get el
      refine mt_pop pins s σ H (.ref p) [] u us Q I ru rus ⟨p, ws, y, rfl, rfl, q, by rw [← w.length]; exact e1, ?_⟩
      have wd : DRs G M H xs.dropLast ws.dropLast := by
        rw [List.dropLast_eq_take, List.dropLast_eq_take, ← w.length]
        exact w.take _
      exact g M _ (lst_put hr gn hp wd) _ (lst_put_dr hr mem dy).rd
  | [.int i], rds, g =>
    obtain ⟨y, r, rfl, x1, x2⟩ := rds
    cases x2
    rw [show y = .int i from x1] at rus
    have g : Got G W' M H (if -4611686018427387904 ≤ i ∧ i ≤ 16777216 then (match PySem.seqIndex? i xs.length with
      | some k => (match xs[k]? with
        | some d => Out.ok d (put h n (.lst (xs.eraseIdx k)))
        | none => .bad)
      | none => .bad) else .bad) _ := g
    by_cases c : -4611686018427387904 ≤ i ∧ i ≤ 16777216
    · rw [if_pos c] at g
      cases ek : PySem.seqIndex? i xs.length with
      | none => rw [ek] at g; exact g.elim
      | some k =>
        rw [ek] at g
        have g : Got G W' M H (match xs[k]? with
          | some d => Out.ok d (put h n (.lst (xs.eraseIdx k)))
          | none => .bad) _ := g
        cases el : xs[k]? with
        | none => rw [el] at g; exact g.elim
        | some d =>
          rw [el] at g
          obtain ⟨y, e1, dy⟩ := w.get el
          exact mt_popAt pins s σ H (.ref p) [.int i] u us Q I ru rus ⟨p, ws, i, k, y, rfl, rfl, q, by omega, by omega, by rw [← w.length]; exact ek, e1, g M _ (lst_put hr gn hp (w.eraseIdx k)) _ (lst_put_dr hr mem dy).rd⟩
    · rw [if_neg c] at g; exact g.elim
  | [.non], _, g | [.bl _], _, g | [.str _], _, g | [.tup _], _, g | [.lst _], _, g | [.ref _], _, g | [.exc _], _, g | [.cst _], _, g => exact g.elim
  | .non :: _ :: _, _, g | .bl _ :: _ :: _, _, g | .int _ :: _ :: _, _, g | .str _ :: _ :: _, _, g | .tup _ :: _ :: _, _, g | .lst _ :: _ :: _, _, g | .ref _ :: _ :: _, _, g | .exc _ :: _ :: _, _, g | .cst _ :: _ :: _, _, g => exact g.elim
theorem mth_reverse : MtG G X "reverse" 2 "list.reverse" := by
  intro pins s σ H M h x ds v vs u us Q W' I hr hk rx rds ru rus g
  obtain ⟨p, xs, ws, rfl, q, w, hx⟩ := kind_lst hr rx hk
  rcases hx with ⟨rfl, _⟩ | ⟨n, rfl, gn, hp⟩
  · exact g.elim
  rw [mthV_ref gn] at g
  match ds, rds, g with
  | _ :: _, _, g => exact g.elim
  | [], rds, g =>
    cases rds
    exact mt_reverse pins s σ H (.ref p) [] u us Q I ru rus ⟨p, ws, rfl, rfl, q, g M _ (lst_put hr gn hp w.reverse) _ rfl⟩
theorem mth_clear : MtG G X "clear" 2 "list.clear" := by
  intro pins s σ H M h x ds v vs u us Q W' I hr hk rx rds ru rus g
  obtain ⟨p, xs, ws, rfl, q, w, hx⟩ := kind_lst hr rx hk
  rcases hx with ⟨rfl, _⟩ | ⟨n, rfl, gn, hp⟩
  · exact g.elim
  rw [mthV_ref gn] at g
  match ds, rds, g with
  | _ :: _, _, g => exact g.elim
  | [], rds, g =>
    cases rds
    exact mt_clear pins s σ H (.ref p) [] u us Q I ru rus ⟨p, ws, rfl, rfl, q, g M _ (lst_put hr gn hp (show DRs G M H [] [] from rfl)) _ rfl⟩
/-- the first place -/
theorem findI_some : ∀ {ys : List D} {x : D} {k i : Nat}, findI x k ys = some i → ∃ j z, i = k + j ∧ ys[j]? = some z ∧ eqD z x = true ∧ ∀ m z', m < j → ys[m]? = some z' → eqD z' x = false
  | [], _, _, _, e => by cases e
  | y :: ys, x, k, i, e => by
    unfold findI at e
    by_cases c : eqD y x = true
    · rw [if_pos c] at e
      cases e
      exact ⟨0, y, rfl, rfl, c, fun m z' hm => absurd hm (Nat.not_lt_zero m)⟩
    · rw [if_neg c] at e
      obtain ⟨j, z, e1, e2, e3, e4⟩ := findI_some e
      refine ⟨j + 1, z, by omega, e2, e3, fun m z' hm hz => ?_⟩
      cases m with
      | zero =>
        cases hz
        simpa using c
      | succ m => exact e4 m z' (by omega) hz
theorem plainBs_get : ∀ {ys : List D} {j : Nat} {z : D}, plainB.go ys = true → ys[j]? = some z → plainB z = true
  | [], _, _, _, e => by simp at e
  | y :: ys, 0, z, e1, e => by
    cases e
    rw [plainB.go, Bool.and_eq_true] at e1
    exact e1.1
  | y :: ys, j + 1, z, e1, e => by
    rw [plainB.go, Bool.and_eq_true] at e1
    exact plainBs_get e1.2 (by simpa using e)
theorem mth_index (ck : Ck G X) : MtG G X "index" 2 "list.index" := by
  intro pins s σ H M h x ds v vs u us Q W' I hr hk rx rds ru rus g
  obtain ⟨p, xs, ws, rfl, q, w, hx⟩ := kind_lst hr rx hk
  have g : Got G W' M H (lstM0 "index" xs ds h) (fun d M' _ H' => ∀ v, RD G M' H H' d v → Q v H') := by
    rcases hx with ⟨rfl, _⟩ | ⟨n, rfl, gn, hp⟩
    · exact g
    · rw [mthV_ref gn] at g
      exact g
  match ds, rds, g with
  | [], _, g => exact g.elim
  | _ :: _ :: _, _, g => exact g.elim
  | [d], rds, g =>
    obtain ⟨y, r, rfl, x1, x2⟩ := rds
    cases x2
    have g : Got G W' M H (match (plainDs h deep xs).bind fun ys => (plainD h deep d).bind fun x => findI x 0 ys with
      | some i => Out.ok (D.int i) h
      | none => .bad) _ := g
    cases ei : (plainDs h deep xs).bind fun ys => (plainD h deep d).bind fun x => findI x 0 ys with
    | none => rw [ei] at g; exact g.elim
    | some i =>
      rw [ei] at g
      obtain ⟨ys, e1, e2⟩ := bindO ei
      obtain ⟨d', e2, e3⟩ := bindO e2
      obtain ⟨j, z, e4, e5, e6, e7⟩ := findI_some e3
      have P1 := plains_ok hr deep xs ys ws e1 w
      have P2 := plain_ok hr deep d d' y e2 x1.vr
      have R := rdps_seq (G := G) P1 (.inl (.inl q) : SqL G.K H p ws)
      have pz := plainBs_get P1.pl e5
      rw [Nat.zero_add] at e4
      subst e4
      refine mt_indexD (by have := ck.un; omega) pins s σ H (.ref p) [y] u us Q I ru rus ⟨p, y, toPy d', toPys ys, i, toPy z, rfl, rfl, by rw [ck.K]; exact R.dp, by rw [ck.K]; exact P2.dp, R.shaped (by decide), P2.shaped (by decide), ?_, ?_, ?_, g M _ (Post.refl hr) _ rfl⟩
      · rw [toPys_map, List.getElem?_map, e5] <;> rfl
      · rw [← eqD_eqv z d' pz P2.pl]; exact e6
      · intro m z' hm hz
        rw [toPys_map, List.getElem?_map] at hz
        obtain ⟨z2, e8, rfl⟩ := Option.map_eq_some_iff.mp hz
        rw [← eqD_eqv z2 d' (plainBs_get P1.pl e8) P2.pl]
        exact e7 m z2 hm e8
def rCountD (K : PySem.W.Frag) : V → List V → AH → VK → Prop := fun x xs H Q => ∃ (a : Addr) (y : V) (d : PyData) (ds : List PyData), x = V.ref a ∧ xs = [y] ∧ Dp K H (V.ref a) (.list ds) ∧ Dp K H y d ∧
  SeqAt.shaped (.list ds) = true ∧ SeqAt.shaped d = true ∧ Q (.int ((ds.countP fun z => PyData.eqv z d : Nat) : Int)) H
theorem mt_countD (hu : X.A.units + 65 < cLine) : MtR X "list.count" (rCountD X.K) := by
  intro pins s σ H x xs v us Q I rx rxs h
  obtain ⟨a, y, d, ds, rfl, rfl, hl, hy, sl, sd, q⟩ := h
  cases rx
  cases rxs with
  | cons ry rt =>
    rename_i uy ut
    cases rt
    obtain ⟨bs, r1⟩ := Dp.reads I d y uy hy ry
    have lay : PyData.canLayAll0 ds = true := SeqAt.canLay_of_shaped sl
    have room : X.A.units + 1 + min (PyData.depthAll ds) d.depth < cLine := room_in_shaped sd hu
    cases hl with
    | lst hs ha =>
      obtain ⟨its, rv, ⟨⟨cls, dd, data, sls⟩, n, ho, hc, hdn, hdt⟩, hlen⟩ := I.list hs
      simp only at hc hdt
      subst hc hdt
      obtain ⟨as, h4⟩ := Dp.readsAll I ds _ its ha rv
      have hmap : its.map (SeqAt.readOf s.heap) = ds := SeqAt.readsAll_map ds its as lay h4
      refine call_meets PySem.F.slot_list_count ⟨_, ho, rfl⟩ PySem.F.entry_list_count (PySem.F.args_list_count_2 _ _)
        (SeqAt.list_countAt a its.toArray n dd sls uy (fun u => PyData.eqv (SeqAt.readOf s.heap u) d)) ⟨ho, SeqAt.items_eqAt (vs := its.toArray) (show ReadsAll s.heap its.toArray.toList ds as from h4) r1 lay (SeqAt.canLay_of_shaped sd) room, ?_⟩
      have e : its.toArray.toList.countP (fun u => PyData.eqv (SeqAt.readOf s.heap u) d) = ds.countP fun z => PyData.eqv z d := by
        rw [← hmap, List.countP_map] <;> rfl
      refine ⟨.int ((ds.countP fun z => PyData.eqv z d : Nat) : Int), H, I.tok _, ⟨s.toks, ?_⟩, q⟩
      show Value.int ((its.toArray.toList.countP (fun u => PyData.eqv (SeqAt.readOf s.heap u) d) : Nat) : Int) s.toks = _
      rw [e]
theorem mth_count (ck : Ck G X) : MtG G X "count" 2 "list.count" := by
  intro pins s σ H M h x ds v vs u us Q W' I hr hk rx rds ru rus g
  obtain ⟨p, xs, ws, rfl, q, w, hx⟩ := kind_lst hr rx hk
  have g : Got G W' M H (lstM0 "count" xs ds h) (fun d M' _ H' => ∀ v, RD G M' H H' d v → Q v H') := by
    rcases hx with ⟨rfl, _⟩ | ⟨n, rfl, gn, hp⟩
    · exact g
    · rw [mthV_ref gn] at g
      exact g
  match ds, rds, g with
  | [], _, g => exact g.elim
  | _ :: _ :: _, _, g => exact g.elim
  | [d], rds, g =>
    obtain ⟨y, r, rfl, x1, x2⟩ := rds
    cases x2
    have g : Got G W' M H (match (plainDs h deep xs).bind fun ys => (plainD h deep d).map fun x => (ys.filter fun y => eqD y x).length with
      | some i => Out.ok (D.int i) h
      | none => .bad) _ := g
    cases ei : (plainDs h deep xs).bind fun ys => (plainD h deep d).map fun x => (ys.filter fun y => eqD y x).length with
    | none => rw [ei] at g; exact g.elim
    | some i =>
      rw [ei] at g
      obtain ⟨ys, e1, e2⟩ := bindO ei
      obtain ⟨d', e2, e3⟩ := mapO e2
      have P1 := plains_ok hr deep xs ys ws e1 w
      have P2 := plain_ok hr deep d d' y e2 x1.vr
      have R := rdps_seq (G := G) P1 (.inl (.inl q) : SqL G.K H p ws)
      have key : (toPys ys).countP (fun z => PyData.eqv z (toPy d')) = i := by
        rw [toPys_map, List.countP_map, ← e3, ← List.countP_eq_length_filter]
        refine List.countP_congr fun z hz => ?_
        obtain ⟨k, hk'⟩ := List.getElem?_of_mem hz
        show PyData.eqv (toPy z) (toPy d') = true ↔ eqD z d' = true
        rw [eqD_eqv z d' (plainBs_get P1.pl hk') P2.pl]
      refine mt_countD (by have := ck.un; omega) pins s σ H (.ref p) [y] u us Q I ru rus ⟨p, y, toPy d', toPys ys, rfl, rfl, by rw [ck.K]; exact R.dp, by rw [ck.K]; exact P2.dp, R.shaped (by decide), P2.shaped (by decide), ?_⟩
      rw [key]
      exact g M _ (Post.refl hr) _ rfl
theorem strs_rel : ∀ {ds : List D} {ss : List (List Nat)} {vs : List V}, strsOf ds = some ss → DRs G M H ds vs → vs = (ss.map sOf).map V.str ∧ ∀ z ∈ ss, okS z
  | [], ss, vs, e, x => by cases e; exact ⟨x, fun _ z => nomatch z⟩
  | .str b :: ds, ss, vs, e, x => by
    obtain ⟨cs, e1, rfl⟩ := mapO (show (strsOf ds).map (b :: ·) = some ss from e)
    obtain ⟨v, w, rfl, ⟨x0, x1⟩, x2⟩ := x
    obtain ⟨i1, i2⟩ := strs_rel e1 x2
    rw [x0, i1]
    refine ⟨rfl, fun z hz => ?_⟩
    rcases List.mem_cons.mp hz with rfl | hz
    · exact x1
    · exact i2 z hz
  | .non :: _, _, _, e, _ => by cases e
  | .bl _ :: _, _, _, e, _ => by cases e
  | .int _ :: _, _, _, e, _ => by cases e
  | .tup _ :: _, _, _, e, _ => by cases e
  | .lst _ :: _, _, _, e, _ => by cases e
  | .ref _ :: _, _, _, e, _ => by cases e
  | .exc _ :: _, _, _, e, _ => by cases e
  | .cst _ :: _, _, _, e, _ => by cases e
theorem join_eq0 (sep : List Nat) : ∀ ss : List (List Nat), Str.join (sOf sep) (ss.map sOf) = sOf (joinS sep ss)
  | [] => rfl
  | [z] => rfl
  | x :: y :: r => by
    have ih := join_eq0 sep (y :: r)
    show sOf x ++ sOf sep ++ Str.join (sOf sep) ((y :: r).map sOf) = _
    rw [ih, sOf_app, sOf_app] <;> rfl
theorem join_eq (sep : List Nat) (ss : List (List Nat)) : Txt.join (sOf sep) (ss.map sOf) = sOf (joinS sep ss) := (PySem.StrLaws.glued_eq_join _ _).trans (join_eq0 sep ss)
theorem joinS_ok {sep : List Nat} (hs : okS sep) : ∀ {ss : List (List Nat)}, (∀ z ∈ ss, okS z) → (∀ c ∈ joinS sep ss, c < 1114112) ∧ (joinS sep ss).length ≤ (ss.map List.length).sum + ss.length * sep.length
  | [], _ => ⟨fun _ z => (nomatch z), Nat.zero_le _⟩
  | [z], h => ⟨(h z List.mem_cons_self).2, by simp [joinS]⟩
  | x :: y :: r, h => by
    obtain ⟨i1, i2⟩ := joinS_ok hs (ss := y :: r) fun z hz => h z (List.mem_cons_of_mem _ hz)
    refine ⟨fun c hc => ?_, ?_⟩
    · rw [joinS, List.mem_append, List.mem_append] at hc
      · rcases hc with (hc | hc) | hc
        · exact (h x List.mem_cons_self).2 c hc
        · exact hs.2 c hc
        · exact i1 c hc
      · simp
    · rw [joinS, List.length_append, List.length_append, List.map_cons, List.sum_cons, List.length_cons, Nat.succ_mul]
      · omega
      · simp
theorem mth_join (ck : Ck G X) : MtG G X "join" 1 "str.join" := by
  intro pins s σ H M h x ds v vs u us Q W' I hr hk rx rds ru rus g
  cases x with
  | str sep =>
    obtain ⟨rfl, ks⟩ := rx
    match ds, rds, g with
    | [], _, g => exact g.elim
    | _ :: _ :: _, _, g => exact g.elim
    | [d], rds, g =>
      obtain ⟨y, r, rfl, x1, x2⟩ := rds
      cases x2
      have g : Got G W' M H (match (listOf d h).bind strsOf with
        | some xs => if (xs.map List.length).sum + xs.length * sep.length ≤ 16777216 then Out.ok (D.str (joinS sep xs)) h else .bad
        | none => .bad) _ := g
      cases ei : (listOf d h).bind strsOf with
      | none => rw [ei] at g; exact g.elim
      | some ss =>
        rw [ei] at g
        obtain ⟨xs, e1, e2⟩ := bindO ei
        obtain ⟨p, ws, rfl, hq, w⟩ := lst_of ck hr x1.vr e1
        obtain ⟨rfl, kk⟩ := strs_rel e2 w
        have g : Got G W' M H (if (ss.map List.length).sum + ss.length * sep.length ≤ 16777216 then Out.ok (D.str (joinS sep ss)) h else .bad) _ := g
        by_cases c : (ss.map List.length).sum + ss.length * sep.length ≤ 16777216
        · rw [if_pos c] at g
          refine mt_join pins s σ H (.str (sOf sep)) [.ref p] u us Q I ru rus ⟨_, p, ss.map sOf, rfl, rfl, .inl hq, ?_, ?_⟩
          · rw [List.map_map, List.length_map, sOf_len, show (Str.length ∘ sOf) = List.length from funext fun z => sOf_len z]
            exact c
          · rw [join_eq]
            obtain ⟨j1, j2⟩ := joinS_ok ks kk
            exact g M _ (Post.refl hr) _ ⟨rfl, by omega, j1⟩
        · rw [if_neg c] at g; exact g.elim
  | ref n =>
    exfalso
    unfold kindD at hk
    cases gg : get h n with
    | none => simp only [gg] at hk; cases hk
    | some o =>
      simp only [gg] at hk
      cases o <;> cases hk
  | _ => exfalso; cases hk
theorem case_ok {s : List Nat} {f : Nat → Nat} (ks : okS s) (hf : ∀ c, c < 128 → f c < 1114112) (a : ascS s = true) : okS (s.map f) := by
  unfold ascS at a
  rw [Bool.and_eq_true, List.all_eq_true] at a
  refine ⟨by rw [List.length_map]; exact ks.1, fun c hc => ?_⟩
  obtain ⟨d, hd, rfl⟩ := List.mem_map.mp hc
  exact hf d (of_decide_eq_true (a.2 d hd))
theorem mth_upper : MtG G X "upper" 1 "str.upper" := by
  intro pins s σ H M h x ds v vs u us Q W' I hr hk rx rds ru rus g
  cases x with
  | str z =>
    obtain ⟨rfl, ks⟩ := rx
    match ds, rds, g with
    | _ :: _, _, g => exact g.elim
    | [], rds, g =>
      obtain rfl : vs = [] := rds
      have g : Got G W' M H (if ascS z = true then Out.ok (D.str (z.map upC)) h else .bad) _ := g
      by_cases c : ascS z = true
      · rw [if_pos c] at g
        have c' := c
        unfold ascS at c'
        rw [Bool.and_eq_true, decide_eq_true_eq] at c'
        refine mt_upper pins s σ H (.str (sOf z)) [] u us Q I ru rus ⟨_, rfl, rfl, by rw [sOf_len]; exact c'.1, ?_⟩
        rw [show Txt.upper (sOf z) = sOf (z.map upC) from SX.upper_S c'.2]
        exact g M _ (Post.refl hr) _ ⟨rfl, case_ok ks (fun c hc => by unfold upC; split <;> omega) c⟩
      · rw [if_neg c] at g; exact g.elim
  | ref n =>
    exfalso
    unfold kindD at hk
    cases gg : get h n with
    | none => simp only [gg] at hk; cases hk
    | some o => simp only [gg] at hk; cases o <;> cases hk
  | _ => exfalso; cases hk
theorem mth_lower : MtG G X "lower" 1 "str.lower" := by
  intro pins s σ H M h x ds v vs u us Q W' I hr hk rx rds ru rus g
  cases x with
  | str z =>
    obtain ⟨rfl, ks⟩ := rx
    match ds, rds, g with
    | _ :: _, _, g => exact g.elim
    | [], rds, g =>
      obtain rfl : vs = [] := rds
      have g : Got G W' M H (if ascS z = true then Out.ok (D.str (z.map loC)) h else .bad) _ := g
      by_cases c : ascS z = true
      · rw [if_pos c] at g
        have c' := c
        unfold ascS at c'
        rw [Bool.and_eq_true, decide_eq_true_eq] at c'
        refine mt_lower pins s σ H (.str (sOf z)) [] u us Q I ru rus ⟨_, rfl, rfl, by rw [sOf_len]; exact c'.1, ?_⟩
        rw [show Txt.lower (sOf z) = sOf (z.map loC) from SX.lower_S c'.2]
        exact g M _ (Post.refl hr) _ ⟨rfl, case_ok ks (fun c hc => by unfold loC; split <;> omega) c⟩
      · rw [if_neg c] at g; exact g.elim
  | ref n =>
    exfalso
    unfold kindD at hk
    cases gg : get h n with
    | none => simp only [gg] at hk; cases hk
    | some o => simp only [gg] at hk; cases o <;> cases hk
  | _ => exfalso; cases hk
theorem occ_first {a : List Nat} {c i : Nat} (h : a.findIdx? (· == c) = some i) : ∃ r, Builtin.Str.occurrences (sOf a) (sOf [c]) 0 (sOf a).length 1 = i :: r := by
  obtain ⟨hl, hp, hn⟩ := List.findIdx?_eq_some_iff_getElem.mp h
  have at_ : ∀ j, (j + (sOf [c]).length ≤ (sOf a).length ∧ Builtin.Str.subAt (sOf a) (sOf [c]) j = true) ↔ a[j]? = some c := fun j => by
    have := StrLaws.subAt_one (sOf a) c j
    simpa [sOf] using this
  rcases StrLaws.occ_head (sOf a) (sOf [c]) 1 (Nat.le_refl 1) with ⟨_, q⟩ | ⟨j, r, h0, h1, h2⟩
  · exact absurd ((at_ i).mpr (by rw [List.getElem?_eq_getElem hl, eq_of_beq hp])) (q i)
  · have e1 := (at_ j).mp h1
    have : j = i := by
      rcases Nat.lt_trichotomy j i with q | q | q
      · obtain ⟨hj, e2⟩ := List.getElem?_eq_some_iff.mp e1
        exact absurd (by rw [e2]; exact beq_self_eq_true c) (hn j q)
      · exact q
      · exact absurd ((at_ i).mpr (by rw [List.getElem?_eq_getElem hl, eq_of_beq hp])) (h2 i q)
    exact ⟨r, by rw [h0, this]⟩
theorem mth_sindex : MtG G X "index" 1 "str.index" := by
  intro pins s σ H M h x ds v vs u us Q W' I hr hk rx rds ru rus g
  cases x with
  | str z =>
    obtain ⟨rfl, ks⟩ := rx
    have bad : ∀ {d : D}, (∀ c, d ≠ .str [c]) → ¬ Got G W' M H (strM "index" z [d] h) (fun d M' _ H' => ∀ v, RD G M' H H' d v → Q v H') := fun {d} hd g => by
      cases d with
      | str w =>
        match w, hd, g with
        | [], _, g => exact g.elim
        | [c], hd, _ => exact hd c rfl
        | _ :: _ :: _, _, g => exact g.elim
      | _ => exact g.elim
    match ds, rds, g with
    | [], _, g => exact g.elim
    | [d], rds, g =>
      obtain ⟨y, r, rfl, x1, x2⟩ := rds
      cases x2
      by_cases hd : ∃ c, d = .str [c]
      · obtain ⟨c, rfl⟩ := hd
        obtain ⟨rfl, kc⟩ := x1
        have g : Got G W' M H (match z.findIdx? (· == c) with
          | some i => Out.ok (D.int i) h
          | none => .bad) _ := g
        cases e : z.findIdx? (· == c) with
        | none => rw [e] at g; exact g.elim
        | some i =>
          rw [e] at g
          obtain ⟨r, ho⟩ := occ_first e
          exact mt_sindex pins s σ H (.str (sOf z)) [.str (sOf [c])] u us Q I ru rus ⟨_, _, i, r, rfl, rfl, ho, g M _ (Post.refl hr) _ rfl⟩
      · exact absurd g (bad fun c q => hd ⟨c, q⟩)
    | d :: d2 :: ds, _, g =>
      exfalso
      have g : Got G W' M H (strM "index" z (d :: d2 :: ds) h) (fun d M' _ H' => ∀ v, RD G M' H H' d v → Q v H') := g
      cases d with
      | str w =>
        match w, g with
        | [], g => exact g.elim
        | [_], g => exact g.elim
        | _ :: _ :: _, g => exact g.elim
      | _ => exact g.elim
  | ref n =>
    exfalso
    unfold kindD at hk
    cases gg : get h n with
    | none => simp only [gg] at hk; cases hk
    | some o => simp only [gg] at hk; cases o <;> cases hk
  | _ => exfalso; cases hk
theorem mthV_str {m : String} {z : List Nat} {ds : List D} : mthV m (.str z) ds h = strM m z ds h := rfl
theorem kind1 {x : D} (hk : kindD x h = 1) : ∃ z, x = .str z := by
  cases x with
  | str z => exact ⟨z, rfl⟩
  | ref n =>
    unfold kindD at hk
    cases gg : get h n with
    | none => simp only [gg] at hk; cases hk
    | some o => simp only [gg] at hk; cases o <;> cases hk
  | _ => cases hk
theorem kind2 {x : D} (hk : kindD x h = 2) : (∃ xs, x = .lst xs) ∨ ∃ n xs, x = .ref n ∧ get h n = some (.lst xs) := by
  cases x with
  | lst xs => exact .inl ⟨xs, rfl⟩
  | ref n =>
    unfold kindD at hk
    cases gg : get h n with
    | none => simp only [gg] at hk; cases hk
    | some o =>
      simp only [gg] at hk
      cases o with
      | lst xs => exact .inr ⟨n, xs, rfl, gg⟩
      | _ => cases hk
  | _ => cases hk
theorem kind3 {x : D} (hk : kindD x h = 3) : ∃ n t kvs, x = .ref n ∧ get h n = some (.dic t kvs) := by
  cases x with
  | ref n =>
    unfold kindD at hk
    cases gg : get h n with
    | none => simp only [gg] at hk; cases hk
    | some o =>
      simp only [gg] at hk
      cases o with
      | dic t kvs => exact ⟨n, t, kvs, rfl, gg⟩
      | _ => cases hk
  | _ => cases hk
theorem kind_dic (hr : HR G M h H) {d : D} {v : V} (x : VR G M H d v) (hk : kindD d h = 3) : ∃ n a t kvs, d = .ref n ∧ v = .ref a ∧ M[n]? = some a ∧ get h n = some (.dic t kvs) ∧
    ((t = false ∧ ∃ ks, H a = some (.dK ks) ∧ DkR G M H kvs ks) ∨ (t = true ∧ ∃ es, H a = some (tDO G.w es a) ∧ TkR G M H kvs es)) := by
  obtain ⟨n, t, kvs, rfl, g⟩ := kind3 hk
  have e : dicOf (.ref n) h = some (t, kvs) := by unfold dicOf; simp only [g]
  obtain ⟨n', a, e1, e2, e3, e4, e5⟩ := dic_at hr x e
  cases e1
  exact ⟨n, a, t, kvs, rfl, e2, e3, e4, e5⟩
theorem mthV_dic {m : String} {n : Nat} {t : Bool} {kvs : List (D × D)} {ds : List D} (g : get h n = some (.dic t kvs)) : mthV m (.ref n) ds h = dicM m n t kvs ds h := by
  unfold mthV
  simp only [g]
/-- what was found, or the other -/
theorem getK_rd {kvs : List (D × D)} {ks : List (L2.Key × V)} {k : L2.Key} {z : D} {y : V} (dk : DkR G M H kvs ks) (x2 : DR G M H z y) : DR G M H ((lookD (keyD k) kvs).getD z) ((valV ks k).getD y) := by
  obtain ⟨l1, l2⟩ := look_rel k dk
  cases e : lookD (keyD k) kvs with
  | none => rw [l2 e]; exact x2
  | some b =>
    obtain ⟨w, e1, e2⟩ := l1 b e
    rw [e1]
    exact e2
theorem getT_rd {kvs : List (D × D)} {es : TEs} {k : NestedKey} {z : D} {y : V} (dk : TkR G M H kvs es) (x2 : DR G M H z y) : DR G M H ((lookD (nkD k) kvs).getD z) ((atT es k).getD y) := by
  obtain ⟨l1, l2⟩ := lookT_rel k dk
  cases e : lookD (nkD k) kvs with
  | none => rw [l2 e]; exact x2
  | some b =>
    obtain ⟨w, e1, e2⟩ := l1 b e
    rw [e1]
    exact e2
theorem getT_rel {es : TEs} {k : NestedKey} {y : V} {x w' : Value} (ry : RelV y x) (e1 : ∀ v, atT es k = some v → RelV v w') (e2 : atT es k = none → w' = x) : RelV ((atT es k).getD y) w' := by
  cases e : atT es k with
  | none => rw [e2 e]; exact ry
  | some v => exact e1 v e
theorem mth_get (ck : Ck G X) : MtG G X "get" 3 "dict.get" := by
  intro pins s σ H M h x ds v vs u us Q W' I hr hk rx rds ru rus g
  obtain ⟨n, a, t, kvs, rfl, rfl, hp, gn, q⟩ := kind_dic hr rx hk
  rw [mthV_dic gn] at g
  obtain rfl : u = Value.ref a := ru
  match ds, rds, g with
  | [], _, g => exact g.elim
  | _ :: _ :: _ :: _, _, g => exact g.elim
  | [d], rds, g =>
    obtain ⟨y, r, rfl, x1, x2⟩ := rds
    cases x2
    have g2 : Got G W' M H (if keyB t d = true then Out.ok ((lookD d kvs).getD .non) h else .bad) _ := g
    by_cases c : keyB t d = true
    · rw [if_pos c] at g2
      cases rus with | cons ru1 rus1 =>
      cases rus1
      rcases q with ⟨rfl, ks, q, dk⟩ | ⟨rfl, es, q, dk⟩
      · obtain ⟨k, rfl, rfl, ok⟩ := key_at x1.vr c
        refine d_get1 (by have := ck.un; omega) I (DGet.k q) ru1 fun w' s' I' rw' => ?_
        exact ⟨_, H, I', rw', g2 M H (Post.refl hr) _ (getK_rd (z := .non) (y := .non) dk rfl).rd⟩
      · obtain ⟨k, b, rfl, rfl, hd, kd⟩ := keyT_at x1.vr c
        cases ru1
        refine t_get (v := .non) (.inl ⟨rfl, rfl⟩) ck.K ck.w ck.un I q dk hd kd fun w' s' I' e1 e2 => ?_
        exact ⟨_, H, I', getT_rel (y := .non) rfl e1 e2, g2 M H (Post.refl hr) _ (getT_rd (z := .non) (y := .non) dk rfl).rd⟩
    · rw [if_neg c] at g2; exact g2.elim
  | [d, z], rds, g =>
    obtain ⟨y, r, rfl, x1, y2, r2, rfl, x2, x3⟩ := rds
    cases x3
    have g2 : Got G W' M H (if keyB t d = true then Out.ok ((lookD d kvs).getD z) h else .bad) _ := g
    by_cases c : keyB t d = true
    · rw [if_pos c] at g2
      cases rus with | cons ru1 rus1 =>
      cases rus1 with | cons ru2 rus2 =>
      cases rus2
      rcases q with ⟨rfl, ks, q, dk⟩ | ⟨rfl, es, q, dk⟩
      · obtain ⟨k, rfl, rfl, ok⟩ := key_at x1.vr c
        refine d_get2 (by have := ck.un; omega) I (DGet.k q) ru1 ru2 fun w' s' I' rw' => ?_
        exact ⟨_, H, I', rw', g2 M H (Post.refl hr) _ (getK_rd dk x2).rd⟩
      · obtain ⟨k, b, rfl, rfl, hd, kd⟩ := keyT_at x1.vr c
        cases ru1
        refine t_get (v := .non) (.inr rfl) ck.K ck.w ck.un I q dk hd kd fun w' s' I' e1 e2 => ?_
        exact ⟨_, H, I', getT_rel ru2 e1 e2, g2 M H (Post.refl hr) _ (getT_rd dk x2).rd⟩
    · rw [if_neg c] at g2; exact g2.elim
theorem mth_dpop (ck : Ck G X) : MtG G X "pop" 3 "dict.pop" := by
  intro pins s σ H M h x ds v vs u us Q W' I hr hk rx rds ru rus g
  obtain ⟨n, a, t, kvs, rfl, rfl, hp, gn, q⟩ := kind_dic hr rx hk
  rw [mthV_dic gn] at g
  obtain rfl : u = Value.ref a := ru
  have mem := List.mem_of_getElem? hp
  match ds, rds, g with
  | [], _, g => exact g.elim
  | _ :: _ :: _ :: _, _, g => exact g.elim
  | [d], rds, g =>
    obtain ⟨y, r, rfl, x1, x2⟩ := rds
    cases x2
    have g2 : Got G W' M H (if keyB t d = true then (match lookD d kvs with
      | some v => Out.ok v (put h n (.dic t (dropD d kvs)))
      | none => .bad) else .bad) _ := g
    by_cases c : keyB t d = true
    · rw [if_pos c] at g2
      cases rus with | cons ru1 rus1 =>
      cases rus1
      rcases q with ⟨rfl, ks, q, dk⟩ | ⟨rfl, es, q, dk⟩
      · obtain ⟨k, rfl, rfl, ok⟩ := key_at x1.vr c
        obtain ⟨l1, l2⟩ := look_rel k dk
        cases e : lookD (keyD k) kvs with
        | none => rw [e] at g2; exact g2.elim
        | some b =>
          rw [e] at g2
          obtain ⟨w, e1, e2⟩ := l1 b e
          refine d_pop I q ru1 e1 (.inl rfl) fun w' s' I' rw' => ?_
          refine ⟨_, _, I', rw', g2 M _ (dic_put hr gn hp (drop_rel k dk)) _ (dr_put hr mem e2).rd⟩
      · obtain ⟨k, b, rfl, rfl, hd, kd⟩ := keyT_at x1.vr c
        cases ru1
        obtain ⟨l1, l2⟩ := lookT_rel k dk
        cases e : lookD (nkD k) kvs with
        | none => rw [e] at g2; exact g2.elim
        | some b =>
          rw [e] at g2
          obtain ⟨w, e1, e2⟩ := l1 b e
          refine t_pop (.inl rfl) ck.K ck.w ck.un I q dk hd kd e1 fun w' s' I' rw' => ?_
          refine ⟨_, _, I', rw', g2 M _ (tdic_put hr gn hp (dropT_rel k dk)) _ (dr_put hr mem e2).rd⟩
    · rw [if_neg c] at g2; exact g2.elim
  | [d, z], rds, g =>
    obtain ⟨y, r, rfl, x1, y2, r2, rfl, x2, x3⟩ := rds
    cases x3
    have g2 : Got G W' M H (if keyB t d = true then (match lookD d kvs with
      | some v => Out.ok v (put h n (.dic t (dropD d kvs)))
      | none => .ok z h) else .bad) _ := g
    by_cases c : keyB t d = true
    · rw [if_pos c] at g2
      cases rus with | cons ru1 rus1 =>
      cases rus1 with | cons ru2 rus2 =>
      cases rus2
      rcases q with ⟨rfl, ks, q, dk⟩ | ⟨rfl, es, q, dk⟩
      · obtain ⟨k, rfl, rfl, ok⟩ := key_at x1.vr c
        obtain ⟨l1, l2⟩ := look_rel k dk
        cases e : lookD (keyD k) kvs with
        | none =>
          rw [e] at g2
          exact d_popD I q ru1 (l2 e) fun s' I' => ⟨_, H, I', ru2, g2 M H (Post.refl hr) _ x2.rd⟩
        | some b =>
          rw [e] at g2
          obtain ⟨w, e1, e2⟩ := l1 b e
          refine d_pop I q ru1 e1 (.inr ⟨_, rfl⟩) fun w' s' I' rw' => ?_
          refine ⟨_, _, I', rw', g2 M _ (dic_put hr gn hp (drop_rel k dk)) _ (dr_put hr mem e2).rd⟩
      · obtain ⟨k, b, rfl, rfl, hd, kd⟩ := keyT_at x1.vr c
        cases ru1
        obtain ⟨l1, l2⟩ := lookT_rel k dk
        cases e : lookD (nkD k) kvs with
        | none =>
          rw [e] at g2
          exact t_popD ck.K ck.w ck.un I q dk hd kd (l2 e) fun s' I' => ⟨_, H, I', ru2, g2 M H (Post.refl hr) _ x2.rd⟩
        | some b =>
          rw [e] at g2
          obtain ⟨w, e1, e2⟩ := l1 b e
          refine t_pop (.inr ⟨_, rfl⟩) ck.K ck.w ck.un I q dk hd kd e1 fun w' s' I' rw' => ?_
          refine ⟨_, _, I', rw', g2 M _ (tdic_put hr gn hp (dropT_rel k dk)) _ (dr_put hr mem e2).rd⟩
    · rw [if_neg c] at g2; exact g2.elim
theorem mth_setdef (ck : Ck G X) : MtG G X "setdefault" 3 "dict.setdefault" := by
  intro pins s σ H M h x ds v vs u us Q W' I hr hk rx rds ru rus g
  obtain ⟨n, a, t, kvs, rfl, rfl, hp, gn, q⟩ := kind_dic hr rx hk
  rw [mthV_dic gn] at g
  obtain rfl : u = Value.ref a := ru
  have mem := List.mem_of_getElem? hp
  match ds, rds, g with
  | [], _, g => exact g.elim
  | [_], _, g => exact g.elim
  | _ :: _ :: _ :: _, _, g => exact g.elim
  | [d, z], rds, g =>
    obtain ⟨y, r, rfl, x1, y2, r2, rfl, x2, x3⟩ := rds
    cases x3
    have g2 : Got G W' M H (if keyB t d = true ∧ kvs.length < 16777216 then (match lookD d kvs with
      | some v => Out.ok v h
      | none => .ok z (put h n (.dic t (storeD d z kvs)))) else .bad) _ := g
    by_cases c : keyB t d = true ∧ kvs.length < 16777216
    · rw [if_pos c] at g2
      obtain ⟨c, cl⟩ := c
      cases rus with | cons ru1 rus1 =>
      cases rus1 with | cons ru2 rus2 =>
      cases rus2
      rcases q with ⟨rfl, ks, q, dk⟩ | ⟨rfl, es, q, dk⟩
      · obtain ⟨k, rfl, rfl, ok⟩ := key_at x1.vr c
        obtain ⟨l1, l2⟩ := look_rel k dk
        have kl : ks.length < sizeLine := by rw [← dk.len, sz_eq]; exact cl
        obtain ⟨zz, hd, vs', rel, dd⟩ := dk_of I.hok q
        have hz : vs'.length ≤ sizeLine := by rw [← rel.length]; exact zz
        refine call_meetsIn PySem.F.slot_dict_setdefault dd.typeIs PySem.F.entry_dict_setdefault (PySem.F.args_dict_setdefault_3 _ _ _) (kt_meets_setdefault (mixKind X.prog X.w) a (kV_is ru1) hd _)
          ⟨vs', dd, hz, fun v' hv' => ?_, fun hn h' dd' hs => ?_⟩
        · cases e : lookD (keyD k) kvs with
          | none =>
            have := (rel.val k)
            rw [l2 e] at this
            rw [RelO.none_of this] at hv'
            cases hv'
          | some b =>
            rw [e] at g2
            obtain ⟨w, e1, e2⟩ := l1 b e
            obtain ⟨w2, e3, e4⟩ := RelO.some_of (v := w) (o := valueAt vs' k) (by rw [← e1]; exact rel.val k)
            rw [hv'] at e3
            cases e3
            exact ⟨_, H, I.tok _, e4, g2 M H (Post.refl hr) _ e2.rd⟩
        · cases e : lookD (keyD k) kvs with
          | some b =>
            obtain ⟨w, e1, e2⟩ := l1 b e
            obtain ⟨w2, e3, e4⟩ := RelO.some_of (v := w) (o := valueAt vs' k) (by rw [← e1]; exact rel.val k)
            rw [hn] at e3
            cases e3
          | none =>
            rw [e] at g2
            have hl : (putK ks k y2).length ≤ sizeLine := by have := length_putK ks k y2; omega
            have he : ∃ q, h'.get? a = some q := let ⟨q, _, _, hq, _⟩ := dd'; ⟨q, hq⟩
            exact ⟨_, _, d_write I (by rw [q]; exact True.intro) hs he (dk_new hl hd (rel.put k ru2) dd'), ru2, g2 M _ (dic_put hr gn hp (store_rel ok x2 dk)) _ (dr_put hr mem x2).rd⟩
      · obtain ⟨k, b, rfl, rfl, hd, kd⟩ := keyT_at x1.vr c
        cases ru1
        obtain ⟨l1, l2⟩ := lookT_rel k dk
        have kl : es.length < sizeLine := by rw [← dk.len, sz_eq]; exact cl
        refine t_setdefault ck.K ck.w ck.un I q dk hd kd kl ru2 (fun v' w' s' e1 I' rv => ?_) fun s' e1 I' => ?_
        · cases e : lookD (nkD k) kvs with
          | none => rw [l2 e] at e1; cases e1
          | some bb =>
            rw [e] at g2
            obtain ⟨w, e3, e4⟩ := l1 bb e
            rw [e1] at e3
            cases e3
            exact ⟨_, H, I', rv, g2 M H (Post.refl hr) _ e4.rd⟩
        · cases e : lookD (nkD k) kvs with
          | some bb =>
            obtain ⟨w, e3, e4⟩ := l1 bb e
            rw [e1] at e3
            cases e3
          | none =>
            rw [e] at g2
            exact ⟨_, _, I', ru2, g2 M _ (tdic_put hr gn hp (storeT_rel kd x2 dk)) _ (dr_put hr mem x2).rd⟩
    · rw [if_neg c] at g2; exact g2.elim
theorem mth_update : MtG G X "update" 3 "dict.update" := by
  intro pins s σ H M h x ds v vs u us Q W' I hr hk rx rds ru rus g
  obtain ⟨n, a, t, kvs, rfl, rfl, hp, gn, q⟩ := kind_dic hr rx hk
  rw [mthV_dic gn] at g
  obtain rfl : u = Value.ref a := ru
  match ds, rds, g with
  | [.ref b], rds, g =>
    obtain ⟨y, r, rfl, ⟨pb, hb, rfl⟩, x2⟩ := rds
    cases x2
    cases rus with | cons ru1 rus1 =>
    cases rus1
    cases ru1
    have g2 : Got G W' M H (match get h b with
      | some (.dic false ps) => if b ≠ n ∧ t = false ∧ kvs.length + ps.length ≤ 16777216 then Out.ok D.non (put h n (.dic false (mergeD kvs ps))) else .bad
      | _ => .bad) (fun d M' _ H' => ∀ v, RD G M' H H' d v → Q v H') := g
    cases gb : get h b with
    | none => rw [gb] at g2; exact g2.elim
    | some o =>
      rw [gb] at g2
      cases o with
      | dic tb ps =>
        cases tb with
        | true => exact g2.elim
        | false =>
          simp only at g2
          by_cases c : b ≠ n ∧ t = false ∧ kvs.length + ps.length ≤ 16777216
          · rw [if_pos c] at g2
            obtain ⟨c1, rfl, c3⟩ := c
            rcases q with ⟨_, ks, q, dk⟩ | ⟨e, _⟩
            · obtain ⟨pb', hb', jks, q2, w1, w2, w3⟩ := hr.obj b _ gb
              rw [hb] at hb'
              cases hb'
              have dj : DkR G M H ps jks := ⟨w1, w2, w3⟩
              obtain ⟨z1, hd1, vs1, rel1, dd1⟩ := dk_of I.hok q
              obtain ⟨z2, hd2, vs2, rel2, dd2⟩ := dk_of I.hok q2
              have ne : a ≠ pb := fun e => c1 (hr.inj (by rw [e]; exact hb) hp)
              refine call_meetsIn PySem.F.slot_dict_update dd1.typeIs PySem.F.entry_dict_update (PySem.F.args_dict_update_2 _ _) (meets_dict_update (mixKind X.prog X.w) a pb ne hd2)
                ⟨vs1, vs2, dd1, dd2, by rw [← rel1.length, ← rel2.length, ← dk.len, ← dj.len, sz_eq]; exact c3, fun h' dd' _ hs => ?_⟩
              have he : ∃ q, h'.get? a = some q := let ⟨q, _, _, hq, _⟩ := dd'; ⟨q, hq⟩
              have hl : (mergeK ks jks).length ≤ sizeLine := by
                have := length_mergeK jks ks
                rw [← dk.len, ← dj.len] at this
                rw [sz_eq]
                omega
              exact ⟨.non, _, d_write (t' := s.toks) I (by rw [q]; exact True.intro) hs he (dk_new hl hd1 (KV.merge rel2 rel1) dd'), rfl, g2 M _ (dic_put hr gn hp (merge_rel dk dj)) _ rfl⟩
            · cases e
          · rw [if_neg c] at g2; exact g2.elim
      | _ => exact g2.elim
  | [], _, g => exact g.elim
  | a1 :: a2 :: r1, _, g =>
    have g2 : Got G W' M H (.bad : Out D) (fun d M' _ H' => ∀ v, RD G M' H H' d v → Q v H') := by
      have e : dicM "update" n t kvs (a1 :: a2 :: r1) h = .bad := by cases a1 <;> rfl
      rw [e] at g
      exact g
    exact g2.elim
  | [.non], _, g | [.bl _], _, g | [.int _], _, g | [.str _], _, g | [.tup _], _, g | [.lst _], _, g | [.exc _], _, g | [.cst _], _, g => exact g.elim
def rRemD (K : PySem.W.Frag) : V → List V → AH → VK → Prop := fun x xs H Q => ∃ (a : Addr) (vs : List V) (y : V) (d : PyData) (ds : List PyData) (j : Nat) (z : PyData), x = V.ref a ∧ xs = [y] ∧ H a = some (.lst vs) ∧ Dp K H (V.ref a) (.list ds) ∧ Dp K H y d ∧
  SeqAt.shaped (.list ds) = true ∧ SeqAt.shaped d = true ∧ ds[j]? = some z ∧ PyData.eqv z d = true ∧ (∀ (m : Nat) (z' : PyData), m < j → ds[m]? = some z' → PyData.eqv z' d = false) ∧ Q .non (upd H a (.lst (vs.eraseIdx j)))
theorem mt_removeD (hu : X.A.units + 65 < cLine) : MtR X "list.remove" (rRemD X.K) := by
  intro pins s σ H x xs v us Q I rx rxs h
  obtain ⟨a, ws, y, d, ds, j, z, rfl, rfl, hH, hl, hy, sl, sd, hz, hq, hno, q⟩ := h
  cases rx
  cases rxs with
  | cons ry rt =>
    rename_i uy ut
    cases rt
    obtain ⟨bs, r1⟩ := Dp.reads I d y uy hy ry
    have lay : PyData.canLayAll0 ds = true := SeqAt.canLay_of_shaped sl
    have room : X.A.units + 1 + min (PyData.depthAll ds) d.depth < cLine := room_in_shaped sd hu
    cases hl with
    | lst hs ha =>
      have ew := I.list_inj hs (.inl (.inl hH))
      subst ew
      obtain ⟨zz, its, n, r, hl, e⟩ := I.lstM hH
      obtain ⟨as, h4⟩ := Dp.readsAll I ds _ its ha r
      have hmap : its.map (SeqAt.readOf s.heap) = ds := SeqAt.readsAll_map ds its as lay h4
      have jl : j < its.length := by
        have := (List.getElem?_eq_some_iff.mp hz).1
        rw [← hmap, List.length_map] at this
        exact this
      have at_ : ∀ (m : Nat) (hm : m < its.toArray.size), ds[m]? = some (SeqAt.readOf s.heap its.toArray[m]) := fun m hm => by
        have hm' : m < its.length := by simpa using hm
        rw [← hmap, List.getElem?_map, List.getElem?_eq_getElem hm'] <;> rfl
      refine call_meets PySem.F.slot_list_remove ⟨_, e, rfl⟩ PySem.F.entry_list_remove (PySem.F.args_list_remove_2 _ _)
        (SeqAt.list_removeAt a its.toArray n none #[] uy (fun u => PyData.eqv (SeqAt.readOf s.heap u) d) j (by simpa using jl) ?_ (fun m hm hmj => ?_) (by rw [List.size_toArray]; omega))
        ⟨e, SeqAt.items_eqAt (vs := its.toArray) (show ReadsAll s.heap its.toArray.toList ds as from h4) r1 lay (SeqAt.canLay_of_shaped sd) room, ?_⟩
      · have := at_ j (by simpa using jl)
        rw [hz] at this
        rw [← Option.some.inj this]
        exact hq
      · exact hno m _ hmj (at_ m hm)
      · refine ⟨.non, _, I.lset (its' := its.eraseIdx j) hH e (by simp) (r.eraseIdx j) ?_, rfl, q⟩
        rw [List.length_eraseIdx]
        split <;> omega
theorem mth_remove (ck : Ck G X) : MtG G X "remove" 2 "list.remove" := by
  intro pins s σ H M h x ds v vs u us Q W' I hr hk rx rds ru rus g
  obtain ⟨p, xs, ws, rfl, q, w, hx⟩ := kind_lst hr rx hk
  rcases hx with ⟨rfl, _⟩ | ⟨n, rfl, gn, hp⟩
  · exact g.elim
  rw [mthV_ref gn] at g
  obtain rfl : u = Value.ref p := ru
  match ds, rds, g with
  | [], _, g => exact g.elim
  | _ :: _ :: _, _, g => exact g.elim
  | [d], rds, g =>
    obtain ⟨y, r, rfl, x1, x2⟩ := rds
    cases x2
    cases rus with | cons ru1 rus1 =>
    cases rus1
    have g : Got G W' M H (match (plainDs h deep xs).bind fun ys => (plainD h deep d).bind fun x => findI x 0 ys with
      | some i => Out.ok D.non (put h n (.lst (xs.eraseIdx i)))
      | none => .bad) (fun d M' _ H' => ∀ v, RD G M' H H' d v → Q v H') := g
    cases ei : (plainDs h deep xs).bind fun ys => (plainD h deep d).bind fun x => findI x 0 ys with
    | none => rw [ei] at g; exact g.elim
    | some i =>
      rw [ei] at g
      obtain ⟨ys, e1, e2⟩ := bindO ei
      obtain ⟨d', e2, e3⟩ := bindO e2
      obtain ⟨j, z, e4, e5, e6, e7⟩ := findI_some e3
      have P1 := plains_ok hr deep xs ys ws e1 w
      have P2 := plain_ok hr deep d d' y e2 x1.vr
      have R := rdps_seq (G := G) P1 (.inl (.inl q) : SqL G.K H p ws)
      have pz := plainBs_get P1.pl e5
      rw [Nat.zero_add] at e4
      subst e4
      refine mt_removeD (by have := ck.un; omega) pins s σ H (.ref p) [y] (.ref p) _ Q I rfl (.cons ru1 .nil) ⟨p, ws, y, toPy d', toPys ys, i, toPy z, rfl, rfl, q, by rw [ck.K]; exact R.dp, by rw [ck.K]; exact P2.dp, R.shaped (by decide), P2.shaped (by decide), ?_, ?_, ?_, ?_⟩
      · rw [toPys_map, List.getElem?_map, e5] <;> rfl
      · rw [← eqD_eqv z d' pz P2.pl]; exact e6
      · intro m z' hm hz
        rw [toPys_map, List.getElem?_map] at hz
        obtain ⟨z2, e8, rfl⟩ := Option.map_eq_some_iff.mp hz
        rw [← eqD_eqv z2 d' (plainBs_get P1.pl e8) P2.pl]
        exact e7 m z2 hm e8
      · exact g M _ (lst_put hr gn hp (w.eraseIdx i)) _ rfl
theorem mr_all (ck : Ck G X) (m : String) (k : Nat) (hk : mok m k = true) : MR G X m k := by
  match k, hk with
  | 1, hk =>
    have hk : m = "join" ∨ m = "upper" ∨ m = "lower" ∨ m = "index" := by simpa [mok, or_assoc] using hk
    rcases hk with rfl | rfl | rfl | rfl
    · exact ⟨by decide, "str.join", PySem.F.plainAttrs_str, PySem.F.slot_str_join, PySem.F.type_str_join, mth_join ck⟩
    · exact ⟨by decide, "str.upper", PySem.F.plainAttrs_str, PySem.F.slot_str_upper, PySem.F.type_str_upper, mth_upper⟩
    · exact ⟨by decide, "str.lower", PySem.F.plainAttrs_str, PySem.F.slot_str_lower, PySem.F.type_str_lower, mth_lower⟩
    · exact ⟨by decide, "str.index", PySem.F.plainAttrs_str, PySem.F.slot_str_index, PySem.F.type_str_index, mth_sindex⟩
  | 3, hk =>
    have hk : m = "get" ∨ m = "pop" ∨ m = "setdefault" ∨ m = "update" := by simpa [mok, or_assoc] using hk
    rcases hk with rfl | rfl | rfl | rfl
    · exact ⟨by decide, "dict.get", PySem.F.plainAttrs_dict, PySem.F.slot_dict_get, PySem.F.type_dict_get, mth_get ck⟩
    · exact ⟨by decide, "dict.pop", PySem.F.plainAttrs_dict, PySem.F.slot_dict_pop, PySem.F.type_dict_pop, mth_dpop ck⟩
    · exact ⟨by decide, "dict.setdefault", PySem.F.plainAttrs_dict, PySem.F.slot_dict_setdefault, PySem.F.type_dict_setdefault, mth_setdef ck⟩
    · exact ⟨by decide, "dict.update", PySem.F.plainAttrs_dict, PySem.F.slot_dict_update, PySem.F.type_dict_update, mth_update⟩
  | 2, hk =>
    have hk : m = "append" ∨ m = "extend" ∨ m = "pop" ∨ m = "reverse" ∨ m = "clear" ∨ m = "index" ∨ m = "count" ∨ m = "remove" := by simpa [mok, or_assoc] using hk
    rcases hk with rfl | rfl | rfl | rfl | rfl | rfl | rfl | rfl
    · exact ⟨by decide, "list.append", PySem.F.plainAttrs_list, PySem.F.slot_list_append, PySem.F.type_list_append, mth_append⟩
    · exact ⟨by decide, "list.extend", PySem.F.plainAttrs_list, PySem.F.slot_list_extend, PySem.F.type_list_extend, mth_extend⟩
    · exact ⟨by decide, "list.pop", PySem.F.plainAttrs_list, PySem.F.slot_list_pop, PySem.F.type_list_pop, mth_pop⟩
    · exact ⟨by decide, "list.reverse", PySem.F.plainAttrs_list, PySem.F.slot_list_reverse, PySem.F.type_list_reverse, mth_reverse⟩
    · exact ⟨by decide, "list.clear", PySem.F.plainAttrs_list, PySem.F.slot_list_clear, PySem.F.type_list_clear, mth_clear⟩
    · exact ⟨by decide, "list.index", PySem.F.plainAttrs_list, PySem.F.slot_list_index, PySem.F.type_list_index, mth_index ck⟩
    · exact ⟨by decide, "list.count", PySem.F.plainAttrs_list, PySem.F.slot_list_count, PySem.F.type_list_count, mth_count ck⟩
    · exact ⟨by decide, "list.remove", PySem.F.plainAttrs_list, PySem.F.slot_list_remove, PySem.F.type_list_remove, mth_remove ck⟩
/-- a method call -/
theorem m_mthB {n : Nat} {m : String} {name : Str} {apos cpos : Pos} (ck : Ck G X) (ob : ObK G X C n) (hr0 : Room n X.A) (tk : Takes X W) (hname : name = Str.ofString m) (ho : PE X o (tO G W (ev C mo))) (hs : NoStar X e) (ha : PA X (e :: es) (tA G W (evs C ms)))
    (hbase : attributeBase o name X.env (eval o X.env) = eval o X.env)
    (hfew : ((backTo cpos (starEach (e :: es) X.env)).all (fun x => !x.1) && (backToKw cpos (keywordEach [] X.env)).all (fun x => x.1.isSome)
      && decide ((e :: es).length + ([] : List Keyword).length + (if ([] : List Keyword).isEmpty then 0 else 1) < 30)) = true)
    (hline : (apos.endLine == cpos.line) = true) (hplain : (backTo cpos (starEach es X.env)).any (·.1) = false) :
    PE X (.Call (.Attribute o name apos) (e :: es) [] cpos) (tO G W (ev C (.mth m mo ms))) := by
  subst hname
  constructor
  intro pins s σ H Q I ⟨M, h, ρ, er, hr, g⟩
  rw [ev] at g
  refine call_late hbase hfew hline (thn (use ho I er hr (Got.bd0 g)) fun u s1 ⟨d, M1, h1, H1, v, I1, ru, p1, r1, e1, g1⟩ pl => ?_)
  have er1 := er.mono hr p1
  have g1 := Got.from hr p1 g1
  cases ins : insOf d h1 with
  | some q =>
    obtain ⟨c, fs⟩ := q
    rw [ins] at g1
    by_cases c1 : C.hm (c, m) = true ∧ (lookF m fs).isNone = true
    · simp only [c1, and_self, if_true] at g1
      obtain ⟨nn, p, dx, gs, rfl, rfl, hn, gn, hp, y2, y3, cg⟩ := ins_at p1.hr r1.vr ins
      obtain ⟨f, fd, ps, hm, hb, hF⟩ := ob.mth c m c1.1
      obtain rfl : u = Value.ref p := ru
      have ln := (lookF_rel y2 y3).2 (Option.isNone_iff_eq_none.mp c1.2)
      refine getmeth_ok I1 hp (by rw [ck.K]; exact cg.cls) hm ln ?_
      refine PySem.W.callWith_K (first := [.ref p]) (h₀ := X.base) I1.ok.mod.kin hm.kp (thn (useA (pos := cpos) ha I1 er1 p1.hr (Got.bd p1.hr g1)) fun us s2 ⟨ds, M2, h2, H2, vs, I2, rv, p2, x2, g2⟩ => ⟨I2.kIn, ?_⟩) (hs es) hplain
      exact run_fnS (us := .ref p :: us) (vs := .ref p :: vs) hF hr0 hb (passAt tk σ) I2 (.cons rfl rv) ⟨M2, h2, .ref nn :: ds, p2.hr, ⟨_, _, rfl, ⟨p, p2.at hn, rfl⟩, x2⟩, g2.imp fun d M3 h3 H3 p3 q v y => q v (y.back hr (p1.trans hr p2))⟩
    · simp only [c1, if_false] at g1; exact g1.elim
  | none =>
    rw [ins] at g1
    have g1 : Got G (fun c d H' => W c d σ H') M1 H1 (if mok m (kindD d h1) = true then (evs C ms ρ h1).bd fun ds h2 => if kindD d h2 = kindD d h1 then mthV m d ds h2 else .bad else .bad) fun d M' _ H' => ∀ v, RD G M' H H' d v → Q v H' := g1
    by_cases hok : mok m (kindD d h1) = true
    · rw [if_pos hok] at g1
      have g1 := Got.bd0 g1
      obtain ⟨k0, id, pa, slot, hty, mt⟩ := mr_all (X := X) ck m (kindD d h1) hok
      obtain ⟨t1, t2⟩ := kind_is ck I1 p1.hr ru r1.vr k0
      refine getMethod_builtin t1 pa slot hty t2 ?_
      have hA := useA (pos := cpos) ha I1 er1 p1.hr g1
      rw [hs es] at hA ⊢
      refine Calls.callWith_builtin (by show (false || (backTo cpos (starEach es X.env)).any (·.1)) = false; rw [hplain] <;> rfl) (Calls.evalArgs_plain ?_)
      refine thn hA fun us s2 ⟨ds, M2, h2, H2, vs, I2, rv, p2, x2, _, g2⟩ => ?_
      by_cases c : kindD d h2 = kindD d h1
      · rw [if_pos c] at g2
        exact mt pins s2 σ H2 M2 h2 d ds v vs u us Q _ I2 p2.hr c (r1.vr.mono p1.hr p2) x2 ru rv ((Got.from p1.hr p2 g2).imp fun d M3 h3 H3 p3 q v y => q v (y.back hr (p1.trans hr p2)))
      · rw [if_neg c] at g2; exact g2.elim
    · rw [if_neg hok] at g1; exact g1.elim
/-- .. with no arguments -/
theorem m_mthB0 {n : Nat} {m : String} {name : Str} {apos cpos : Pos} (ck : Ck G X) (ob : ObK G X C n) (hr0 : Room n X.A) (tk : Takes X W) (hname : name = Str.ofString m) (ho : PE X o (tO G W (ev C mo)))
    (hbase : attributeBase o name X.env (eval o X.env) = eval o X.env) (hline : (apos.endLine == cpos.line) = true) :
    PE X (.Call (.Attribute o name apos) [] [] cpos) (tO G W (ev C (.mth m mo []))) := by
  subst hname
  constructor
  intro pins s σ H Q I ⟨M, h, ρ, er, hr, g⟩
  rw [ev] at g
  refine call_late hbase rfl hline (thn (use ho I er hr (Got.bd0 g)) fun u s1 ⟨d, M1, h1, H1, v, I1, ru, p1, r1, e1, g1⟩ pl => ?_)
  have g1 := Got.from hr p1 g1
  cases ins : insOf d h1 with
  | some q =>
    obtain ⟨c, fs⟩ := q
    rw [ins] at g1
    by_cases c1 : C.hm (c, m) = true ∧ (lookF m fs).isNone = true
    · simp only [c1, and_self, if_true] at g1
      rw [evs] at g1
      obtain ⟨nn, p, dx, gs, rfl, rfl, hn, gn, hp, y2, y3, cg⟩ := ins_at p1.hr r1.vr ins
      obtain ⟨f, fd, ps, hm, hb, hF⟩ := ob.mth c m c1.1
      obtain rfl : u = Value.ref p := ru
      have ln := (lookF_rel y2 y3).2 (Option.isNone_iff_eq_none.mp c1.2)
      refine getmeth_ok I1 hp (by rw [ck.K]; exact cg.cls) hm ln ?_
      refine PySem.W.callWith_K0 I1.kIn hm.kp ?_
      exact run_fnS (us := [.ref p]) (vs := [.ref p]) hF hr0 hb (passAt tk σ) I1 (.cons rfl .nil) ⟨M1, h1, [.ref nn], p1.hr, ⟨_, _, rfl, ⟨p, hn, rfl⟩, rfl⟩, (show Got _ _ _ _ (C.fn (c, m) [.ref nn] h1) _ from g1).imp fun d M3 h3 H3 p3 q v y => q v (y.back hr p1)⟩
    · simp only [c1, if_false] at g1; exact g1.elim
  | none =>
    rw [ins] at g1
    have g1 : Got G (fun c d H' => W c d σ H') M1 H1 (if mok m (kindD d h1) = true then (evs C [] ρ h1).bd fun ds h2 => if kindD d h2 = kindD d h1 then mthV m d ds h2 else .bad else .bad) fun d M' _ H' => ∀ v, RD G M' H H' d v → Q v H' := g1
    by_cases hok : mok m (kindD d h1) = true
    · rw [if_pos hok, evs] at g1
      have g1 : Got G (fun c d H' => W c d σ H') M1 H1 (if kindD d h1 = kindD d h1 then mthV m d [] h1 else .bad) fun d M' _ H' => ∀ v, RD G M' H H' d v → Q v H' := g1
      rw [if_pos rfl] at g1
      obtain ⟨k0, id, pa, slot, hty, mt⟩ := mr_all (X := X) ck m (kindD d h1) hok
      obtain ⟨t1, t2⟩ := kind_is ck I1 p1.hr ru r1.vr k0
      refine getMethod_builtin t1 pa slot hty t2 ?_
      exact Calls.callWith_builtin rfl (PySem.evalArgs_none (mt pins s1 σ H1 M1 h1 d [] v [] u [] Q _ I1 p1.hr rfl r1.vr rfl ru .nil (g1.imp fun d M3 h3 H3 p3 q v y => q v (y.back hr p1))))
    · rw [if_neg hok] at g1; exact g1.elim
end
end Mi

/-! tests of None, isinstance, bools, ranges of two, items of lists stored -/
namespace Mi
open PySem PySem.Spec PyProof.Rows L2

section
variable {G : Gd} {M M' M1 : List Addr} {H H' H1 : AH} {h h' h1 : Hp} {W : WX} {X : Cx} {e o a b c tg : Expr} {es : List Expr} {mm mo ma mb mc : E} {ms : List E} {pins : List (Addr × Obj)} {s : Shared} {σ : L2.St} {ρ : Env} {pos : Pos} {C : Ctx}

theorem non_dec {d : D} {v : V} (x : RD G M' H H' d v) : decide (v = V.non) = decide (d = D.non) := by
  cases d with
  | non => rw [show v = .non from x] <;> rfl
  | bl b => rw [show v = .bl b from x]; simp
  | int b => rw [show v = .int b from x]; simp
  | str b => rw [show v = _ from x.1]; simp
  | tup b => obtain ⟨_, _, rfl, _⟩ := x; simp
  | lst b => obtain ⟨_, _, rfl, _⟩ := x; simp
  | ref b => obtain ⟨_, _, rfl⟩ := x; simp
  | exc b => obtain ⟨_, _, rfl, _⟩ := x; simp
  | cst b => obtain ⟨_, _, rfl, _⟩ := x; simp
theorem isN_test {j : Nat} {p2 : Pos} (ha : PE X a (tO G W (ev C ma))) : PT X (.Compare a [.Is] [.Constant .none j p2] pos) (tT G W (cnd C (.isN ma))) := by
  constructor
  intro pins s σ H Q I ⟨M, h, ρ, er, hr, g⟩
  have g0 := Got.bd hr (Got.bd hr g)
  refine (pt_cmp (pc_isN ha) rfl).run pins s σ H Q I ⟨M, h, ρ, er, hr, g0.imp fun d M1 h1 H1 p g1 v x => ?_⟩
  refine ⟨decide (v = V.non), rfl, ?_⟩
  rw [non_dec x]
  have g1 : Got G (fun c d H' => W c d σ H') M1 H1 (Mi.ofO (some (decide (d = D.non))) h1) fun b _ _ H' => Q b H' := g1 M1 H1 (Post.refl p.hr)
  exact g1 M1 H1 (Post.refl p.hr)
theorem notN_test {j : Nat} {p2 : Pos} (ha : PE X a (tO G W (ev C ma))) : PT X (.Compare a [.IsNot] [.Constant .none j p2] pos) (tT G W (cnd C (.notN ma))) := by
  constructor
  intro pins s σ H Q I ⟨M, h, ρ, er, hr, g⟩
  have g0 := Got.bd hr (Got.bd hr g)
  refine (pt_cmp (pc_notN ha) rfl).run pins s σ H Q I ⟨M, h, ρ, er, hr, g0.imp fun d M1 h1 H1 p g1 v x => ?_⟩
  refine ⟨!decide (v = V.non), rfl, ?_⟩
  rw [non_dec x]
  have g1 : Got G (fun c d H' => W c d σ H') M1 H1 (Mi.ofO (some (!decide (d = D.non))) h1) fun b _ _ H' => Q b H' := g1 M1 H1 (Post.refl p.hr)
  exact g1 M1 H1 (Post.refl p.hr)
/-! ### is True .. -/
def boolOps (neg : Bool) : CmpOp := if neg then .IsNot else .Is
theorem m_isB {k neg : Bool} {j : Nat} {p2 : Pos} (ha : PE X a (tO G W (ev C ma))) : PE X (.Compare a [boolOps neg] [.Constant (.bool k) j p2] pos) (tO G W (ev C (.isB ma k neg))) := by
  constructor
  intro pins s σ H Q I ⟨M, h, ρ, er, hr, g⟩
  have g0 := Got.bd hr g
  have key : ∀ d M1 h1 H1, Post G M H M1 h1 H1 → Got G (fun c d H' => W c d σ H') M1 H1 (match d with
    | .bl c => Out.ok (D.bl (if neg then !(c == k) else c == k)) h1
    | _ => .bad) (fun d M' _ H' => ∀ v, RD G M' H H' d v → Q v H') → ∀ v, RD G M1 H H1 d v → ∃ c : Bool, v = .bl c ∧ Q (.bl (if neg then !(c == k) else c == k)) H1 := fun d M1 h1 H1 p g v x => by
    cases d with
    | bl c => exact ⟨c, x, g M1 H1 (Post.refl p.hr) _ rfl⟩
    | _ => exact g.elim
  cases neg with
  | false =>
    refine (pe_cmpR op_isBl ha pe_bl rfl).run pins s σ H Q I ⟨M, h, ρ, er, hr, g0.imp fun d M1 h1 H1 p g1 v x => ?_⟩
    obtain ⟨c, rfl, q⟩ := key d M1 h1 H1 p g1 v x
    refine ⟨c, k, rfl, rfl, ?_⟩
    have e : decide (c = k) = (c == k) := by cases c <;> cases k <;> rfl
    rw [e]; exact q
  | true =>
    refine (pe_cmpR op_notBl ha pe_bl rfl).run pins s σ H Q I ⟨M, h, ρ, er, hr, g0.imp fun d M1 h1 H1 p g1 v x => ?_⟩
    obtain ⟨c, rfl, q⟩ := key d M1 h1 H1 p g1 v x
    refine ⟨c, k, rfl, rfl, ?_⟩
    have e : decide (c = k) = (c == k) := by cases c <;> cases k <;> rfl
    rw [e]; exact q
theorem isB_test {k neg : Bool} {j : Nat} {p2 : Pos} (ha : PE X a (tO G W (ev C ma))) : PT X (.Compare a [boolOps neg] [.Constant (.bool k) j p2] pos) (tT G W (cnd C (.isB ma k neg))) := by
  constructor
  intro pins s σ H Q I ⟨M, h, ρ, er, hr, g⟩
  have g0 := Got.bd hr (Got.bd hr g)
  have key : ∀ d M1 h1 H1, Post G M H M1 h1 H1 → Got G (fun c d H' => W c d σ H') M1 H1 (match d with
    | .bl c => Out.ok (D.bl (if neg then !(c == k) else c == k)) h1
    | _ => .bad) (fun x M1 h1 H1 => Got G (fun c d H' => W c d σ H') M1 H1 (Mi.ofO (truth x h1) h1) fun b _ _ H' => Q b H') → ∀ v, RD G M1 H H1 d v → ∃ c : Bool, v = .bl c ∧ Q (if neg then !(c == k) else c == k) H1 := fun d M1 h1 H1 p g v x => by
    cases d with
    | bl c => exact ⟨c, x, g M1 H1 (Post.refl p.hr) M1 H1 (Post.refl p.hr)⟩
    | _ => exact g.elim
  cases neg with
  | false =>
    refine (pt_cmpR op_isBl ha pe_bl rfl).run pins s σ H Q I ⟨M, h, ρ, er, hr, g0.imp fun d M1 h1 H1 p g1 v x => ?_⟩
    obtain ⟨c, rfl, q⟩ := key d M1 h1 H1 p g1 v x
    refine ⟨c, k, rfl, rfl, _, rfl, ?_⟩
    have e : decide (c = k) = (c == k) := by cases c <;> cases k <;> rfl
    rw [e]; exact q
  | true =>
    refine (pt_cmpR op_notBl ha pe_bl rfl).run pins s σ H Q I ⟨M, h, ρ, er, hr, g0.imp fun d M1 h1 H1 p g1 v x => ?_⟩
    obtain ⟨c, rfl, q⟩ := key d M1 h1 H1 p g1 v x
    refine ⟨c, k, rfl, rfl, _, rfl, ?_⟩
    have e : decide (c = k) = (c == k) := by cases c <;> cases k <;> rfl
    rw [e]; exact q
/-! ### isinstance of built-in types -/
def tyS : Ty → String
  | .int => "int" | .str => "str" | .bool => "bool" | .list => "list" | .tuple => "tuple" | .dict => "dict" | .own _ => ""
def isOwn : Ty → Bool
  | .own _ => true
  | _ => false
/-- the name of a value's type -/
def tyN (d : D) (h : Hp) : String := match d with
  | .non => "NoneType" | .bl _ => "bool" | .int _ => "int" | .str _ => "str" | .tup _ => "tuple" | .lst _ => "list"
  | .ref a => (match get h a with
    | some (.lst _) => "list" | some (.frz _) => "list" | some (.dic false _) => "dict" | _ => "")
  | .exc _ => ""
  | .cst _ => "list"
theorem ty_of (hr : HR G M h H) {d : D} {v : V} (x : VR G M H d v) (hn : tyN d h ≠ "") : TyX G.K H v (.type (tyN d h)) := by
  cases d with
  | non => rw [show v = .non from x]; exact .base .non
  | bl b => rw [show v = .bl b from x]; exact .base (.bl b)
  | int b => rw [show v = .int b from x]; exact .base (.int b)
  | str b => rw [show v = _ from x.1]; exact .base (.str _)
  | tup b =>
    obtain ⟨p, vs, rfl, q, _⟩ := x
    rcases q with (q | ⟨ob, q⟩) | q
    · exact .base (.tup q)
    · exact .fTuple q
    · obtain ⟨ob, its, n, q1, q2, _⟩ := q
      exact .kTuple q1 q2
  | lst b => obtain ⟨p, vs, rfl, _, q, _⟩ := x; exact .base (.lst q)
  | ref n =>
    obtain ⟨p, hp, e1⟩ := x
    subst e1
    unfold tyN at hn ⊢
    cases g : get h n with
    | none => simp only [g] at hn; exact absurd rfl hn
    | some ob =>
      obtain ⟨p', hb, y⟩ := hr.obj n ob g
      rw [hp] at hb; cases hb
      simp only [g] at hn ⊢
      cases ob with
      | lst xs => obtain ⟨vs, z, _⟩ := y; exact .base (.lst z)
      | frz xs => exact y.elim
      | dic t kvs =>
        cases t with
        | true => exact absurd rfl hn
        | false => obtain ⟨ks, z, _⟩ := y; exact .base (.dK z)
      | ins c fs => exact absurd rfl hn
  | exc c => exact absurd rfl hn
  | cst xs =>
    obtain ⟨p, vs, rfl, q, _⟩ := x
    rcases q with ⟨ob, q⟩ | ⟨ob, its, n, q1, q2, _⟩
    · exact .base (.frz q)
    · exact .kList q1 q2
theorem kit_tt (K : PySem.W.Frag) (x y : String) (hx : x ∈ ["NoneType", "bool", "int", "str", "tuple", "list", "dict"]) (hy : y ∈ ["int", "str", "bool", "list", "tuple", "dict"]) :
    PySem.W.kitOne K (.type x) (.type y) = some (x == y || (x == "bool" && y == "int")) := by
  simp only [List.mem_cons, List.not_mem_nil, or_false] at hx hy
  rcases hx with rfl | rfl | rfl | rfl | rfl | rfl | rfl <;> rcases hy with rfl | rfl | rfl | rfl | rfl | rfl <;> kernel_rfl
theorem kit_all (K : PySem.W.Frag) {d : D} {t : Ty} {h : Hp} {sub : String → String → Option Bool} {b : Bool} (e : Mi.tyV d t h sub = some b) (ho : isOwn t = false) (hn : tyN d h ≠ "") : PySem.W.kitOne K (.type (tyN d h)) (.type (tyS t)) = some b := by
  have e : tyB d t h = some b := by cases t <;> first | exact e | cases ho
  have ht : tyS t ∈ ["int", "str", "bool", "list", "tuple", "dict"] := by cases t <;> first | (cases ho; done) | (simp [tyS]; done)
  have fin : ∀ x : String, x ∈ ["NoneType", "bool", "int", "str", "tuple", "list", "dict"] → tyN d h = x → (x == tyS t || (x == "bool" && tyS t == "int")) = b → PySem.W.kitOne K (.type (tyN d h)) (.type (tyS t)) = some b := fun x hx e1 e2 => by
    rw [e1, kit_tt K x _ hx ht, e2]
  cases d with
  | non => cases e; exact fin "NoneType" (by simp) rfl (by cases t <;> first | rfl | cases ho)
  | bl c => cases e; exact fin "bool" (by simp) rfl (by cases t <;> first | rfl | cases ho)
  | int c => cases e; exact fin "int" (by simp) rfl (by cases t <;> first | rfl | cases ho)
  | str c => cases e; exact fin "str" (by simp) rfl (by cases t <;> first | rfl | cases ho)
  | tup c => cases e; exact fin "tuple" (by simp) rfl (by cases t <;> first | rfl | cases ho)
  | lst c => cases e; exact fin "list" (by simp) rfl (by cases t <;> first | rfl | cases ho)
  | exc c => exact absurd rfl hn
  | cst c => cases e; exact fin "list" (by simp) rfl (by cases t <;> first | rfl | cases ho)
  | ref n =>
    have e : (match get h n with
      | some (.lst _) => some (decide (t = .list))
      | some (.frz _) => some (decide (t = .list))
      | _ => none) = some b := e
    cases g : get h n with
    | none => rw [g] at e; cases e
    | some ob =>
      rw [g] at e
      cases ob with
      | lst xs => cases e; exact fin "list" (by simp) (by simp only [tyN, g]) (by cases t <;> first | rfl | cases ho)
      | frz xs => cases e; exact fin "list" (by simp) (by simp only [tyN, g]) (by cases t <;> first | rfl | cases ho)
      | dic t kvs => cases e
      | ins c fs => cases e
theorem m_isi {t : Ty} {p p2 : Pos} (ck : Ck G X) (ho : isOwn t = false) (hg : Gl X "isinstance") (hm : X.mg "isinstance" = none) (hg2 : Gl X (Str.ofString (tyS t))) (hm2 : X.mg (Str.ofString (tyS t)) = none) (hs : NoStar X a) (ha : PE X a (tO G W (ev C ma))) :
    PE X (.Call (.Name "isinstance" p) [a, .Name (Str.ofString (tyS t)) p2] [] pos) (tO G W (ev C (.isi ma t))) := by
  constructor
  intro pins s σ H Q I ⟨M, h, ρ, er, hr, g⟩
  have hty : PE X (.Name (Str.ofString (tyS t)) p2) (tC (.ty (tyS t))) := by
    cases t with
    | own c => cases ho
    | int => exact pe_bltn hg2 hm2 PyProof.Rows.boot_int rfl (by decide +kernel) (by decide +kernel)
    | str => exact pe_bltn hg2 hm2 PyProof.Rows.boot_str rfl (by decide +kernel) (by decide +kernel)
    | bool => exact pe_bltn hg2 hm2 (by decide +kernel : bootBuiltins "bool" = some (.type "bool")) rfl (by decide +kernel) (by decide +kernel)
    | list => exact pe_bltn hg2 hm2 PyProof.Rows.boot_list rfl (by decide +kernel) (by decide +kernel)
    | tuple => exact pe_bltn hg2 hm2 PyProof.Rows.boot_tuple rfl (by decide +kernel) (by decide +kernel)
    | dict => exact pe_bltn hg2 hm2 PyProof.Rows.boot_dict rfl (by decide +kernel) (by decide +kernel)
  refine (pe_callB call_isi hg hm PyProof.Rows.boot_isinstance (pa_cons ha (pa_cons hty pa_nil rfl) (hs _)) (by decide) (by decide) (hs _) rfl).run pins s σ H Q I ⟨M, h, ρ, er, hr, (Got.bd hr g).imp fun d M1 h1 H1 p g1 v x => ?_⟩
  obtain ⟨z, e, q⟩ := g1.ofO
  obtain ⟨b, e1, rfl⟩ := mapO e
  by_cases hn : tyN d h1 = ""
  · exfalso
    cases d with
    | exc c => cases t <;> first | (cases ho; done) | (cases e1; done)
    | ref n =>
      have e1 : tyB (.ref n) t h1 = some b := by cases t <;> first | exact e1 | cases ho
      have e1 : (match get h1 n with
        | some (.lst _) => some (decide (t = .list))
        | some (.frz _) => some (decide (t = .list))
        | _ => none) = some b := e1
      cases gg : get h1 n with
      | none => rw [gg] at e1; cases e1
      | some ob =>
        rw [gg] at e1
        cases ob with
        | lst xs => simp [tyN, gg] at hn
        | frz xs => simp [tyN, gg] at hn
        | dic t kvs => cases e1
        | ins c fs => cases e1
    | _ => exact absurd hn (by simp [tyN])
  · exact ⟨v, .ty (tyS t), .type (tyN d h1), .type (tyS t), b, rfl, .ty _, by rw [ck.K]; exact ty_of p.hr x.vr hn, kit_all X.K e1 ho hn, q M1 H1 (Post.refl p.hr) _ rfl⟩
/-- isinstance of an error that is kept -/
theorem m_isiE {b : String} {u : Value} {vc : V} {y : Expr} {p : Pos} (ck : Ck G X) (hk : ∀ a t, C.isb a b = some t → ExcC X.K (G.cl a) ∧ PySem.W.kitOne X.K (.ref (G.cl a)) u = some t) (hv : ∀ w, RelV vc w → w = u) (hg : Gl X "isinstance") (hm : X.mg "isinstance" = none) (hs : NoStar X a) (ha : PE X a (tO G W (ev C ma))) (hy : PE X y (tC vc)) (hsy : NoStar X y) :
    PE X (.Call (.Name "isinstance" p) [a, y] [] pos) (tO G W (ev C (.isi ma (.own b)))) := by
  constructor
  intro pins s σ H Q I ⟨M, h, ρ, er, hr, g⟩
  have hc : CallR X (.builtin "isinstance") (fun xs H' Q' => ∃ (e : String) (q : Addr) (oe : Obj) (t : Bool), xs = [.ref q, vc] ∧ H' q = some (.frz oe (exHO (G.cl e) q)) ∧ C.isb e b = some t ∧ Q' (.bl t) H') := by
    intro pins s σ H xs us Q I r h
    obtain ⟨e, q, oe, t, rfl, hq, ht, hQ⟩ := h
    obtain ⟨u1, u2, rfl, r1, r2⟩ := vals2 r
    cases r1
    obtain rfl := hv _ r2
    obtain ⟨hget, ⟨oe', h1, h2, vs, h3⟩, _⟩ := I.hok q _ hq
    rw [hget] at h1
    cases h1
    obtain ⟨ec, ek⟩ := hk e t ht
    have J : PySem.W.InstAt s.heap q oe (G.cl e) none := by
      obtain ⟨oc, od, oda, osl⟩ := oe
      obtain ⟨z1, z2⟩ := h2
      dsimp only at z1 z2 h3
      subst z1 z2 h3
      exact ⟨hget, rfl, rfl, trivial⟩
    exact PySem.W.kia_one (PySem.W.handS_kitx_exc ec.hg ec.hk ec.hs ec.hd ec.ha ec.hn ec.ht ec.hm) I.kIn J ek (fun z => nomatch z) fun tk => ⟨.bl t, H, I.tok tk, rfl, hQ⟩
  refine (pe_callB hc hg hm PyProof.Rows.boot_isinstance (pa_cons ha (pa_cons hy pa_nil (hsy _)) (hs _)) (by decide) (by decide) (hs _) ?_).run pins s σ H Q I ⟨M, h, ρ, er, hr, (Got.bd hr g).imp fun d M1 h1 H1 p g1 v x => ?_⟩
  · rw [hsy []]; rfl
  obtain ⟨z, e, q⟩ := g1.ofO
  obtain ⟨t, e1, rfl⟩ := mapO e
  cases d with
  | exc c =>
    obtain ⟨qa, oe, rfl, hq⟩ := x
    exact ⟨c, qa, oe, t, rfl, hq, e1, q M1 H1 (Post.refl p.hr) _ rfl⟩
  | _ => cases e1
/-- {}, its keys to be tuples -/
theorem m_dicT (ck : Ck G X) : PE X (.Dict [] [] pos) (tO G W (ev C (.dic true [] []))) := by
  constructor
  intro pins s σ H Q I ⟨M, h, ρ, er, hr, g⟩
  have g : Got G (fun c d H' => W c d σ H') M H (Out.ok (D.ref h.length) (Ob.dic true [] :: h)) fun d M' _ H' => ∀ v, RD G M' H H' d v → Q v H' := g
  have np : H s.heap.objs.size = none := I.hok.fresh (Nat.le_refl _)
  refine wpAny_Dict_empty ⟨.ref s.heap.objs.size, _, I.laid (a := s.heap.objs.size) (o := tDO G.w [] s.heap.objs.size) (t' := s.toks) (fun _ _ q => Heap.get?_push_of_some _ q) (Nat.le_refl _) (t_empty ck.w s.heap I.big), rfl, ?_⟩
  refine g (M ++ [s.heap.objs.size]) _ (Post.new1 hr np ⟨[], upd_same, rfl, rfl, rfl⟩) _ ⟨s.heap.objs.size, ?_, rfl⟩
  rw [← hr.len]
  simp
/-- {} -/
theorem m_dic : PE X (.Dict [] [] pos) (tO G W (ev C (.dic false [] []))) := by
  constructor
  intro pins s σ H Q I ⟨M, h, ρ, er, hr, g⟩
  have g : Got G (fun c d H' => W c d σ H') M H (Out.ok (D.ref h.length) (Ob.dic false [] :: h)) fun d M' _ H' => ∀ v, RD G M' H H' d v → Q v H' := g
  refine pe_dnewK.run pins s σ H Q I fun p na => ?_
  refine g (M ++ [p]) _ (Post.new1 hr na ⟨[], upd_same, rfl, fun _ z => (nomatch z), rfl⟩) _ ⟨p, ?_, rfl⟩
  rw [← hr.len]
  simp
end
end Mi

/-! sets of texts: made, gathered, sorted -/
namespace Mi
open PySem PySem.Spec PyProof.Rows L2

/-- the text of a member -/
def mTx (m : Int × Value) : Str := match m.2 with
  | .str z _ => z
  | _ => Str.empty
def MemT (w : World) (m : Int × Value) : Prop := ∃ (z : Str) (u : Tok), m = (hashStr w z, Value.str z u)
/-- the members of a set are the texts L, each once -/
structure TsD (w : World) (ms : Array (Int × Value)) (t : SetTable) (L : List Str) : Prop where
  all : ∀ m ∈ ms.toList, MemT w m
  perm : (ms.toList.map mTx).Perm L
  one : L.Nodup
  few : ms.size < scanBound
  fit : t.fits ms.size = true
  ris : Ris t.place.toList
  led : w.params.followText "set-order" = true ∨ t.led = true
/-- such a set stands at a -/
def TsAt (w : World) (h : Heap) (a : Addr) (L : List Str) : Prop := ∃ (o : Obj) (ms : Array (Int × Value)) (ep : Nat) (t : SetTable), h.get? a = some o ∧ o.ExactSet ∧ o.data = .set ms ep t ∧ TsD w ms t L
section
variable {P : Program} {w : World} {A : Around} {E : Value → Shared → Prop} {s : Shared} {a : Addr} {L : List Str} {h h' : Heap} {ms ms' : Array (Int × Value)} {t t' : SetTable}
theorem isTx (z : Str) (u : Tok) : (strKind P w).is z (.str z u) = true := by
  show Value.isStrOf z (.str z u) = true
  simp [Value.isStrOf]
theorem TsAt.at (x : TsAt w h a L) (k : ∀ o, h.get? a = some o → h'.get? a = some o) : TsAt w h' a L :=
  let ⟨o, ms, ep, t, e, r⟩ := x
  ⟨o, ms, ep, t, k o e, r⟩
theorem TsD.size (x : TsD w ms t L) : ms.size = L.length := by
  have := x.perm.length_eq
  simpa using this
theorem TsD.shuffle (x : TsD w ms t L) (p : ms'.toList.Perm ms.toList) (hf : t'.fits ms'.size = true) (hr : Ris t'.place.toList) (hl : t'.led = t.led) : TsD w ms' t' L := by
  have hz : ms'.size = ms.size := by simpa using p.length_eq
  exact ⟨fun m hm => x.all m (p.mem_iff.mp hm), (p.map mTx).trans x.perm, x.one, by rw [hz]; exact x.few, hf, hr, by rw [hl]; exact x.led⟩
theorem ts_elems (x : TsD w ms t L) : ElemsOf (strKind P w) ms.toList := fun m hm => by
  obtain ⟨z, u, rfl⟩ := x.all m hm
  exact ⟨⟨z, isTx z u, rfl⟩, rfl⟩
theorem ts_find (x : TsD w ms t L) (z : Str) : (∃ m ∈ ms.toList, (strKind P w).is z m.2 = true) ↔ z ∈ L := by
  rw [← x.perm.mem_iff, List.mem_map]
  constructor
  · rintro ⟨m, hm, q⟩
    obtain ⟨z', u, rfl⟩ := x.all m hm
    exact ⟨_, hm, (strKind P w).inj (.str z' u) z' z (isTx z' u) q⟩
  · rintro ⟨m, hm, q⟩
    obtain ⟨z', u, rfl⟩ := x.all m hm
    obtain rfl : z' = z := q
    exact ⟨_, hm, isTx z' u⟩
theorem ts_push (x : TsD w ms t L) {z : Str} {u : Tok} (hz : z ∉ L) (p : ms'.toList.Perm (ms.push (hashStr w z, .str z u)).toList) (few : L.length + 1 < scanBound) (hf : t'.fits ms'.size = true) (hr : Ris t'.place.toList) (hl : t'.led = t.led) : TsD w ms' t' (z :: L) := by
  rw [Array.toList_push] at p
  have p2 : ms'.toList.Perm ((hashStr w z, Value.str z u) :: ms.toList) := p.trans (List.perm_append_singleton _ _)
  have hs : ms'.size = L.length + 1 := by
    have := p2.length_eq
    rw [← x.size]
    simpa using this
  refine ⟨fun m hm => ?_, (p2.map mTx).trans (List.Perm.cons z x.perm), List.nodup_cons.mpr ⟨hz, x.one⟩, by rw [hs]; exact few, hf, hr, by rw [hl]; exact x.led⟩
  rcases List.mem_cons.mp (p2.mem_iff.mp hm) with rfl | q
  · exact ⟨z, u, rfl⟩
  · exact x.all m q
theorem ts_write {o : Obj} {ep : Nat} (e : h.get? a = some o) (d : o.data = .set ms ep t) : (h.update a (Obj.putSet ms' t')).get? a = some { o with data := .set ms' (ep + 1) t' } := L2.store_at e d
/-- the end of an add: the members are stored, the table may be laid anew -/
theorem ts_tail {g : Bool → Sem Unit} (hg : ∀ (b : Bool) (s₁ : Shared) (Q' : Unit → Shared → Prop), Q' () s₁ → wpAny (model P w) A (g b) Q' E s₁) {o : Obj} {ep : Nat} {t0 : SetTable} {ms0 : Array (Int × Value)} (ho : s.heap.get? a = some o) (hx : o.ExactSet) (hd : o.data = .set ms0 ep t0)
    (x : TsD w ms t L) {dum : Bool} {R : Option Bool → Shared → Prop} (hR : ∀ h', Heap.SameBut a s.heap h' → TsAt w h' a L → R (some true) { s with heap := h' }) :
    wpAny (model P w) A (do
        storeSet a ms t
        if (!dum && t.tooFull) = true then do
            g (relayAll t ms (SetTable.grown ms.size)).2.2
            storeSet a (relayAll t ms (SetTable.grown ms.size)).1 (relayAll t ms (SetTable.grown ms.size)).2.1
            pure (some true)
          else pure (some true)) R E s := by
  refine wpAny_bind (wpAny_storeSet_of ho hd ?_ (fits_of_scanBound x.few))
  have o1 := ts_write (ms' := ms) (t' := t) ho hd
  have s1 := Heap.SameBut.update s.heap a (Obj.putSet ms t)
  split
  · have y := x.shuffle (relayAll_perm t ms (SetTable.grown ms.size)) (relayAll_fits t ms (SetTable.grown ms.size)) (L2.relayAll_ris t ms (SetTable.grown ms.size)) (L2.relayAll_led t ms (SetTable.grown ms.size))
    generalize relayAll t ms (SetTable.grown ms.size) = Z at y ⊢
    obtain ⟨ms2, t2, gave⟩ := Z
    refine wpAny_bind (hg _ _ _ ?_)
    refine wpAny_bind (wpAny_storeSet_of o1 rfl ?_ (fits_of_scanBound y.few))
    exact wpAny_pure (hR _ (s1.trans (Heap.SameBut.update _ a _)) ⟨_, ms2, _, t2, ts_write o1 rfl, hx, rfl, y⟩)
  · exact wpAny_pure (hR _ s1 ⟨_, ms, _, t, o1, hx, rfl, x⟩)
/-- L with z -/
def insT (z : Str) (L : List Str) : List Str := if z ∈ L then L else z :: L
theorem ts_add {z : Str} {u : Tok} {Q : Bool → Shared → Prop} (x : TsAt w s.heap a L) (room : L.length + 1 < scanBound)
    (hQ : ∀ (b : Bool) h', Heap.SameBut a s.heap h' → TsAt w h' a (insT z L) → Q b { s with heap := h' }) : wpAny (model P w) A (setAddHashed a (.str z u) ((strKind P w).hash z)) Q E s := by
  obtain ⟨o, ms, ep, t, ho, hx, hd, y⟩ := x
  have hk : (strKind P w).is z (.str z u) = true := isTx z u
  have sc : (Value.str z u).scannable = true := rfl
  have el : ElemsOf (strKind P w) ms.toList := ts_elems y
  unfold setAddHashed setAddHashedIn
  refine wpAny_holding (wpAny_bind (wpAny_setState_of ho hd y.fit ?_))
  dsimp only
  rw [byScan_of sc y.few el]
  simp only [↓reduceIte]
  unfold setAddByScan
  refine wpAny_bind ?_
  refine wpAny_bind (wpAny_rule ?_)
  refine wpAny_bind (wpAny_setScan_of hk ho hd y.fit el ?_)
  cases hfi : List.findIdx? (fun e => (strKind P w).is z e.2) ms.toList with
  | some j =>
    obtain ⟨hj, pj, _⟩ := List.findIdx?_eq_some_iff_getElem.mp hfi
    have hin : z ∈ L := (ts_find (P := P) y z).mp ⟨_, List.getElem_mem hj, pj⟩
    refine wpAny_pure (wpAny_pure (hQ _ _ (Heap.SameBut.refl a s.heap) ?_))
    unfold insT
    rw [if_pos hin]
    exact ⟨o, ms, ep, t, ho, hx, hd, y⟩
  | none =>
    have hin : z ∉ L := fun c => by
      obtain ⟨m, hm, q⟩ := (ts_find (P := P) y z).mpr c
      rw [List.findIdx?_eq_none_iff.mp hfi m hm] at q
      cases q
    have Y : ∀ h', TsAt w h' a (z :: L) → TsAt w h' a (insT z L) := fun h' q => by unfold insT; rw [if_neg hin]; exact q
    have wy : ∀ (b : Bool) {s₁ : Shared} {Q' : Unit → Shared → Prop}, Q' () s₁ → wpAny (model P w) A (match b with | true => rule "set.scan.the-table-gave-way" | false => pure ()) Q' E s₁ := fun b s₁ Q' q => by
      cases b
      · exact wpAny_pure q
      · exact wpAny_rule q
    have y1 := ts_push (u := u) y hin (layNew_perm t ms ((strKind P w).hash z) (.str z u)) room (layNew_fits t ms ((strKind P w).hash z) (.str z u)) (L2.layNew_ris t ms ((strKind P w).hash z) (.str z u) y.ris) (L2.layNew_led t ms ((strKind P w).hash z) (.str z u))
    generalize layNew t ms ((strKind P w).hash z) (.str z u) = Z at y1 ⊢
    obtain ⟨ms1, t1, dum, gave⟩ := Z
    dsimp only at y1 ⊢
    refine wpAny_bind (wy _ ?_)
    split
    · refine wpAny_bind ?_
      rw [hashByValue_scannable 8 sc]
      refine wpAny_pure ?_
      refine ts_tail ?_ ho hx hd (L := z :: L) ?_ ?_
      · intro b s₁ Q' q
        cases b
        · exact wpAny_pure q
        · exact wpAny_rule q
      · split
        · exact y1
        · exact { y1 with fit := SetTable.fits_plain_off y1.fit }
      · intro h' sb q
        exact wpAny_pure (hQ _ h' sb (Y h' q))
    · refine wpAny_bind (wpAny_pure ?_)
      simp only [↓reduceIte]
      refine ts_tail ?_ ho hx hd y1 ?_
      · intro b s₁ Q' q
        cases b
        · exact wpAny_pure q
        · exact wpAny_rule q
      · intro h' sb q
        exact wpAny_pure (hQ _ h' sb (Y h' q))
/-- the texts xs, one after another, each once -/
def insAll (L : List Str) (xs : List Str) : List Str := xs.foldl (fun L z => insT z L) L
theorem insT_len {z : Str} {L : List Str} : (insT z L).length ≤ L.length + 1 := by
  unfold insT
  split
  · exact Nat.le_succ _
  · exact Nat.le_refl _
theorem insAll_mem : ∀ {xs L : List Str} {z : Str}, z ∈ insAll L xs ↔ z ∈ L ∨ z ∈ xs
  | [], L, z => by simp [insAll]
  | x :: xs, L, z => by
    show z ∈ insAll (insT x L) xs ↔ _
    rw [insAll_mem (xs := xs)]
    unfold insT
    split
    · rename_i hx
      constructor
      · rintro (q | q)
        · exact .inl q
        · exact .inr (List.mem_cons_of_mem _ q)
      · rintro (q | q)
        · exact .inl q
        · rcases List.mem_cons.mp q with rfl | q
          · exact .inl hx
          · exact .inr q
    · constructor
      · rintro (q | q)
        · rcases List.mem_cons.mp q with rfl | q
          · exact .inr List.mem_cons_self
          · exact .inl q
        · exact .inr (List.mem_cons_of_mem _ q)
      · rintro (q | q)
        · exact .inl (List.mem_cons_of_mem _ q)
        · rcases List.mem_cons.mp q with rfl | q
          · exact .inl List.mem_cons_self
          · exact .inr q
theorem insAll_nodup : ∀ {xs L : List Str}, L.Nodup → (insAll L xs).Nodup
  | [], L, h => h
  | x :: xs, L, h => by
    show (insAll (insT x L) xs).Nodup
    refine insAll_nodup ?_
    unfold insT
    split
    · exact h
    · rename_i hx
      exact List.nodup_cons.mpr ⟨hx, h⟩
theorem ts_new {h : Heap} {a : Addr} {o : Obj} (e : h.get? a = some o) (ho : o = { cls := .type "set", dict := none, data := .set #[] 0 (.fresh 0 0 (!w.params.followText "set-order")) }) : TsAt w h a [] := by
  subst ho
  refine ⟨_, #[], 0, _, e, ⟨rfl, rfl, rfl⟩, rfl, ⟨fun m hm => by simp at hm, by simp, List.nodup_nil, by decide, by rfl, List.Pairwise.nil, ?_⟩⟩
  show _ ∨ (!w.params.followText "set-order") = true
  cases w.params.followText "set-order"
  · exact .inr rfl
  · exact .inl rfl
/-- the loop of an update: the source's items are the texts xs -/
theorem ts_loop {I : Addr} {fp wr : List Addr} {Gn : Array GenState → Array GenState → Prop} {n : Nat} {Pv : Nat → Value → Prop} {St : Nat → Shared → Prop} {R : Result → Shared → Prop} (Wk : WalksS P w A.in1 I fp wr Gn n Pv St) (S : Addr) (hS : S ∉ fp) (xs : List Str)
    (val : ∀ i v, Pv i v → ∃ z u, xs[i]? = some z ∧ v = .str z u) (hn : n = xs.length) : ∀ (k i : Nat) (s : Shared) (L : List Str), n - i = k → i ≤ n → L.length + (n - i) + 1 < scanBound → St i s → TsAt w s.heap S L →
      (∀ s', Moved (S :: wr) Gn s s' → TsAt w s'.heap S (insAll L (xs.drop i)) → R (.ok (.ret .none)) s') → codeAny (model P w) A (.builtin "set.update.loop" ⟨[.ref S, .ref I], []⟩) R s := by
  have outw : S ∉ wr := fun c => hS (Wk.sub _ c)
  have wide : ∀ b ∈ wr, b ∈ S :: wr := fun b hb => List.mem_cons_of_mem _ hb
  intro k
  induction k with
  | zero =>
    intro i s L hk hi room hst x hR
    obtain rfl : i = n := by omega
    refine codeAny_builtin F.entry_set_update_loop ?_
    rw [Around.under_plainId F.plain_set_update_loop _]
    show wpAny _ A.in1 (pyNext (.ref I) >>= _) _ _ s
    refine wpAny_bind (Wk.done s _ _ hst fun s' mv => ?_)
    refine wpAny_pure (hR s' (mv.mono wide) ?_)
    rw [List.drop_eq_nil_of_le (by omega)]
    exact x.at fun o e => mv.heap S o outw e
  | succ k ih =>
    intro i s L hk hi room hst x hR
    have lt : i < n := by omega
    refine codeAny_builtin F.entry_set_update_loop ?_
    rw [Around.under_plainId F.plain_set_update_loop _]
    show wpAny _ A.in1 (pyNext (.ref I) >>= _) _ _ s
    refine wpAny_bind (Wk.item i s _ _ lt hst fun v s1 pv st1 mv => ?_)
    obtain ⟨z, u, ez, rfl⟩ := val i v pv
    have x1 : TsAt w s1.heap S L := x.at fun o e => mv.heap S o outw e
    show wpAny _ A.in1 (holding [Value.str z u] (setAdd S (.str z u)) >>= _) _ _ s1
    refine wpAny_bind (wpAny_holding ?_)
    unfold setAdd
    refine wpAny_holding ?_
    refine wpAny_bind ((strKind P w).pyHash (k := z) (isTx z u) ?_)
    refine ts_add x1 (by omega) fun b h2 sb x2 => ?_
    have ed : xs.drop i = z :: xs.drop (i + 1) := by
      have hl : i < xs.length := by omega
      rw [List.drop_eq_getElem_cons hl]
      rw [List.getElem?_eq_getElem hl] at ez
      cases ez
      rfl
    have room2 : (insT z L).length + (n - (i + 1)) + 1 < scanBound := by
      have := insT_len (z := z) (L := L)
      omega
    refine wpAny_pure ⟨plainId_quiet F.plain_set_update_loop _, ih (i + 1) _ (insT z L) (by omega) lt room2 (Wk.frame _ s1 _ _ st1 ?_ fun b hb o e => ?_) x2 fun s3 mv3 x3 => ?_⟩
    · first | exact Nat.le_refl _ | exact Nat.le_succ _
    · rw [sb.2 b (fun q : b = S => hS (by rw [← q]; exact hb))]; exact e
    · refine hR s3 (Moved.trans Wk.gtrans ((mv.mono wide).then_heap ?_ fun b o hb e => ?_) mv3) ?_
      · first | exact Nat.le_refl _ | exact Nat.le_succ _
      · rw [sb.2 b (fun q : b = S => hb (by rw [q]; exact List.mem_cons_self))]; exact e
      · rw [ed]
        exact x3
/-- a new set -/
abbrev setO (w : World) : Obj := { cls := .type "set", dict := none, data := .set #[] 0 (.fresh 0 0 (!w.params.followText "set-order")) }
/-- what the value v is walked as: the texts xs -/
def SrcT (P : Program) (w : World) (s : Shared) (v : Value) (xs : List Str) : Prop := ∀ (s1 : Shared) (A1 : Around) (Q' : Value → Shared → Prop) (E' : Value → Shared → Prop), (∀ b o, s.heap.get? b = some o → s1.heap.get? b = some o) → s.heap.objs.size ≤ s1.heap.objs.size →
  (∀ (ob : Obj) (fp : List Addr) (n : Nat) (Pv : Nat → Value → Prop) (St : Nat → Heap → Prop), (∀ A2 : Around, A2.handled = none → Walks P w A2 s1.heap.objs.size fp [s1.heap.objs.size] n Pv St) → (∀ b ∈ fp, b = s1.heap.objs.size ∨ b < s.heap.objs.size) → n = xs.length →
    (∀ i v, Pv i v → ∃ z u, xs[i]? = some z ∧ v = Value.str z u) → St 0 (s1.heap.push ob) → Q' (.ref s1.heap.objs.size) { s1 with heap := s1.heap.push ob }) → wpAny (model P w) A1 (pyIter v) Q' E' s1
set_option maxHeartbeats 3200000 in
theorem set_gen {v : Value} {T : String} {xs : List Str} {Q : Value → Shared → Prop} (hh : A.handled = none) (hTy : ∀ s1 : Shared, (∀ b o, s.heap.get? b = some o → s1.heap.get? b = some o) → s1.TypeIs v T) (hsls : isSubtype (.type T) (.type "set") = pure false) (hslf : isSubtype (.type T) (.type "frozenset") = pure false)
    (hne : (Value.type T == Value.type "dict") = false) (src : SrcT P w s v xs) (few : xs.length + 1 < scanBound)
    (h : ∀ (h' : Heap) (tk : Nat), TsAt w h' s.heap.objs.size (insAll [] xs) → (∀ b o, s.heap.get? b = some o → h'.get? b = some o) → Q (.ref s.heap.objs.size) { s with heap := h', toks := tk }) : wpAny (model P w) A (PySem.call (.type "set") [v]) Q E s := by
  obtain ⟨c, tl, hmro⟩ := PySem.F.called_set.mro
  have hmade := PySem.F.called_set.made
  have hsub := PySem.F.called_set.sub
  refine wpAny_call (codeAny_of_tree ?_)
  show wpAny _ _ (callAny (.type "set") _) _ _ _
  refine wpAny_pure ⟨Code.quiet_builtin _ (by decide +kernel), codeAny_builtin PySem.F.entry_type_call ?_⟩
  rw [Around.under_plain (weight_type_call_type "set" [v] []) rfl]
  have h1 := PySem.F.called_set.notType
  have h2 := PySem.F.called_set.canCreate
  have hct := PySem.F.typeCall_set_1 v
  repeat (any_goals (first | assumption | wp_step))
  refine codeAny_mono (L2.code_set_led1 v (E := E) (Q₁ := fun ob s1 => ob = .ref s.heap.objs.size ∧ s1 = { s with heap := s.heap.push (setO w) }) ⟨rfl, rfl⟩) fun r s1 hr => ?_
  cases r with
  | error e => exact hr
  | ok fl =>
    cases fl with
    | ret ob =>
      obtain ⟨rfl, rfl⟩ := hr
      have hS : (s.heap.push (setO w)).get? s.heap.objs.size = some (setO w) := Heap.get?_push_size _ rfl
      have hT : Shared.TypeIs { s with heap := s.heap.push (setO w) } (.ref s.heap.objs.size) "set" := ⟨_, hS, rfl⟩
      have hli := PySem.F.called_set.init.lookup
      have hbi := PySem.F.called_set.init.bind (.ref s.heap.objs.size)
      repeat (any_goals (first | assumption | wp_step))
      refine codeAny_mono (codeAny_call_builtin (R := wants (fun r s2 => r = .none ∧ ∃ h' tk, s2 = { s with heap := h', toks := tk } ∧ TsAt w h' s.heap.objs.size (insAll [] xs) ∧ ∀ b o, s.heap.get? b = some o → h'.get? b = some o) E) PySem.F.called_set.init.plain PySem.F.entry_set_init (check_set_init_1 hT ?_)) fun r2 s2 hr2 => ?_
      · have hh3 : A.in1.in1.in1.handled = none := by simp [hh]
        have kp : ∀ b o, s.heap.get? b = some o → (s.heap.push (setO w)).get? b = some o := fun b o e => Heap.get?_push_of_some _ e
        have hv : Shared.TypeIs { s with heap := s.heap.push (setO w) } v T := hTy _ kp
        unfold Builtin.«set.__init__» noKeywords Builtin.Frozenset.updateFrom
        generalize hPI : pyIter = PI
        wp_walk
        subst hPI
        refine src _ _ _ _ kp (by rw [Heap.size_push]; exact Nat.le_succ _) fun obI fp n Pv St Wk hfp hn val st0 => ?_
        refine wpAny_bind (wpAny_runValue ?_)
        have zI : (s.heap.push (setO w)).objs.size = s.heap.objs.size + 1 := Heap.size_push ..
        have hSf : s.heap.objs.size ∉ fp := fun c => by
          rcases hfp _ c with q | q
          · have q : s.heap.objs.size = s.heap.objs.size + 1 := q.trans zI
            omega
          · exact absurd q (Nat.lt_irrefl _)
        refine ts_loop (Wk _ hh3).toS s.heap.objs.size hSf xs val hn (n - 0) 0 _ [] rfl (Nat.zero_le _) (by simp only [List.length_nil]; omega) st0 (ts_new (Heap.get?_push_of_some _ hS) rfl) fun s' mv x => ?_
        obtain ⟨h', g2, d2, tk, os2⟩ := s'
        obtain rfl : g2 = s.gens := mv.gens
        obtain rfl : d2 = s.drawn := mv.drawn
        obtain rfl : os2 = s.os := mv.os
        show wpAny _ _ _ _ _ _
        refine wpAny_pure ?_
        show wpAny _ _ (ret Value.none) _ _ _
        refine wpAny_pure ⟨rfl, h', tk, rfl, x, fun b o e => ?_⟩
        have b0 : b < s.heap.objs.size := Heap.lt_size e
        have b1 : b ≠ s.heap.objs.size := Nat.ne_of_lt b0
        have b2 : b ≠ (s.heap.push (setO w)).objs.size := by rw [zI]; exact Nat.ne_of_lt (Nat.lt_succ_of_lt b0)
        exact mv.heap b o (by simp only [List.mem_cons, List.mem_singleton, List.not_mem_nil, or_false, not_or]; exact ⟨b1, b2⟩) (Heap.get?_push_of_some _ (Heap.get?_push_of_some _ e))
      · cases r2 with
        | error e => exact hr2
        | ok fl2 =>
          cases fl2 with
          | ret r =>
            obtain ⟨rfl, h', tk, rfl, x, k⟩ := hr2
            repeat (any_goals (first | assumption | wp_step))
            exact h _ _ x k
          | _ => exact hr2.elim
    | _ => exact hr.elim
end
end Mi

/-! sorted(set(..)), len(set(..)) of texts -/
namespace Mi
open PySem PySem.Spec PyProof.Rows L2

section
variable {P : Program} {w : World} {A : Around} {E : Value → Shared → Prop} {s : Shared} {xs : List Str}
theorem src_list {l : Addr} {items : Array Value} (hl : s.heap.IsList l items) (val : ∀ (i : Nat) (v : Value), items[i]? = some v → ∃ z u, xs[i]? = some z ∧ v = Value.str z u) (hz : items.size = xs.length) : SrcT P w s (.ref l) xs := fun s1 A1 Q' E' kp sz q => by
  obtain ⟨o, ho, r⟩ := hl
  have lt : l < s.heap.objs.size := Heap.lt_size ho
  have h1 : s1.heap.IsList l items := ⟨o, kp _ _ ho, r⟩
  refine wpAny_pyIter_list h1 (q _ [s1.heap.objs.size, l] items.size (fun i v => items[i]? = some v) _ (fun A2 hA => Walks.list hA _ l (Nat.ne_of_lt (Nat.lt_of_lt_of_le lt sz)) items) (fun b hb => ?_) hz val ⟨⟨_, Heap.get?_push_size _ rfl, rfl, rfl⟩, h1.push _⟩)
  rcases List.mem_cons.mp hb with rfl | hb
  · exact .inl rfl
  · rw [List.mem_singleton.mp hb]; exact .inr lt
theorem src_tuple {l : Addr} {items : Array Value} (hl : s.heap.IsTuple l items) (val : ∀ (i : Nat) (v : Value), items[i]? = some v → ∃ z u, xs[i]? = some z ∧ v = Value.str z u) (hz : items.size = xs.length) : SrcT P w s (.ref l) xs := fun s1 A1 Q' E' kp sz q => by
  obtain ⟨o, ho, r⟩ := hl
  have lt : l < s.heap.objs.size := Heap.lt_size ho
  have h1 : s1.heap.IsTuple l items := ⟨o, kp _ _ ho, r⟩
  refine wpAny_pyIter_tuple h1 (q _ [s1.heap.objs.size, l] items.size (fun i v => items[i]? = some v) _ (fun A2 hA => Walks.tuple hA _ l (Nat.ne_of_lt (Nat.lt_of_lt_of_le lt sz)) items) (fun b hb => ?_) hz val ⟨⟨_, Heap.get?_push_size _ rfl, rfl, rfl⟩, h1.push _⟩)
  rcases List.mem_cons.mp hb with rfl | hb
  · exact .inl rfl
  · rw [List.mem_singleton.mp hb]; exact .inr lt
theorem src_str {y : Str} {t : Tok} (val : ∀ (i : Nat) (v : Value), SignAt y i v → ∃ z u, xs[i]? = some z ∧ v = Value.str z u) (hz : y.cps.size = xs.length) : SrcT P w s (.str y t) xs := fun s1 A1 Q' E' kp sz q =>
  wpAny_pyIter_str fun o St Wk st => q o [s1.heap.objs.size] y.cps.size _ St Wk (fun b hb => .inl (List.mem_singleton.mp hb)) hz val st
theorem cps_sOf (z : List Nat) : (sOf z).cps.toList = z := rfl
theorem insAll_uniq (zs : List (List Nat)) : ((insAll [] (zs.map sOf)).map fun z => z.cps.toList).Perm (uniqT zs) := by
  have nd : ∀ {L : List Str}, L.Nodup → (L.map fun z => z.cps.toList).Nodup := fun {L} h => by
    rw [List.nodup_iff_pairwise_ne] at h ⊢
    refine List.Pairwise.map _ (fun a b hab e => hab (PySem.W.str_of_cps e)) h
  have nu : ∀ zs : List (List Nat), (uniqT zs).Nodup ∧ ∀ z, z ∈ uniqT zs ↔ z ∈ zs := fun zs => by
    induction zs with
    | nil => exact ⟨List.nodup_nil, fun z => by simp [uniqT]⟩
    | cons x zs ih =>
      unfold uniqT
      split
      · rename_i hx
        refine ⟨ih.1, fun z => ?_⟩
        rw [ih.2 z, List.mem_cons]
        exact ⟨.inr, fun q => q.elim (fun q => q ▸ hx) id⟩
      · rename_i hx
        refine ⟨List.nodup_cons.mpr ⟨fun c => hx ((ih.2 x).mp c), ih.1⟩, fun z => ?_⟩
        rw [List.mem_cons, List.mem_cons, ih.2 z]
  refine (List.perm_ext_iff_of_nodup (nd (insAll_nodup List.nodup_nil)) (nu zs).1).mpr fun z => ?_
  rw [(nu zs).2 z, List.mem_map]
  constructor
  · rintro ⟨y, hy, rfl⟩
    rcases insAll_mem.mp hy with q | q
    · cases q
    · obtain ⟨x, hx, rfl⟩ := List.mem_map.mp q
      exact hx
  · intro hz
    exact ⟨sOf z, insAll_mem.mpr (.inr (List.mem_map.mpr ⟨z, hz, rfl⟩)), rfl⟩
theorem setT_perm {l zs : List (List Nat)} (p : l.Perm (uniqT zs)) : l.mergeSort leT = setT zs := by
  have tr : ∀ a b c : List Nat, leT a b = true → leT b c = true → leT a c = true := fun a b c h1 h2 => leT_iff.mpr (List.le_trans (leT_iff.mp h1) (leT_iff.mp h2))
  have to : ∀ a b : List Nat, (leT a b || leT b a) = true := fun a b => by
    rw [Bool.or_eq_true]
    rcases List.le_total a b with h | h
    · exact .inl (leT_iff.mpr h)
    · exact .inr (leT_iff.mpr h)
  exact List.Perm.eq_of_pairwise (le := fun a b => leT a b = true) (fun a b _ _ h1 h2 => List.le_antisymm (leT_iff.mp h1) (leT_iff.mp h2)) (List.pairwise_mergeSort tr to _) (List.pairwise_mergeSort tr to _)
    ((List.mergeSort_perm _ _).trans (p.trans (List.mergeSort_perm _ _).symm))
theorem strs_each : ∀ (us : List Value), (∀ u ∈ us, ∃ z k, u = Value.str z k) → PySem.W.EachIs (fun u (z : List Nat) => ∃ k, u = Value.str (sOf z) k) us (us.map fun u => (match u with
    | .str z _ => z.cps.toList
    | _ => []))
  | [], _ => .nil
  | u :: us, h => by
    obtain ⟨z, k, rfl⟩ := h u List.mem_cons_self
    exact .cons ⟨k, rfl⟩ (strs_each us fun v hv => h v (List.mem_cons_of_mem _ hv))
/-- sorted(s), s a set of texts -/
theorem sorted_ts {a : Addr} {L : List Str} {zs : List (List Nat)} {Q : Value → Shared → Prop} (x : TsAt w s.heap a L) (hp : (L.map fun z => z.cps.toList).Perm (uniqT zs)) (hh : A.handled = none) (hu : A.units + 100 < cLine)
    (hQ : ∀ s' p (out : List Value) (c : Nat), (∀ b o, s.heap.get? b = some o → s'.heap.get? b = some o) → s'.gens = s.gens → s'.os = s.os → s.heap.objs.size ≤ p → s'.heap.get? p = some (seqObj "list" out.toArray c) →
      PySem.W.EachIs (fun u (z : List Nat) => ∃ k, u = Value.str (sOf z) k) out (setT zs) → Q (.ref p) s') : wpAny (model P w) A (PySem.call (.builtin "sorted") [.ref a]) Q E s := by
  obtain ⟨o, ms, ep, t, ho, hx, hd, y⟩ := x
  refine Calls.call_function_entry kind_sorted plain_sorted entry_sorted (args_sorted1 _) ?_
  unfold Builtin.«sorted»
  refine wpAny_bind (m := checkCount "sorted" 1 1 _) (wpAny_pure ?_)
  refine wpAny_bind (L2.collect_set (A := A.in1) hh ⟨o, ho, hx.1, hd⟩ y.fit y.few y.ris y.led fun s1 vs k1 hz g1 o1 pm => ?_)
  have all : ∀ u ∈ vs, ∃ z k, u = Value.str z k := fun u hv => by
    obtain ⟨m, hm, q⟩ := List.mem_map.mp (pm.mem_iff.mp hv)
    obtain ⟨z, k, rfl⟩ := y.all m hm
    exact ⟨z, k, q.symm⟩
  have hvl : vs.length ≤ sizeLine := by
    have e1 : vs.length = ms.size := by simpa using pm.length_eq
    have := y.few
    rw [e1, sizeLine_eq]
    unfold scanBound at this
    omega
  refine wpAny_bind (wpAny_newList ?_ hvl)
  have hoL : (s1.heap.push (seqObj "list" vs.toArray 0)).get? s1.heap.objs.size = some (seqObj "list" vs.toArray 0) := Heap.get?_push_size _ rfl
  have ec := strs_each vs all
  refine wpAny_bind (wpAny_holding (PySem.W.list_sort_data (enc := fun z : List Nat => PyData.str (sOf z)) hoL ec (ec.mono fun u z ⟨k, e⟩ => ⟨[], by rw [e]; exact Reads.str _ _, by simp⟩) ?_ ?_ (by rw [List.length_map]; exact hvl) (fun b hb => ?_) fun out hl eo => ?_))
  · intro d hd d' hd'
    obtain ⟨z, _, rfl⟩ := List.mem_map.mp hd
    obtain ⟨z', _, rfl⟩ := List.mem_map.mp hd'
    rfl
  · refine .inr fun d hd => ?_
    obtain ⟨z, _, rfl⟩ := List.mem_map.mp hd
    exact ⟨by simp, by simp⟩
  · have : (PyData.str (sOf b)).depth = 0 := by simp [PyData.depth]
    rw [this]
    have : A.in1.units ≤ A.units + 10 := by show A.units + 1 ≤ A.units + 10; omega
    omega
  · obtain ⟨c, hc⟩ := PyProof.Rows.sortedHeap_at (vs := vs) (out := out.toArray) hoL
    have ord : PySem.W.dataLe false (fun z : List Nat => PyData.str (sOf z)) = leT := by
      funext x y
      show (!PySem.W.dataLt (.str (sOf y)) (.str (sOf x))) = leT x y
      rw [PySem.W.dataLt_str] <;> rfl
    rw [ord] at eo
    have pb : (vs.map fun u => (match u with
        | .str z _ => z.cps.toList
        | _ => [])).Perm (uniqT zs) := by
      refine (pm.map _).trans (List.Perm.trans ?_ ((y.perm.map fun z => z.cps.toList).trans hp))
      rw [List.map_map, List.map_map]
      have : ∀ l : List (Int × Value), (∀ m ∈ l, MemT w m) → l.map ((fun u : Value => (match u with
          | .str z _ => z.cps.toList
          | _ => [])) ∘ fun m => m.2) = l.map ((fun z : Str => z.cps.toList) ∘ mTx) := fun l hl => List.map_congr_left fun m hm => by
        obtain ⟨z, k, rfl⟩ := hl m hm
        rfl
      rw [this _ y.all]
    rw [setT_perm pb] at eo
    refine wpAny_pure ⟨_, rfl, hQ _ s1.heap.objs.size out c (fun b u e => ?_) g1 o1 hz hc eo⟩
    have q := k1 b u e
    have hlt := Heap.lt_size q
    show (PyProof.Rows.sortedHeap (s1.heap.push (seqObj "list" vs.toArray 0)) s1.heap.objs.size vs out.toArray).get? b = some u
    rw [PyProof.Rows.sortedHeap_old (Nat.ne_of_lt hlt) (by rw [Heap.size_push]; exact Nat.lt_succ_of_lt hlt)]
    exact Heap.get?_push_of_some _ q
end
section
variable {G : Gd} {M M' M1 : List Addr} {H H' H1 : AH} {h h' h1 : Hp} {W : WX} {X : Cx} {e a b c : Expr} {ma : E} {pins : List (Addr × Obj)} {s : Shared} {σ : L2.St} {ρ : Env} {pos : Pos} {C : Ctx}
theorem val_of {zs : List (List Nat)} {its : List Value} (rv : Vals ((zs.map sOf).map V.str) its) : (∀ (i : Nat) (v : Value), its.toArray[i]? = some v → ∃ z u, (zs.map sOf)[i]? = some z ∧ v = Value.str z u) ∧ its.toArray.size = (zs.map sOf).length := by
  have hl := rv.length
  rw [List.length_map] at hl
  refine ⟨fun i v hv => ?_, by rw [List.size_toArray, ← hl]⟩
  have hv : its[i]? = some v := by simpa using hv
  have hi : i < its.length := (List.getElem?_eq_some_iff.mp hv).1
  have hi2 : i < (zs.map sOf).length := by rw [hl]; exact hi
  obtain ⟨u, hu, ⟨k, rfl⟩⟩ := rv.get (i := i) (x := .str (zs.map sOf)[i]) (by rw [List.getElem?_map, List.getElem?_eq_getElem hi2] <;> rfl)
  rw [hv] at hu
  cases hu
  exact ⟨_, k, List.getElem?_eq_getElem hi2, rfl⟩
/-- a value whose items are texts, as the source of a set -/
theorem set_call (ck : Ck G X) (I : Inv X pins σ H s) (hr : HR G M h H) {d : D} {v : V} {u : Value} {xs : List D} {zs : List (List Nat)} (x : VR G M H d v) (ru : RelV v u) (e1 : itemsOf d h = some xs) (e2 : strsOf xs = some zs) (few : zs.length ≤ 4000) {Q : Value → Shared → Prop}
    (q : ∀ (h' : Heap) (tk : Nat), TsAt X.w h' s.heap.objs.size (insAll [] (zs.map sOf)) → Inv X pins σ H { s with heap := h', toks := tk } → Q (.ref s.heap.objs.size) { s with heap := h', toks := tk }) : wpAny (model X.prog X.w) X.A (PySem.call (.type "set") [u]) Q X.xe s := by
  have fw : (zs.map sOf).length + 1 < scanBound := by
    rw [List.length_map]
    unfold scanBound
    omega
  have fin : ∀ (h' : Heap) (tk : Nat), TsAt X.w h' s.heap.objs.size (insAll [] (zs.map sOf)) → (∀ b o, s.heap.get? b = some o → h'.get? b = some o) → Q (.ref s.heap.objs.size) { s with heap := h', toks := tk } := fun h' tk t k => q h' tk t (I.kept k)
  have viaL : listOf d h = some xs → wpAny (model X.prog X.w) X.A (PySem.call (.type "set") [u]) Q X.xe s := fun e1 => by
    obtain ⟨l, vs, rfl, hq, wl⟩ := lst_of ck hr x e1
    cases ru
    obtain ⟨rfl, _⟩ := strs_rel e2 wl
    obtain ⟨its, rv, pl, _⟩ := I.list hq
    obtain ⟨v1, v2⟩ := val_of rv
    obtain ⟨o, ho, hc, _⟩ := pl.isList
    exact set_gen (I.ok.hd ck.calm) (T := "list") (fun s1 k => ⟨o, k _ _ ho, hc⟩) PySem.F.sub_list_set PySem.F.sub_list_frozenset (by decide) (src_list pl.isList v1 v2) fw fin
  cases d with
  | tup ys =>
    cases e1
    obtain ⟨l, vs, rfl, hq, wl⟩ := x
    rw [← ck.K] at hq
    cases ru
    obtain ⟨rfl, _⟩ := strs_rel e2 wl
    obtain ⟨its, rv, pl, _⟩ := I.tuple hq.sq
    obtain ⟨v1, v2⟩ := val_of rv
    obtain ⟨o, ho, hc, _⟩ := id pl
    exact set_gen (I.ok.hd ck.calm) (T := "tuple") (fun s1 k => ⟨o, k _ _ ho, hc⟩) PySem.F.sub_tuple_set PySem.F.sub_tuple_frozenset (by decide) (src_tuple pl v1 v2) fw fin
  | str ss =>
    cases e1
    obtain ⟨rfl, k⟩ := x
    obtain ⟨t, rfl⟩ := ru
    have ez : zs = ss.map fun c => [c] := by
      clear k fw fin viaL few q
      induction ss generalizing zs with
      | nil => cases e2; rfl
      | cons c ss ih =>
        obtain ⟨r, e3, rfl⟩ := mapO (show (strsOf (ss.map fun c => D.str [c])).map ([c] :: ·) = some zs from e2)
        rw [ih e3] <;> rfl
    subst ez
    refine set_gen (I.ok.hd ck.calm) (T := "str") (fun s1 _ => typeIs_str s1 _ _) PySem.F.sub_str_set PySem.F.sub_str_frozenset (by decide) (src_str (fun i v ⟨c, u, hc, hv⟩ => ?_) ?_) fw fin
    · refine ⟨sOf [c], u, ?_, hv⟩
      have hc : ss[i]? = some c := by simpa [sOf] using hc
      rw [List.getElem?_map, List.getElem?_map, hc] <;> rfl
    · simp [sOf]
  | _ => exact viaL e1
theorem each_strs : ∀ {out : List Value} {zs : List (List Nat)}, PySem.W.EachIs (fun u (z : List Nat) => ∃ k, u = Value.str (sOf z) k) out zs → Vals ((zs.map sOf).map V.str) out
  | _, _, .nil => .nil
  | _, _, .cons ⟨k, e⟩ r => by
    subst e
    exact .cons ⟨k, rfl⟩ (each_strs r)
theorem strs_all : ∀ {xs : List D} {zs : List (List Nat)} {vs : List V}, strsOf xs = some zs → DRs G M H xs vs → ∀ z ∈ zs, okS z := fun e x => (strs_rel e x).2
theorem setT_mem {zs : List (List Nat)} {z : List Nat} (h : z ∈ setT zs) : z ∈ zs := by
  have h1 : z ∈ uniqT zs := (List.mergeSort_perm _ _).mem_iff.mp h
  clear h
  induction zs with
  | nil => cases h1
  | cons y zs ih =>
    unfold uniqT at h1
    split at h1
    · exact List.mem_cons_of_mem _ (ih h1)
    · rcases List.mem_cons.mp h1 with rfl | q
      · exact List.mem_cons_self
      · exact List.mem_cons_of_mem _ (ih q)
theorem strs_dr : ∀ {zs : List (List Nat)}, (∀ z ∈ zs, okS z) → DRs G M H (zs.map D.str) ((zs.map sOf).map V.str)
  | [], _ => rfl
  | z :: zs, h => ⟨_, _, rfl, ⟨rfl, h z List.mem_cons_self⟩, strs_dr fun y hy => h y (List.mem_cons_of_mem _ hy)⟩
theorem items_ok (hr : HR G M h H) {d : D} {v : V} {xs : List D} {zs : List (List Nat)} (x : VR G M H d v) (e1 : itemsOf d h = some xs) (e2 : strsOf xs = some zs) : ∀ z ∈ zs, okS z := by
  have viaL : listOf d h = some xs → ∀ z ∈ zs, okS z := fun e1 => by
    obtain ⟨l, vs, rfl, _, wl⟩ := x.lst hr e1
    exact strs_all e2 wl
  cases d with
  | tup ys => cases e1; obtain ⟨l, vs, rfl, _, wl⟩ := x; exact strs_all e2 wl
  | str ss =>
    cases e1
    obtain ⟨rfl, k⟩ := x
    have w : ∀ l : List Nat, (∀ c ∈ l, c < 1114112) → DRs G M H (l.map fun c => D.str [c]) (l.map fun c => V.str (sOf [c])) := by
      intro l
      induction l with
      | nil => intro _; rfl
      | cons c l ih =>
        intro hl
        exact ⟨_, _, rfl, ⟨rfl, by simp, fun c' h' => by rw [List.mem_singleton.mp h']; exact hl c List.mem_cons_self⟩, ih fun c' h' => hl c' (List.mem_cons_of_mem _ h')⟩
    exact strs_all e2 (w ss k.2)
  | _ => exact viaL e1
theorem one_bi {f : Bi} (k : D → List Addr → Hp → AH → Prop) {Q : VK} {W' : XK} (hr : HR G M h H) (g : Got G W' M H (ev C (.bi f [ma]) ρ h) fun d M' _ H' => ∀ v, RD G M' H H' d v → Q v H') :
    Got G W' M H (ev C ma ρ h) fun d M1 h1 H1 => Got G W' M1 H1 (biV f [d] h1) fun d M' _ H' => ∀ v, RD G M' H H' d v → Q v H' := by
  have e : ev C (.bi f [ma]) ρ h = (ev C ma ρ h).bd fun d h1 => biV f [d] h1 := by
    rw [ev, evr, bd_assoc]
    congr 1
  rw [e] at g
  exact Got.bd hr g
theorem m_sortedSet {p p2 q : Pos} (ck : Ck G X) (hg : Gl X "sorted") (hm : X.mg "sorted" = none) (hg2 : Gl X "set") (hm2 : X.mg "set" = none) (hs : NoStar X a) (ha : PE X a (tO G W (ev C ma))) :
    PE X (.Call (.Name "sorted" p) [.Call (.Name "set" p2) [a] [] q] [] pos) (tO G W (ev C (.bi .sortedSet [ma]))) := by
  constructor
  intro pins s σ H Q I ⟨M, h, ρ, er, hr, g⟩
  have g0 := one_bi (fun _ _ _ _ => True) hr g
  refine Call_ (ld_blt I hg hm PyProof.Rows.boot_sorted ?_)
  refine PyProof.Rows.callWith_builtin1 (PyProof.Rows.args_cons ?_ rfl) rfl rfl
  refine Call_ (ld_blt I hg2 hm2 PyProof.Rows.boot_set ?_)
  refine PyProof.Rows.callWith_type1 (PyProof.Rows.args_cons (thn (use ha I er hr g0) fun u s1 ⟨d, M1, h1, H1, v, I1, ru, p1, r1, g1⟩ => PyProof.Rows.args_nil ?_) (hs [])) (hs []) rfl
  obtain ⟨zz, e, q1⟩ := g1.ofO
  obtain ⟨zs, e4, e3⟩ := bindO (x := (itemsOf d h1).bind strsOf) e
  obtain ⟨few, rfl⟩ := ite_some e3
  obtain ⟨xs, e1, e2⟩ := bindO (x := itemsOf d h1) e4
  refine set_call ck I1 p1.hr r1.vr ru e1 e2 few fun h' tk ts I2 => PyProof.Rows.args_nil ?_
  refine sorted_ts (s := { s1 with heap := h', toks := tk }) ts (insAll_uniq zs) (I2.ok.hd ck.calm) (by have := ck.un; omega) fun s' p out c k g5 o5 hp hget eo => ?_
  have rv := each_strs eo
  have hlen : ((setT zs).map sOf).length ≤ sizeLine := by
    have e5 : (setT zs).length = (uniqT zs).length := (List.mergeSort_perm _ _).length_eq
    have e6 : ∀ l : List (List Nat), (uniqT l).length ≤ l.length := fun l => by
      induction l with
      | nil => exact Nat.le_refl _
      | cons y l ih =>
        unfold uniqT
        split
        · exact Nat.le_succ_of_le ih
        · exact Nat.succ_le_succ ih
    have := e6 zs
    rw [List.length_map, e5, sizeLine_eq]
    omega
  have hn : H1 p = none := I2.hok.fresh hp
  have J : Inv X pins σ (upd H1 p (.lst (((setT zs).map sOf).map V.str))) s' := I2.call' (ch := []) o5 (Un.laid k hp hn) (I2.hok.laid k hp ⟨by rw [List.length_map]; exact hlen, out, c, rv, hget⟩) (by rw [g5]; exact I2.bare) fun _ z => nomatch z
  have okz := items_ok p1.hr r1.vr e1 e2
  obtain ⟨P, R⟩ := new_lst p1.hr hn (strs_dr (G := G) (M := M1) (H := H1) (zs := setT zs) fun z hz => okz z (setT_mem hz))
  exact ⟨.ref p, _, J, rfl, q1 M1 _ P _ (R.back hr p1)⟩
theorem m_lenSet {p p2 q : Pos} (ck : Ck G X) (hg : Gl X "len") (hm : X.mg "len" = none) (hg2 : Gl X "set") (hm2 : X.mg "set" = none) (hs : NoStar X a) (ha : PE X a (tO G W (ev C ma))) :
    PE X (.Call (.Name "len" p) [.Call (.Name "set" p2) [a] [] q] [] pos) (tO G W (ev C (.bi .lenSet [ma]))) := by
  constructor
  intro pins s σ H Q I ⟨M, h, ρ, er, hr, g⟩
  have g0 := one_bi (fun _ _ _ _ => True) hr g
  refine Call_ (ld_blt I hg hm boot_len ?_)
  refine PyProof.Rows.callWith_builtin1 (PyProof.Rows.args_cons ?_ rfl) rfl rfl
  refine Call_ (ld_blt I hg2 hm2 PyProof.Rows.boot_set ?_)
  refine PyProof.Rows.callWith_type1 (PyProof.Rows.args_cons (thn (use ha I er hr g0) fun u s1 ⟨d, M1, h1, H1, v, I1, ru, p1, r1, g1⟩ => PyProof.Rows.args_nil ?_) (hs [])) (hs []) rfl
  obtain ⟨zz, e, q1⟩ := g1.ofO
  obtain ⟨zs, e4, e3⟩ := bindO (x := (itemsOf d h1).bind strsOf) e
  obtain ⟨few, rfl⟩ := ite_some e3
  obtain ⟨xs, e1, e2⟩ := bindO (x := itemsOf d h1) e4
  refine set_call ck I1 p1.hr r1.vr ru e1 e2 few fun h' tk ts I2 => PyProof.Rows.args_nil ?_
  obtain ⟨o, ms, ep, t, ho, hx, hd, y⟩ := ts
  have hz : ms.size = (uniqT zs).length := by
    rw [y.size]
    have := (insAll_uniq zs).length_eq
    rw [List.length_map] at this
    exact this
  have fw := y.few
  refine PySem.call_len_set (s := { s1 with heap := h', toks := tk }) ho hx hd y.fit (by unfold scanBound at fw; omega) ⟨.int (uniqT zs).length, H1, I2.tok _, ⟨_, by rw [hz]⟩, q1 M1 H1 (Post.refl p1.hr) _ rfl⟩
end
end Mi

/-! the check that Mini's text is the program's -/
namespace Mi
open PySem PySem.Spec PyProof.Rows L2

/-! ### arguments -/
theorem lk_some : ∀ {ps : List Str} {us : List Value}, us.length = ps.length → ∀ n ∈ ps, ((ps.zip us).lookup n).isSome = true
  | [], _, _, n, h => nomatch h
  | p :: ps, [], h, _, _ => by simp at h
  | p :: ps, u :: us, h, n, hn => by
    rw [List.zip_cons_cons, List.lookup_cons]
    by_cases e : n == p
    · rw [e] <;> rfl
    · rw [show (n == p) = false by simpa using e]
      refine lk_some (by simpa using h) n ?_
      rcases List.mem_cons.mp hn with z | z
      · exact absurd (by rw [z]; exact beq_self_eq_true p) e
      · exact z
theorem fm_congr {α β : Type} {f g : α → Option β} : ∀ {l : List α}, (∀ n ∈ l, f n = g n) → l.filterMap f = l.filterMap g
  | [], _ => rfl
  | n :: l, h => by
    rw [List.filterMap_cons, List.filterMap_cons, h n List.mem_cons_self, fm_congr fun m hm => h m (List.mem_cons_of_mem _ hm)]
theorem lk_all : ∀ {ps : List Str} {us : List Value}, ps.Nodup → us.length = ps.length → ps.filterMap (fun n => ((ps.zip us).lookup n).map fun x => (n, x)) = ps.zip us
  | [], us, _, _ => rfl
  | p :: ps, [], _, h => by simp at h
  | p :: ps, u :: us, nd, h => by
    have nd' := List.nodup_cons.mp nd
    rw [List.zip_cons_cons, List.filterMap_cons]
    simp only [List.lookup_cons, beq_self_eq_true, Option.map_some]
    congr 1
    refine Eq.trans (fm_congr fun n hn => ?_) (lk_all nd'.2 (by simpa using h))
    rw [show (n == p) = false by simpa using fun e : n = p => nd'.1 (e ▸ hn)]
theorem bindP {x qual : Str} {body : List Stmt} {scope : Scope} {kV doc pm : Value} {an : Option Addr} {cdv ct : Value} {as : List Arg} {us : List Value} (nd : (as.map (·.arg)).Nodup) (hl : us.length = (as.map (·.arg)).length) :
    bindArgs (PySem.W.fnOf x qual ⟨[], as, none, [], [], none, []⟩ body scope .none kV doc pm an cdv ct) ⟨us, []⟩ = pure ((as.map (·.arg)).zip us) := by
  have e1 : (List.filter (fun n => (List.lookup n ((as.map (·.arg)).zip us)).isNone) (as.map (·.arg))) = [] := by
    rw [List.filter_eq_nil_iff]
    intro n hn
    have := lk_some hl n hn
    rw [Option.isSome_iff_ne_none] at this
    simpa using this
  have hl' : us.length = as.length := by simpa using hl
  have e2 := lk_all nd hl
  have e0 : notAStandIn Value.none = pure () := rfl
  unfold bindArgs
  simp only [PySem.W.fnOf, seqItems?, e0, pure_bind, List.map_nil, List.nil_append, List.append_nil, Option.getD_none, List.forIn_nil, List.drop_nil, List.length_nil, Nat.sub_zero, List.length_map, hl', Nat.lt_irrefl, decide_false, Bool.false_and, Bool.false_eq_true, if_false, gt_iff_lt]
  rw [List.take_of_length_le (by simp), e1]
  simp only [List.isEmpty_nil, Bool.not_true, Bool.false_eq_true, if_false, List.zip_nil_right, List.forIn_nil, pure_bind, e2]

/-! ### what names stand for -/
inductive GK where | fn | err | cls | con | blt | fld
  deriving DecidableEq
abbrev Tb := List (Str × GK)
structure Al (G : Gd) (X : Cx) (C : Ctx) (k : Nat) (T : Tb) : Prop where
  ck : Ck G X
  room : Room k X.A
  fn : ∀ f, T.lookup (Str.ofString f) = some .fn → FnK G X k (Str.ofString f) (C.fn ("", f))
  con : ∀ f, T.lookup (Str.ofString f) = some .con → ∃ u v d, X.mg (Str.ofString f) = some u ∧ RelV v u ∧ C.glo f = some d ∧ ∀ M H, DR G M H d v
  blt : ∀ x, T.lookup x = some .blt → X.mg x = none
  err : ∀ c, T.lookup (Str.ofString c) = some .err → ErrK G X (Str.ofString c) c
  ob : ObK G X C k
  mkc : ∀ c, T.lookup (Str.ofString c) = some .cls → MkK G X C k (Str.ofString c) c
  fld : ∀ f, T.lookup (Str.ofString ("." ++ f)) = some .fld → f ∈ G.flds
  isb : ∀ a b t, C.isb a b = some t → ExcC X.K (G.cl a) ∧ PySem.W.kitOne X.K (.ref (G.cl a)) (if b = "ValueError" then .type "ValueError" else .ref (G.cl b)) = some t
  sub : ∀ a b t, C.sub a b = some t → PySem.W.exmOne X.K (.ref (G.cl a)) (.ref (G.cl b)) = some t
/-- where names are stored: a def, a block -/
def fnOf : Option Scope → Str → Bool
  | none => fun _ => true
  | some sc => fun x => sc.names.lookup x == some .cell
/-- the place in the text -/
structure At (X : Cx) (N : List Str) (bs : Option Scope) (sc : Scope) : Prop where
  hN : X.N = N
  hsc : X.env.scope = sc
  hfn : X.fn = fnOf bs
  kd : sc.kind = .function

/-! ### small checks -/
def visB (sc : Scope) (x : Str) : Bool := match sc.names.lookup x with
  | some .local => true
  | some .cell => true
  | some .free => true
  | _ => false
def gloB (sc : Scope) (x : Str) : Bool := match sc.names.lookup x with
  | some .globalImplicit => true
  | _ => false
def nameB (x : Str) : Bool := !(x == ("__debug__" : Str)) && !(x == ("__classdict__" : Str))
def starB : Expr → Bool
  | .Starred _ _ => true
  | _ => false
theorem noStar {X : Cx} {e : Expr} (h : starB e = false) : NoStar X e := fun es => by
  cases e <;> first | rfl | cases h
theorem plainArgs {X : Cx} {pos : Pos} : ∀ {es : List Expr}, es.all (fun e => !starB e) = true → (backTo pos (starEach es X.env)).any (·.1) = false ∧ (backTo pos (starEach es X.env)).all (fun x => !x.1) = true
  | [], _ => ⟨rfl, rfl⟩
  | e :: es, h => by
    rw [List.all_cons, Bool.and_eq_true] at h
    have ns := noStar (X := X) (e := e) (by simpa using h.1) es
    obtain ⟨i1, i2⟩ := plainArgs (X := X) (pos := pos) h.2
    rw [ns]
    refine ⟨?_, ?_⟩
    · show (false || (backTo pos (starEach es X.env)).any (·.1)) = false
      rw [i1] <;> rfl
    · show (true && (backTo pos (starEach es X.env)).all (fun x => !x.1)) = true
      rw [i2] <;> rfl
def plainIxB : Expr → Bool
  | .Slice .. => false
  | .Tuple .. => false
  | .Constant .. => true
  | .Name .. => true
  | .BinOp .. => true
  | .UnaryOp .. => true
  | .Call .. => true
  | .Subscript .. => true
  | .Attribute .. => true
  | _ => false
theorem plainIx {b : Expr} (h : plainIxB b = true) : PlainIx b := by
  cases b <;> first | (cases h; done) | (intro o i; rfl)
def plainTestB : Expr → Bool
  | .UnaryOp .Not _ _ => false
  | .BoolOp .. => false
  | .IfExp .. => false
  | .Compare .. => false
  | _ => true
theorem plainTest {e : Expr} {env : PySem.Env} (h : plainTestB e = true) (whole : Sem Value) : isTrue e env whole = (do let v ← whole; standAt e.pos; holding [v] (truthy v)) := by
  cases e with
  | UnaryOp op x p => cases op <;> first | (cases h; done) | rfl
  | _ => first | (cases h; done) | rfl
def superB : Expr → Bool
  | .Call (.Name _ _) [] [] _ => true
  | _ => false
theorem attrBase {o : Expr} {env : PySem.Env} {m : Str} (h : superB o = false) : attributeBase o m env (eval o env) = eval o env := by
  unfold attributeBase
  split
  · cases h
  · rfl
def compB : Expr → Bool
  | .ListComp .. => true
  | .SetComp .. => true
  | .DictComp .. => true
  | _ => false
theorem noSwap {e : Expr} {t : Option Expr} {l : Nat} {env : PySem.Env} (h : compB e = false) : swapsWith e t l env = pure false := by
  cases e <;> first | (cases h; done) | rfl
def setB : Expr → Bool
  | .Set .. => true
  | _ => false
theorem noSet {e : Expr} {env : PySem.Env} (h : setB e = false) (x : Value) : foldedSetIterable e env x = pure x := by
  cases e <;> first | (cases h; done) | rfl
theorem noMark {op : CmpOp} {e : Expr} (h : setB e = false) : behindInMarks op e = false := by
  cases e <;> first | (cases h; done) | rfl
end Mi

/-! the checker of expressions, and what it gives -/
namespace Mi
open PySem PySem.Spec PyProof.Rows L2

def allB2 (f : Expr → E → Bool) : List Expr → List E → Bool
  | [], [] => true
  | e :: es, m :: ms => f e m && allB2 f es ms
  | _, _ => false
def biS : Bi → Str
  | .len => "len" | .tuple => "tuple" | .list => "list" | .sorted => "sorted" | .all => "all" | .any => "any" | .sum => "sum" | .max => "max" | .min => "min" | .max2 => "max" | .min2 => "min"
  | .str => "str" | .int => "int" | .ord => "ord" | .dict => "dict" | .sortedSet => "sorted" | .lenSet => "len" | .sortedItems => "sorted" | .valuesL => "list" | .maxDef => "max"
def biOkB : Bi → Bool
  | .sortedSet => false | .lenSet => false | .sortedItems => false | .valuesL => false | .maxDef => false
  | _ => true
def biFv : Bi → Value
  | .len => .builtin "len" | .tuple => .type "tuple" | .list => .type "list" | .sorted => .builtin "sorted" | .all => .builtin "all" | .any => .builtin "any" | .sum => .builtin "sum"
  | .max => .builtin "max" | .min => .builtin "min" | .max2 => .builtin "max" | .min2 => .builtin "min" | .str => .type "str" | .int => .type "int" | .ord => .builtin "ord"
  | .dict => .type "dict" | .sortedSet => .builtin "sorted" | .lenSet => .builtin "len" | .sortedItems => .builtin "sorted" | .valuesL => .type "list" | .maxDef => .builtin "max"
def bltB (T : Tb) (sc : Scope) (x : Str) : Bool := gloB sc x && decide (T.lookup x = some .blt)
def optB (f : Expr → E → Bool) : Option Expr → E → Bool
  | none, m => m.isNil
  | some e, m => !m.isNil && f e m
def tgN (N : List Str) (bs : Option Scope) (sc : Scope) (x : Str) (i : Nat) : Bool :=
  decide (N[i]? = some x) && (match sc.names.lookup x with
    | some .local => true
    | some .cell => true
    | _ => false) && (fnOf bs x || decide (sc.names.lookup x = some .local))
def tgNs (N : List Str) (bs : Option Scope) (sc : Scope) : List Expr → List Nat → Bool
  | [], [] => true
  | .Name x _ :: es, i :: is => tgN N bs sc x i && tgNs N bs sc es is
  | _, _ => false
def tgB (N : List Str) (bs : Option Scope) (sc : Scope) : Expr → Tg → Bool
  | .Name x _, .v i => tgN N bs sc x i
  | .Tuple es _ _, .t is => tgNs N bs sc es is
  | _, _ => false
def tupB : Expr → Bool
  | .Tuple _ _ _ => true
  | _ => false
def it2B (T : Tb) (f : Expr → E → Bool) (sc : Scope) (y : Str) (a b : E) (it : Expr) : Bool := match it with
  | .Call (.Name x _) [ea, eb] [] _ => decide (x = y) && bltB T sc x && !b.isNil && !starB ea && !starB eb && f ea a && f eb b
  | _ => false
def itB (T : Tb) (f : Expr → E → Bool) (sc : Scope) (k : IK) (a b : E) (tg it : Expr) : Bool := match k with
  | .e => b.isNil && !setB it && f it a
  | .rng => (match it with
    | .Call (.Name x _) [ea] [] _ => decide (x = "range") && bltB T sc x && b.isNil && !starB ea && f ea a
    | _ => false)
  | .rng2 => it2B T f sc "range" a b it
  | .zip => tupB tg && it2B T f sc "zip" a b it
  | .enum => (match it with
    | .Call (.Name x _) [ea] [] _ => tupB tg && decide (x = "enumerate") && bltB T sc x && b.isNil && !starB ea && f ea a
    | _ => false)

def noneB : Expr → Bool
  | .Constant c _ _ => (match c with
    | .none => true
    | _ => false)
  | _ => false
def boolB (e : Expr) (k : Bool) : Bool := match e with
  | .Constant c _ _ => (match c with
    | .bool k2 => decide (k = k2)
    | _ => false)
  | _ => false
def nameIs (e : Expr) (y : Str) : Bool := match e with
  | .Name x _ => decide (x = y)
  | _ => false
theorem noneB_iff {e : Expr} (h : noneB e = true) : ∃ j p, e = .Constant .none j p := by
  cases e with
  | Constant c j p => cases c <;> first | exact ⟨j, p, rfl⟩ | cases h
  | _ => cases h
theorem boolB_iff {e : Expr} {k : Bool} (h : boolB e k = true) : ∃ j p, e = .Constant (.bool k) j p := by
  cases e with
  | Constant c j p =>
    cases c with
    | bool k2 => obtain rfl := of_decide_eq_true (show decide (k = k2) = true from h); exact ⟨j, p, rfl⟩
    | _ => cases h
  | _ => cases h
theorem nameIs_iff {e : Expr} {y : Str} (h : nameIs e y = true) : ∃ p, e = .Name y p := by
  cases e with
  | Name x p => obtain rfl := of_decide_eq_true (show decide (x = y) = true from h); exact ⟨p, rfl⟩
  | _ => cases h
def ifsB (f : Expr → E → Bool) (ifs : List Expr) (c : E) : Bool := match ifs with
  | [] => (match c with
    | .bl true => true
    | _ => false)
  | [g] => f g c
  | _ => false
def biSetB : Bi → Bool
  | .sortedSet => true
  | .lenSet => true
  | _ => false
def setCB (T : Tb) (sc : Scope) (f : Expr → E → Bool) (e0 : Expr) (ms : List E) : Bool := match e0 with
  | .Call fn args kws _ => (match fn with
    | .Name y _ => (match args, kws, ms with
      | [ea], [], [m] => decide (y = "set") && bltB T sc y && !starB ea && f ea m
      | _, _, _ => false)
    | _ => false)
  | _ => false
/-- the class that isinstance is asked for -/
def isiB (T : Tb) (sc : Scope) (ty : Ty) (y : Expr) : Bool := match ty with
  | .own b => (match y with
    | .Name x _ => decide (x = Str.ofString b) && nameB x && (if b = "ValueError" then bltB T sc x else gloB sc x && decide (T.lookup x = some .err))
    | _ => false)
  | ty => nameIs y (Str.ofString (tyS ty)) && bltB T sc (Str.ofString (tyS ty))
/-- o.m() in sorted(..), list(..) -/
def itmCB (y : Str) (f : Expr → E → Bool) (e0 : Expr) (ms : List E) : Bool := match e0 with
  | .Call fn args kws cpos => (match fn with
    | .Attribute eo x apos => (match args, kws, ms with
      | [], [], [m] => decide (x = y) && !superB eo && (apos.endLine == cpos.line) && f eo m
      | _, _, _ => false)
    | _ => false)
  | _ => false
/-- true: as a test -/
def chk (T : Tb) (N : List Str) : Nat → Bool → Option Scope → Scope → Expr → E → Bool
  | 0, _, _, _, _, _ => false
  | n + 1, true, bs, sc, e, m => (match m with
    | .not a => (match e with
      | .UnaryOp .Not ea _ => chk T N n true bs sc ea a
      | _ => false)
    | .and ms => (match e with
      | .BoolOp .And es _ => !ms.isEmpty && allB2 (chk T N n true bs sc) es ms
      | _ => false)
    | .or ms => (match e with
      | .BoolOp .Or es _ => !ms.isEmpty && allB2 (chk T N n true bs sc) es ms
      | _ => false)
    | .cmp o a b => (match e with
      | .Compare ea [op] [eb] _ => decide (op = cop o) && !setB eb && chk T N n false bs sc ea a && chk T N n false bs sc eb b
      | _ => false)
    | .chain o1 o2 a b c => (match e with
      | .Compare ea [p1, p2] [eb, ec] _ => decide (p1 = cop o1) && decide (p2 = cop o2) && !setB ec && chk T N n false bs sc ea a && chk T N n false bs sc eb b && chk T N n false bs sc ec c
      | _ => false)
    | .isN a => (match e with
      | .Compare ea [op] [c] _ => decide (op = .Is) && noneB c && chk T N n false bs sc ea a
      | _ => false)
    | .notN a => (match e with
      | .Compare ea [op] [c] _ => decide (op = .IsNot) && noneB c && chk T N n false bs sc ea a
      | _ => false)
    | .isB a k neg => (match e with
      | .Compare ea [op] [c] _ => decide (op = boolOps neg) && boolB c k && chk T N n false bs sc ea a
      | _ => false)
    | m => plainTestB e && chk T N n false bs sc e m)
  | n + 1, false, bs, sc, e, m => (match m with
    | .nil => false
    | .non => (match e with
      | .Constant .none _ _ => true
      | _ => false)
    | .bl b => (match e with
      | .Constant (.bool c) _ _ => decide (b = c)
      | _ => false)
    | .int i => (match e with
      | .Constant (.int j) _ _ => decide (i = j)
      | _ => false)
    | .str s => (match e with
      | .Constant (.str z) _ _ => decide (z.cps.toList = s) && decide (s.length ≤ 16777216) && s.all fun c => decide (c < 1114112)
      | _ => false)
    | .var i => (match e with
      | .Name x _ => decide (N[i]? = some x) && visB sc x && nameB x
      | _ => false)
    | .glo f => (match e with
      | .Name x _ => gloB sc x && decide (x = Str.ofString f) && decide (T.lookup x = some .con) && nameB x
      | _ => false)
    | .bin o a b => (match e with
      | .BinOp ea op eb _ => decide (op = bop o) && chk T N n false bs sc ea a && chk T N n false bs sc eb b
      | _ => false)
    | .neg a => (match e with
      | .UnaryOp .USub ea _ => chk T N n false bs sc ea a
      | _ => false)
    | .not a => (match e with
      | .UnaryOp .Not ea _ => chk T N n false bs sc ea a
      | _ => false)
    | .and ms => (match e with
      | .BoolOp .And es _ => !ms.isEmpty && allB2 (chk T N n false bs sc) es ms
      | _ => false)
    | .or ms => (match e with
      | .BoolOp .Or es _ => !ms.isEmpty && allB2 (chk T N n false bs sc) es ms
      | _ => false)
    | .cmp o a b => (match e with
      | .Compare ea [op] [eb] _ => decide (op = cop o) && !setB eb && chk T N n false bs sc ea a && chk T N n false bs sc eb b
      | _ => false)
    | .chain o1 o2 a b c => (match e with
      | .Compare ea [p1, p2] [eb, ec] _ => decide (p1 = cop o1) && decide (p2 = cop o2) && !setB ec && chk T N n false bs sc ea a && chk T N n false bs sc eb b && chk T N n false bs sc ec c
      | _ => false)
    | .isN a => (match e with
      | .Compare ea [op] [c] _ => decide (op = .Is) && noneB c && chk T N n false bs sc ea a
      | _ => false)
    | .notN a => (match e with
      | .Compare ea [op] [c] _ => decide (op = .IsNot) && noneB c && chk T N n false bs sc ea a
      | _ => false)
    | .isB a k neg => (match e with
      | .Compare ea [op] [c] _ => decide (op = boolOps neg) && boolB c k && chk T N n false bs sc ea a
      | _ => false)
    | .ite c a b => (match e with
      | .IfExp ec ea eb _ => chk T N n true bs sc ec c && chk T N n false bs sc ea a && chk T N n false bs sc eb b
      | _ => false)
    | .call f ms => (match e with
      | .Call (.Name x _) es [] _ => gloB sc x && decide (x = Str.ofString f) && decide (T.lookup x = some .fn) && nameB x && es.all (fun e => !starB e) && allB2 (chk T N n false bs sc) es ms
      | _ => false)
    | .bi f ms => (match e with
      | .Call (.Name x _) (e0 :: es) [] _ => decide (x = biS f) && bltB T sc x && (biOkB f && (e0 :: es).all (fun e => !starB e) && allB2 (chk T N n false bs sc) (e0 :: es) ms || biSetB f && es.isEmpty && setCB T sc (chk T N n false bs sc) e0 ms || decide (f = .sortedItems) && es.isEmpty && itmCB "items" (chk T N n false bs sc) e0 ms)
      | _ => false)
    | .mth m o ms => (match e with
      | .Call (.Attribute eo x apos) es [] cpos => decide (x = Str.ofString m) && !superB eo && (apos.endLine == cpos.line) && decide (es.length < 30) && es.all (fun e => !starB e) && chk T N n false bs sc eo o && allB2 (chk T N n false bs sc) es ms
      | _ => false)
    | .idx a b => (match e with
      | .Subscript ea eb _ => plainIxB eb && chk T N n false bs sc ea a && chk T N n false bs sc eb b
      | _ => false)
    | .slc a lo hi => (match e with
      | .Subscript ea (.Slice l h none _) _ => chk T N n false bs sc ea a && optB (chk T N n false bs sc) l lo && optB (chk T N n false bs sc) h hi
      | _ => false)
    | .rev a => (match e with
      | .Subscript ea (.Slice none none (some (.UnaryOp .USub (.Constant (.int i) _ _) _)) _) _ => decide (i = 1) && chk T N n false bs sc ea a
      | _ => false)
    | .tup ms => (match e with
      | .Tuple es _ _ => decide (ms.length ≤ 1000) && es.all (fun e => !starB e) && allB2 (chk T N n false bs sc) es ms
      | _ => false)
    | .lst ms => (match e with
      | .List es _ => decide (ms.length ≤ 1000) && es.all (fun e => !starB e) && allB2 (chk T N n false bs sc) es ms
      | _ => false)
    | .comp own t k a b c el => (match e with
      | .ListComp ee gens scope _ => (match gens with
        | [g] => decide (g.is_async = 0) && ((own.all fun i => (N[i]?).isSome) && blkC N sc scope (own.map fun i => ((N[i]?).getD Str.empty, i)) && tgB N (some scope) (relS scope sc) g.target t && (t.slots.all fun i => decide (i ∈ own)) && !setB g.iter &&
          itB T (chk T N n false bs sc) sc k a b g.target g.iter && ifsB (chk T N n true (some scope) (relS scope sc)) g.ifs c && chk T N n false (some scope) (relS scope sc) ee el)
        | _ => false)
      | _ => false)
    | .isi a ty => (match e with
      | .Call (.Name x _) [ea, y] [] _ => decide (x = "isinstance") && bltB T sc x && isiB T sc ty y && !starB ea && chk T N n false bs sc ea a
      | _ => false)
    | .new c ms => (match e with
      | .Call (.Name x _) es [] _ => gloB sc x && decide (x = Str.ofString c) && decide (T.lookup x = some .cls) && nameB x && es.all (fun e => !starB e) && allB2 (chk T N n false bs sc) es ms
      | _ => false)
    | .fld o f => (match e with
      | .Attribute eo x _ => decide (x = Str.ofString f) && decide (T.lookup (Str.ofString ("." ++ f)) = some .fld) && !superB eo && chk T N n false bs sc eo o
      | _ => false)
    | .dic _ ks vs => (match e with
      | .Dict [] [] _ => ks.isEmpty && vs.isEmpty
      | _ => false)
    | .lsI k a b => (match k with
      | .rng => (match e with
        | .Call (.Name x _) [it] [] _ => decide (x = "list") && bltB T sc x && itB T (chk T N n false bs sc) sc .rng a b it it
        | _ => false)
      | _ => false))

section
variable {G : Gd} {W : WX} {X : Cx} {C : Ctx} {T : Tb} {N : List Str} {bs : Option Scope} {sc : Scope} {k n : Nat} {f : Expr → E → Bool}
theorem ff {p : Prop} (h : false = true) : p := absurd h Bool.false_ne_true
theorem bb {a b : Bool} (h : (a && b) = true) : a = true ∧ b = true := by rwa [Bool.and_eq_true] at h
theorem nn {a : Bool} (h : (!a) = true) : a = false := by simpa using h
theorem dd {p : Prop} [Decidable p] (h : decide p = true) : p := of_decide_eq_true h
theorem args_ok (ih : ∀ e m, f e m = true → PE X e (tO G W (ev C m))) : ∀ {es : List Expr} {ms : List E}, es.all (fun e => !starB e) = true → allB2 f es ms = true → PA X es (tA G W (evs C ms))
  | [], [], _, _ => args_nil
  | [], _ :: _, _, h => ff h
  | _ :: _, [], _, h => ff h
  | e :: es, m :: ms, hs, h => by
    rw [List.all_cons] at hs
    obtain ⟨h1, h2⟩ := bb (show (f e m && allB2 f es ms) = true from h)
    exact args_cons (noStar (nn (bb hs).1)) (ih e m h1) (args_ok ih (bb hs).2 h2)
theorem argr_ok (ih : ∀ e m, f e m = true → PE X e (tO G W (ev C m))) : ∀ {es : List Expr} {ms : List E}, es.all (fun e => !starB e) = true → allB2 f es ms = true → PA X es (tR G W (evr C ms))
  | [], [], _, _ => argr_nil
  | [], _ :: _, _, h => ff h
  | _ :: _, [], _, h => ff h
  | e :: es, m :: ms, hs, h => by
    rw [List.all_cons] at hs
    obtain ⟨h1, h2⟩ := bb (show (f e m && allB2 f es ms) = true from h)
    exact argr_cons (noStar (nn (bb hs).1)) (ih e m h1) (argr_ok ih (bb hs).2 h2)
theorem ands_ok {pos : Pos} (ih : ∀ e m, f e m = true → PT X e (tT G W (cnd C m))) : ∀ {es : List Expr} {ms : List E}, (!ms.isEmpty) = true → allB2 f es ms = true → PW X (.BoolOp .And es pos) (tT G W fun ρ h => (evA C ms ρ h).bd tru)
  | _, [], h, _ => ff h
  | [], _ :: _, _, h => ff h
  | [e], [m], _, h => and_one (ih e m (bb (show (f e m && true) = true from h)).1)
  | [_], _ :: _ :: _, _, h => ff (bb h).2
  | _ :: _ :: _, [_], _, h => ff (bb h).2
  | e :: e2 :: es, m :: m2 :: ms, _, h => by
    obtain ⟨h1, h2⟩ := bb (show (f e m && allB2 f (e2 :: es) (m2 :: ms)) = true from h)
    exact and_more (ih e m h1) (ands_ok ih (ms := m2 :: ms) rfl h2)
theorem ors_ok {pos : Pos} (ih : ∀ e m, f e m = true → PT X e (tT G W (cnd C m))) : ∀ {es : List Expr} {ms : List E}, (!ms.isEmpty) = true → allB2 f es ms = true → PW X (.BoolOp .Or es pos) (tT G W fun ρ h => (evO C ms ρ h).bd tru)
  | _, [], h, _ => ff h
  | [], _ :: _, _, h => ff h
  | [e], [m], _, h => or_one (ih e m (bb (show (f e m && true) = true from h)).1)
  | [_], _ :: _ :: _, _, h => ff (bb h).2
  | _ :: _ :: _, [_], _, h => ff (bb h).2
  | e :: e2 :: es, m :: m2 :: ms, _, h => by
    obtain ⟨h1, h2⟩ := bb (show (f e m && allB2 f (e2 :: es) (m2 :: ms)) = true from h)
    exact or_more (ih e m h1) (ors_ok ih (ms := m2 :: ms) rfl h2)
theorem andV_ok {pos : Pos} (ck : Ck G X) (ih : ∀ e m, f e m = true → PE X e (tO G W (ev C m))) : ∀ {es : List Expr} {ms : List E}, (!ms.isEmpty) = true → allB2 f es ms = true → PE X (.BoolOp .And es pos) (tO G W (evA C ms))
  | _, [], h, _ => ff h
  | [], _ :: _, _, h => ff h
  | [e], [m], _, h => andV_one (ih e m (bb (show (f e m && true) = true from h)).1)
  | [_], _ :: _ :: _, _, h => ff (bb h).2
  | _ :: _ :: _, [_], _, h => ff (bb h).2
  | e :: e2 :: es, m :: m2 :: ms, _, h => by
    obtain ⟨h1, h2⟩ := bb (show (f e m && allB2 f (e2 :: es) (m2 :: ms)) = true from h)
    exact andV_more ck (ih e m h1) (andV_ok ck ih (ms := m2 :: ms) rfl h2)
theorem orV_ok {pos : Pos} (ck : Ck G X) (ih : ∀ e m, f e m = true → PE X e (tO G W (ev C m))) : ∀ {es : List Expr} {ms : List E}, (!ms.isEmpty) = true → allB2 f es ms = true → PE X (.BoolOp .Or es pos) (tO G W (evO C ms))
  | _, [], h, _ => ff h
  | [], _ :: _, _, h => ff h
  | [e], [m], _, h => orV_one (ih e m (bb (show (f e m && true) = true from h)).1)
  | [_], _ :: _ :: _, _, h => ff (bb h).2
  | _ :: _ :: _, [_], _, h => ff (bb h).2
  | e :: e2 :: es, m :: m2 :: ms, _, h => by
    obtain ⟨h1, h2⟩ := bb (show (f e m && allB2 f (e2 :: es) (m2 :: ms)) = true from h)
    exact orV_more ck (ih e m h1) (orV_ok ck ih (ms := m2 :: ms) rfl h2)
theorem isNil_iff {m : E} (h : m.isNil = true) : m = .nil := by cases m <;> first | rfl | cases h
theorem bi_all' (ck : Ck G X) (g : Bi) (h : biOkB g = true) : BiR G X g (biFv g) := by
  cases g with
  | len => exact bi_len ck
  | tuple => exact bi_tuple ck
  | list => exact bi_list ck
  | sorted => exact bi_sorted ck
  | all => exact bi_all ck
  | any => exact bi_any ck
  | sum => exact bi_sum ck
  | max => exact bi_max ck
  | min => exact bi_min ck
  | max2 => exact bi_max2 ck
  | min2 => exact bi_min2 ck
  | str => exact bi_str ck
  | int => exact bi_int ck
  | ord => exact bi_ord ck
  | dict => exact bi_dict ck
  | _ => cases h
theorem boot_bi (g : Bi) : bootBuiltins (biS g) = some (biFv g) ∧ biS g ≠ "__name__" ∧ (biS g == ("__debug__" : Str)) = false := by
  cases g <;> exact ⟨by decide +kernel, by decide +kernel, by decide +kernel⟩
theorem m_bi {g : Bi} {e : Expr} {es : List Expr} {ms : List E} {p pos : Pos} (ck : Ck G X) (ho : biOkB g = true) (hg : Gl X (biS g)) (hm : X.mg (biS g) = none) (hs : NoStar X e) (ha : PA X (e :: es) (tR G W (evr C ms))) (hpl : (backTo pos (starEach es X.env)).any (·.1) = false) :
    PE X (.Call (.Name (biS g) p) (e :: es) [] pos) (tO G W (ev C (.bi g ms))) := by
  obtain ⟨b1, b2, b3⟩ := boot_bi g
  have hb := bi_all' (X := X) ck g ho
  cases hv : biFv g with
  | builtin id => rw [hv] at b1 hb; exact m_biB hb hg hm b1 hs ha b2 b3 hpl
  | type Ty => rw [hv] at b1 hb; exact m_biT hb hg hm b1 hs ha b2 b3 hpl
  | _ => cases g <;> cases hv
theorem blt_ok (al : Al G X C k T) (at_ : At X N bs sc) {x : Str} (h : bltB T sc x = true) : Gl X x ∧ X.mg x = none := by
  obtain ⟨h1, h2⟩ := bb h
  refine ⟨?_, al.blt x (dd h2)⟩
  show X.env.scope.names.lookup x = _
  rw [at_.hsc]
  unfold gloB at h1
  split at h1
  · assumption
  · cases h1
theorem glo_ok' (at_ : At X N bs sc) {x : Str} (h : gloB sc x = true) : Gl X x := by
  show X.env.scope.names.lookup x = _
  rw [at_.hsc]
  unfold gloB at h
  split at h
  · assumption
  · cases h
theorem vis_ok (at_ : At X N bs sc) {x : Str} (h : visB sc x = true) : Vis X.env.scope x := by
  show X.env.scope.names.lookup x = _ ∨ X.env.scope.names.lookup x = _ ∨ X.env.scope.names.lookup x = _
  rw [at_.hsc]
  unfold visB at h
  split at h
  · exact .inl (by assumption)
  · exact .inr (.inl (by assumption))
  · exact .inr (.inr (by assumption))
  · cases h
theorem name_ok {x : Str} (h : nameB x = true) : (x == ("__debug__" : Str)) = false ∧ (x == ("__classdict__" : Str)) = false := ⟨nn (bb h).1, nn (bb h).2⟩
theorem tgN_ok (at_ : At X N bs sc) {x : Str} {i : Nat} (h : tgN N bs sc x i = true) : NmOk X i x := by
  obtain ⟨h, h3⟩ := bb h
  obtain ⟨h1, h2⟩ := bb h
  refine ⟨by rw [at_.hN]; exact dd h1, ?_, ?_⟩
  · show X.env.scope.names.lookup x = _ ∨ X.env.scope.names.lookup x = _
    rw [at_.hsc]
    split at h2
    · exact .inl (by assumption)
    · exact .inr (by assumption)
    · cases h2
  · rw [at_.hfn, at_.hsc]
    rw [Bool.or_eq_true] at h3
    rcases h3 with h3 | h3
    · exact .inl h3
    · exact .inr (dd h3)
theorem tgNs_ok (ck : Ck G X) (at_ : At X N bs sc) : ∀ {es : List Expr} {is : List Nat}, tgNs N bs sc es is = true → PGs X es (gNs is) ∧ (assignEach es X.env).length = is.length ∧ (assignEach es X.env).findIdx? (·.1) = none ∧ es.all (fun e => match e with | .Name _ _ => true | _ => false) = true
  | [], [], _ => ⟨pgs_nil, rfl, rfl, rfl⟩
  | [], _ :: _, h => ff h
  | e :: es, [], h => by cases e <;> exact ff h
  | e :: es, i :: is, h => by
    cases e with
    | Name x p =>
      obtain ⟨h1, h2⟩ := bb (show (tgN N bs sc x i && tgNs N bs sc es is) = true from h)
      obtain ⟨i1, i2, i3, i4⟩ := tgNs_ok ck at_ h2
      have nm := tgN_ok at_ h1
      refine ⟨pgs_cons (pg_name ck.nd nm.1 nm.2.1 nm.2.2) i1, ?_, ?_, i4⟩
      · show (assignEach es X.env).length + 1 = is.length + 1
        rw [i2]
      · show List.findIdx? (·.1) ((false, _) :: assignEach es X.env) = none
        rw [List.findIdx?_cons]
        simp only [Bool.false_eq_true, if_false, i3, Option.map_none]
    | _ => exact ff h
theorem tg_ok (ck : Ck G X) (at_ : At X N bs sc) {e : Expr} {t : Tg} (h : tgB N bs sc e t = true) : PG X e (tG G t) := by
  cases t with
  | v i =>
    cases e with
    | Name x p => exact t_name ck (tgN_ok at_ h)
    | _ => exact ff h
  | t is =>
    cases e with
    | Tuple es z p =>
      obtain ⟨i1, i2, i3, _⟩ := tgNs_ok ck at_ (show tgNs N bs sc es is = true from h)
      exact t_tup ck i1 i2 i3
    | _ => exact ff h
theorem tupB_iff {tg : Expr} (h : tupB tg = true) : ∃ es k p, tg = .Tuple es k p := by
  cases tg with
  | Tuple es k p => exact ⟨es, k, p, rfl⟩
  | _ => exact ff h
theorem it2_inv {y : Str} {a b : E} {it : Expr} (h : it2B T f sc y a b it = true) : ∃ p ea eb q, it = .Call (.Name y p) [ea, eb] [] q ∧ bltB T sc y = true ∧ b.isNil = false ∧ starB ea = false ∧ starB eb = false ∧ f ea a = true ∧ f eb b = true := by
  cases it with
  | Call fn args kws q =>
    cases fn with
    | Name x p =>
      match args, kws, h with
      | [ea, eb], [], h =>
        obtain ⟨h, h7⟩ := bb (show (decide (x = y) && bltB T sc x && !b.isNil && !starB ea && !starB eb && f ea a && f eb b) = true from h)
        obtain ⟨h, h6⟩ := bb h
        obtain ⟨h, h5⟩ := bb h
        obtain ⟨h, h4⟩ := bb h
        obtain ⟨h, h3⟩ := bb h
        obtain ⟨h1, h2⟩ := bb h
        obtain rfl := dd h1
        exact ⟨p, ea, eb, q, rfl, h2, nn h3, nn h4, nn h5, h6, h7⟩
      | [], _, h => exact ff h
      | [_], _, h => exact ff h
      | _ :: _ :: _ :: _, _, h => exact ff h
      | [_, _], _ :: _, h => exact ff h
    | _ => exact ff h
  | _ => exact ff h
theorem it_ok {tg : Expr} (al : Al G X C k T) (at_ : At X N bs sc) (ih : ∀ e m, f e m = true → PE X e (tO G W (ev C m))) {kk : IK} {a b : E} {it : Expr} (h : itB T f sc kk a b tg it = true) : PI X tg it (tI G W kk (fun x y => refs x ++ refs y) (ev C a) (evN b (ev C b))) := by
  cases kk with
  | e =>
    obtain ⟨h, h3⟩ := bb h
    obtain ⟨h1, h2⟩ := bb h
    rw [isNil_iff h1]
    exact wi_e al.ck (ih it a h3)
  | rng =>
    cases it with
    | Call fn args kws p =>
      cases fn with
      | Name x p0 =>
        match args, kws, h with
        | [ea], [], h =>
          obtain ⟨h, h5⟩ := bb (show (decide (x = "range") && bltB T sc x && b.isNil && !starB ea && f ea a) = true from h)
          obtain ⟨h, h4⟩ := bb h
          obtain ⟨h, h3⟩ := bb h
          obtain ⟨h1, h2⟩ := bb h
          obtain rfl := dd h1
          obtain ⟨g1, g2⟩ := blt_ok al at_ h2
          rw [isNil_iff h3]
          have ns := noStar (X := X) (nn h4)
          exact wi_rng g1 g2 (ns []) ns (ih ea a h5)
        | [], _, h => exact ff h
        | _ :: _ :: _, _, h => exact ff h
        | [_], _ :: _, h => exact ff h
      | _ => exact ff h
    | _ => exact ff h
  | rng2 =>
    obtain ⟨p, ea, eb, q, rfl, g, hn, s1, s2, f1, f2⟩ := it2_inv h
    obtain ⟨g1, g2⟩ := blt_ok al at_ g
    have n1 := noStar (X := X) s1
    have n2 := noStar (X := X) s2
    exact wi_rng2 g1 g2 (by rw [n1, n2] <;> rfl) (n2 []) n1 n2 (ih ea a f1) (ih eb b f2) hn
  | zip =>
    obtain ⟨h, h2⟩ := bb h
    obtain ⟨es, k, p, rfl⟩ := tupB_iff h
    obtain ⟨p, ea, eb, q, rfl, g, hn, s1, s2, f1, f2⟩ := it2_inv h2
    obtain ⟨g1, g2⟩ := blt_ok al at_ g
    have n1 := noStar (X := X) s1
    have n2 := noStar (X := X) s2
    exact wi_zip al.ck g1 g2 (n1 [eb]) (by rw [n2] <;> rfl) n1 n2 (ih ea a f1) (ih eb b f2) hn
  | enum =>
    cases it with
    | Call fn args kws p =>
      cases fn with
      | Name x p0 =>
        match args, kws, h with
        | [ea], [], h =>
          obtain ⟨h, h5⟩ := bb (show (tupB tg && decide (x = "enumerate") && bltB T sc x && b.isNil && !starB ea && f ea a) = true from h)
          obtain ⟨h, h4⟩ := bb h
          obtain ⟨h, h3⟩ := bb h
          obtain ⟨h, h2⟩ := bb h
          obtain ⟨h0, h1⟩ := bb h
          obtain ⟨es, k, p, rfl⟩ := tupB_iff h0
          obtain rfl := dd h1
          obtain ⟨g1, g2⟩ := blt_ok al at_ h2
          rw [isNil_iff h3]
          have ns := noStar (X := X) (nn h4)
          exact wi_enum al.ck g1 g2 (ns []) ns (ih ea a h5)
        | [], _, h => exact ff h
        | _ :: _ :: _, _, h => exact ff h
        | [_], _ :: _, h => exact ff h
      | _ => exact ff h
    | _ => exact ff h
end
end Mi

/-! what is checked runs as Mini tells: expressions -/
namespace Mi
open PySem PySem.Spec PyProof.Rows L2

theorem Al.blk {G : Gd} {X : Cx} {C : Ctx} {k : Nat} {T : Tb} (al : Al G X C k T) {scope : Scope} {s : Shared} {H : AH} {c : Addr} {cl : List (Str × Addr)} {fp : List Addr} : Al G (blkOf X scope s H c cl fp) C k T :=
  ⟨al.ck.blk, ⟨al.room.hd, al.room.dp, al.room.un⟩, fun f h => ⟨(al.fn f h).ex⟩, al.con, al.blt, fun c h => let r := al.err c h; ⟨r.g, r.q, r.kp, r.s, r.t⟩, ⟨al.ob.mth⟩, fun c h => let r := al.mkc c h; ⟨r.g, r.cl, r.kp, r.ini⟩, al.fld, al.isb, al.sub⟩
theorem At.blk {X : Cx} {N : List Str} {bs : Option Scope} {sc scope : Scope} (h : At X N bs sc) (hk : scope.kind = .function) {s : Shared} {H : AH} {c : Addr} {cl : List (Str × Addr)} {fp : List Addr} : At (blkOf X scope s H c cl fp) N (some scope) (relS scope sc) :=
  ⟨h.hN, by show relS scope X.env.scope = _; rw [h.hsc], rfl, hk⟩
theorem own_map {N : List Str} : ∀ own : List Nat, (own.map fun i => ((N[i]?).getD Str.empty, i)).map (·.2) = own
  | [] => rfl
  | i :: own => by
    rw [List.map_cons, List.map_cons, own_map own]
theorem set_inv {T : Tb} {sc : Scope} {f : Expr → E → Bool} {e0 : Expr} {ms : List E} (h : setCB T sc f e0 ms = true) : ∃ ea m p q, e0 = .Call (.Name "set" p) [ea] [] q ∧ ms = [m] ∧ bltB T sc "set" = true ∧ starB ea = false ∧ f ea m = true := by
  cases e0 with
  | Call fn args kws q =>
    cases fn with
    | Name y p =>
      match args, kws, ms, h with
      | [ea], [], [m], h =>
        obtain ⟨h, h4⟩ := bb (show (decide (y = "set") && bltB T sc y && !starB ea && f ea m) = true from h)
        obtain ⟨h, h3⟩ := bb h
        obtain ⟨h1, h2⟩ := bb h
        obtain rfl := dd h1
        exact ⟨ea, m, p, q, rfl, rfl, h2, nn h3, h4⟩
      | [], _, _, h => exact ff h
      | _ :: _ :: _, _, _, h => exact ff h
      | [_], _ :: _, _, h => exact ff h
      | [_], [], [], h => exact ff h
      | [_], [], _ :: _ :: _, h => exact ff h
    | _ => exact ff h
  | _ => exact ff h
theorem itm_inv {y : Str} {f : Expr → E → Bool} {e0 : Expr} {ms : List E} (h : itmCB y f e0 ms = true) : ∃ eo apos cpos m, e0 = .Call (.Attribute eo y apos) [] [] cpos ∧ ms = [m] ∧ superB eo = false ∧ (apos.endLine == cpos.line) = true ∧ f eo m = true := by
  cases e0 with
  | Call fn args kws cpos =>
    cases fn with
    | Attribute eo x apos =>
      match args, kws, ms, h with
      | [], [], [m], h =>
        obtain ⟨h, h4⟩ := bb (show (decide (x = y) && !superB eo && (apos.endLine == cpos.line) && f eo m) = true from h)
        obtain ⟨h, h3⟩ := bb h
        obtain ⟨h1, h2⟩ := bb h
        obtain rfl := dd h1
        exact ⟨eo, apos, cpos, m, rfl, rfl, nn h2, h3, h4⟩
      | _ :: _, _, _, h => exact ff h
      | [], _ :: _, _, h => exact ff h
      | [], [], [], h => exact ff h
      | [], [], _ :: _ :: _, h => exact ff h
    | _ => exact ff h
  | _ => exact ff h
/-- a comprehension's check, taken apart -/
def compC (T : Tb) (N : List Str) (n : Nat) (bs : Option Scope) (sc scope : Scope) (ee tg it : Expr) (ifs : List Expr) (own : List Nat) (t : Tg) (k : IK) (a b c el : E) : Bool :=
  (own.all fun i => (N[i]?).isSome) && blkC N sc scope (own.map fun i => ((N[i]?).getD Str.empty, i)) && tgB N (some scope) (relS scope sc) tg t && (t.slots.all fun i => decide (i ∈ own)) && !setB it &&
    itB T (chk T N n false bs sc) sc k a b tg it && ifsB (chk T N n true (some scope) (relS scope sc)) ifs c && chk T N n false (some scope) (relS scope sc) ee el
theorem comp_inv {T : Tb} {N : List Str} {n : Nat} {bs : Option Scope} {sc scope : Scope} {ee : Expr} {gens : List Comprehension} {p : Pos} {own : List Nat} {t : Tg} {k : IK} {a b c el : E}
    (h : chk T N (n + 1) false bs sc (.ListComp ee gens scope p) (.comp own t k a b c el) = true) : ∃ tg it ifs, gens = [⟨tg, it, ifs, 0⟩] ∧ compC T N n bs sc scope ee tg it ifs own t k a b c el = true := by
  match gens, h with
  | [⟨tg, it, ifs, z⟩], h =>
    obtain ⟨h1, h2⟩ := bb (show (decide (z = 0) && compC T N n bs sc scope ee tg it ifs own t k a b c el) = true from h)
    obtain rfl := dd h1
    exact ⟨tg, it, ifs, rfl, h2⟩
  | [], h => exact ff h
  | _ :: _ :: _, h => exact ff h
theorem compP {T : Tb} {N : List Str} {n : Nat} {G : Gd} {C : Ctx} {k : Nat} {X : Cx} {W : WX} {bs : Option Scope} {sc scope : Scope} {ee tg it : Expr} {ifs : List Expr} {own : List Nat} {t : Tg} {kk : IK} {a b c el : E}
    (ih : ∀ (G : Gd) (C : Ctx) (k : Nat) (X : Cx) (W : WX) (bs : Option Scope) (sc : Scope) (e : Expr) (m : E), Al G X C k T → At X N bs sc → Takes X W →
      (chk T N n false bs sc e m = true → PE X e (tO G W (ev C m))) ∧ (chk T N n true bs sc e m = true → PT X e (tT G W (cnd C m))))
    (al : Al G X C k T) (at_ : At X N bs sc) (tk : Takes X W) (h : compC T N n bs sc scope ee tg it ifs own t kk a b c el = true) :
    PI X tg it (tI G W kk (fun x y => refs x ++ refs y) (ev C a) (evN b (ev C b))) ∧ BlkOk X.N X.env.scope scope (own.map fun i => ((N[i]?).getD Str.empty, i)) ∧ scope.kind = .function ∧
    (∀ (s : Shared) (H : AH) (c : Addr) (cl : List (Str × Addr)) (fp : List Addr), PG (blkOf X scope s H c cl fp) tg (tG G t)) ∧
    (∀ (s : Shared) (H : AH) (c' : Addr) (cl : List (Str × Addr)) (fp : List Addr), PTs (blkOf X scope s H c' cl fp) ifs (tT G W0 (cnd C c))) ∧
    (∀ (s : Shared) (H : AH) (c : Addr) (cl : List (Str × Addr)) (fp : List Addr), PE (blkOf X scope s H c cl fp) ee (tO G W0 (ev C el))) ∧ (∀ x, foldedSetIterable it X.env x = pure x) ∧ ∀ i ∈ t.slots, i ∈ own := by
  obtain ⟨h, h8⟩ := bb h
  obtain ⟨h, h7⟩ := bb h
  obtain ⟨h, h6⟩ := bb h
  obtain ⟨h, h5⟩ := bb h
  obtain ⟨h, h4⟩ := bb h
  obtain ⟨h, h3⟩ := bb h
  obtain ⟨h1, h2⟩ := bb h
  have ok := blkOk_by h2
  refine ⟨it_ok al at_ (fun e m => (ih G C k X W bs sc e m al at_ tk).1) h6, by rw [at_.hN, at_.hsc]; exact ok, ok.kind, fun s H c' cl fp => tg_ok al.ck.blk (at_.blk ok.kind) h3, fun s H c' cl fp => ?_, fun s H c' cl fp => ?_, noSet (nn h5), fun i hi => dd (List.all_eq_true.mp h4 i hi)⟩
  · match ifs, h7 with
    | [], h7 =>
      cases c with
      | bl q =>
        cases q with
        | true => exact cond_none
        | false => exact ff h7
      | _ => exact ff h7
    | [f], h7 => exact pts_one ((ih G C k _ W0 (some scope) (relS scope sc) f c al.blk (at_.blk ok.kind) takes0).2 h7)
    | _ :: _ :: _, h7 => exact ff h7
  · exact (ih G C k _ W0 (some scope) (relS scope sc) ee el al.blk (at_.blk ok.kind) takes0).1 h8
theorem chk_ok {T : Tb} {N : List Str} : ∀ (n : Nat) (G : Gd) (C : Ctx) (k : Nat) (X : Cx) (W : WX) (bs : Option Scope) (sc : Scope) (e : Expr) (m : E), Al G X C k T → At X N bs sc → Takes X W →
    (chk T N n false bs sc e m = true → PE X e (tO G W (ev C m))) ∧ (chk T N n true bs sc e m = true → PT X e (tT G W (cnd C m)))
  | 0, _, _, _, _, _, _, _, _, _, _, _, _ => ⟨fun h => ff h, fun h => ff h⟩
  | n + 1, G, C, k, X, W, bs, sc, e, m, al, at_, tk => by
    have ih := chk_ok (T := T) (N := N) n
    have iE : ∀ e m, chk T N n false bs sc e m = true → PE X e (tO G W (ev C m)) := fun e m => (ih G C k X W bs sc e m al at_ tk).1
    have iT : ∀ e m, chk T N n true bs sc e m = true → PT X e (tT G W (cnd C m)) := fun e m => (ih G C k X W bs sc e m al at_ tk).2
    have ck := al.ck
    refine ⟨fun h => ?_, fun h => ?_⟩
    · -- values
      cases m with
      | nil => exact ff h
      | non =>
        cases e with
        | Constant c j p =>
          cases c with
          | none => exact m_const (d := .non) pe_non (fun ρ h => by rw [ev]) fun _ _ => rfl
          | _ => exact ff h
        | _ => exact ff h
      | bl b =>
        cases e with
        | Constant c j p =>
          cases c with
          | bool c =>
            obtain rfl := dd (show decide (b = c) = true from h)
            exact m_const (d := .bl b) pe_bl (fun ρ h => by rw [ev]) fun _ _ => rfl
          | _ => exact ff h
        | _ => exact ff h
      | int i =>
        cases e with
        | Constant c j p =>
          cases c with
          | int c =>
            obtain rfl := dd (show decide (i = c) = true from h)
            exact m_const (d := .int i) pe_int (fun ρ h => by rw [ev]) fun _ _ => rfl
          | _ => exact ff h
        | _ => exact ff h
      | str s =>
        cases e with
        | Constant c j p =>
          cases c with
          | str z =>
            obtain ⟨h, h3⟩ := bb (show (decide (z.cps.toList = s) && decide (s.length ≤ 16777216) && s.all fun c => decide (c < 1114112)) = true from h)
            obtain ⟨h1, h2⟩ := bb h
            have e1 := dd h1
            subst e1
            exact m_const (d := .str z.cps.toList) pe_str (fun ρ h => by rw [ev]) fun _ _ => ⟨rfl, dd h2, fun c hc => dd (List.all_eq_true.mp h3 c hc)⟩
          | _ => exact ff h
        | _ => exact ff h
      | var i =>
        cases e with
        | Name x p =>
          obtain ⟨h, h3⟩ := bb (show (decide (N[i]? = some x) && visB sc x && nameB x) = true from h)
          obtain ⟨h1, h2⟩ := bb h
          obtain ⟨n1, n2⟩ := name_ok h3
          exact m_var (by rw [at_.hN]; exact dd h1) (vis_ok at_ h2) n1 n2
        | _ => exact ff h
      | glo f =>
        cases e with
        | Name x p =>
          obtain ⟨h, h4⟩ := bb (show (gloB sc x && decide (x = Str.ofString f) && decide (T.lookup x = some .con) && nameB x) = true from h)
          obtain ⟨h, h3⟩ := bb h
          obtain ⟨h1, h2⟩ := bb h
          obtain rfl := dd h2
          obtain ⟨u, v, d, c1, c2, c3, c4⟩ := al.con f (dd h3)
          exact m_glo (glo_ok' at_ h1) c1 c2 c3 c4 (name_ok h4).1
        | _ => exact ff h
      | bin o a b =>
        cases e with
        | BinOp ea op eb p =>
          obtain ⟨h, h3⟩ := bb (show (decide (op = bop o) && chk T N n false bs sc ea a && chk T N n false bs sc eb b) = true from h)
          obtain ⟨h1, h2⟩ := bb h
          obtain rfl := dd h1
          exact m_bin ck (iE _ _ h2) (iE _ _ h3)
        | _ => exact ff h
      | neg a =>
        cases e with
        | UnaryOp op ea p =>
          cases op with
          | USub => exact m_neg (iE _ _ h)
          | _ => exact ff h
        | _ => exact ff h
      | not a =>
        cases e with
        | UnaryOp op ea p =>
          cases op with
          | Not => exact m_not ck (iE _ _ h)
          | _ => exact ff h
        | _ => exact ff h
      | and ms =>
        cases e with
        | BoolOp op es p =>
          cases op with
          | And =>
            obtain ⟨h1, h2⟩ := bb (show (!ms.isEmpty && allB2 (chk T N n false bs sc) es ms) = true from h)
            have := andV_ok (pos := p) ck iE h1 h2
            have e1 : ev C (.and ms) = evA C ms := by funext ρ h; rw [ev]
            rw [e1]; exact this
          | _ => exact ff h
        | _ => exact ff h
      | or ms =>
        cases e with
        | BoolOp op es p =>
          cases op with
          | Or =>
            obtain ⟨h1, h2⟩ := bb (show (!ms.isEmpty && allB2 (chk T N n false bs sc) es ms) = true from h)
            have := orV_ok (pos := p) ck iE h1 h2
            have e1 : ev C (.or ms) = evO C ms := by funext ρ h; rw [ev]
            rw [e1]; exact this
          | _ => exact ff h
        | _ => exact ff h
      | cmp o a b =>
        cases e with
        | Compare ea ops cs p =>
          match ops, cs, h with
          | [op], [eb], h =>
            obtain ⟨h, h4⟩ := bb (show (decide (op = cop o) && !setB eb && chk T N n false bs sc ea a && chk T N n false bs sc eb b) = true from h)
            obtain ⟨h, h3⟩ := bb h
            obtain ⟨h1, h2⟩ := bb h
            obtain rfl := dd h1
            exact m_cmp ck (iE _ _ h3) (iE _ _ h4) (noMark (nn h2))
          | [], _, h => exact ff h
          | _ :: _ :: _, _, h => exact ff h
          | [_], [], h => exact ff h
          | [_], _ :: _ :: _, h => exact ff h
        | _ => exact ff h
      | chain o1 o2 a b c =>
        cases e with
        | Compare ea ops cs p =>
          match ops, cs, h with
          | [p1, p2], [eb, ec], h =>
            obtain ⟨h, h6⟩ := bb (show (decide (p1 = cop o1) && decide (p2 = cop o2) && !setB ec && chk T N n false bs sc ea a && chk T N n false bs sc eb b && chk T N n false bs sc ec c) = true from h)
            obtain ⟨h, h5⟩ := bb h
            obtain ⟨h, h4⟩ := bb h
            obtain ⟨h, h3⟩ := bb h
            obtain ⟨h1, h2⟩ := bb h
            obtain rfl := dd h1
            obtain rfl := dd h2
            exact m_chain ck (iE _ _ h4) (iE _ _ h5) (iE _ _ h6) (noMark (op := cop o2) (nn h3))
          | [], _, h => exact ff h
          | [_], _, h => exact ff h
          | _ :: _ :: _ :: _, _, h => exact ff h
          | [_, _], [], h => exact ff h
          | [_, _], [_], h => exact ff h
          | [_, _], _ :: _ :: _ :: _, h => exact ff h
        | _ => exact ff h
      | isN a =>
        cases e with
        | Compare ea ops cs p =>
          match ops, cs, h with
          | [op], [c], h =>
            obtain ⟨h, h3⟩ := bb (show (decide (op = .Is) && noneB c && chk T N n false bs sc ea a) = true from h)
            obtain ⟨h1, h2⟩ := bb h
            obtain rfl := dd h1
            obtain ⟨j, p2, rfl⟩ := noneB_iff h2
            exact m_isN (iE _ _ h3)
          | [], _, h => exact ff h
          | [_], [], h => exact ff h
          | [_], _ :: _ :: _, h => exact ff h
          | _ :: _ :: _, _, h => exact ff h
        | _ => exact ff h
      | notN a =>
        cases e with
        | Compare ea ops cs p =>
          match ops, cs, h with
          | [op], [c], h =>
            obtain ⟨h, h3⟩ := bb (show (decide (op = .IsNot) && noneB c && chk T N n false bs sc ea a) = true from h)
            obtain ⟨h1, h2⟩ := bb h
            obtain rfl := dd h1
            obtain ⟨j, p2, rfl⟩ := noneB_iff h2
            exact m_notN (iE _ _ h3)
          | [], _, h => exact ff h
          | [_], [], h => exact ff h
          | [_], _ :: _ :: _, h => exact ff h
          | _ :: _ :: _, _, h => exact ff h
        | _ => exact ff h
      | isB a k' neg =>
        cases e with
        | Compare ea ops cs p =>
          match ops, cs, h with
          | [op], [c], h =>
            obtain ⟨h, h3⟩ := bb (show (decide (op = boolOps neg) && boolB c k' && chk T N n false bs sc ea a) = true from h)
            obtain ⟨h1, h2⟩ := bb h
            obtain rfl := dd h1
            obtain ⟨j, p2, rfl⟩ := boolB_iff h2
            exact m_isB (iE _ _ h3)
          | [], _, h => exact ff h
          | [_], [], h => exact ff h
          | [_], _ :: _ :: _, h => exact ff h
          | _ :: _ :: _, _, h => exact ff h
        | _ => exact ff h
      | ite c a b =>
        cases e with
        | IfExp ec ea eb p =>
          obtain ⟨h, h3⟩ := bb (show (chk T N n true bs sc ec c && chk T N n false bs sc ea a && chk T N n false bs sc eb b) = true from h)
          obtain ⟨h1, h2⟩ := bb h
          exact m_ite (iT _ _ h1) (iE _ _ h2) (iE _ _ h3)
        | _ => exact ff h
      | call f ms =>
        cases e with
        | Call fn es kws p =>
          cases fn with
          | Name x p0 =>
            match kws, h with
            | [], h =>
              obtain ⟨h, h6⟩ := bb (show (gloB sc x && decide (x = Str.ofString f) && decide (T.lookup x = some .fn) && nameB x && es.all (fun e => !starB e) && allB2 (chk T N n false bs sc) es ms) = true from h)
              obtain ⟨h, h5⟩ := bb h
              obtain ⟨h, h4⟩ := bb h
              obtain ⟨h, h3⟩ := bb h
              obtain ⟨h1, h2⟩ := bb h
              obtain rfl := dd h2
              have F := al.fn f (dd h3)
              have g := glo_ok' at_ h1
              match es, ms, h5, h6 with
              | [], [], _, _ => exact m_call0 al.room tk g F (name_ok h4).1
              | [], _ :: _, _, h6 => exact ff h6
              | _ :: _, [], _, h6 => exact ff h6
              | e :: es, m :: ms, h5, h6 =>
                have hA := args_ok (W := W) (X := X) (C := C) iE h5 h6
                rw [List.all_cons] at h5
                exact m_call al.room tk g F (noStar (nn (bb h5).1)) hA (name_ok h4).1 (plainArgs (bb h5).2).1
            | _ :: _, h => exact ff h
          | _ => exact ff h
        | _ => exact ff h
      | bi f ms =>
        cases e with
        | Call fn es kws p =>
          cases fn with
          | Name x p0 =>
            match es, kws, h with
            | e :: es, [], h =>
              obtain ⟨h, h3⟩ := bb (show (decide (x = biS f) && bltB T sc x && (biOkB f && (e :: es).all (fun e => !starB e) && allB2 (chk T N n false bs sc) (e :: es) ms || biSetB f && es.isEmpty && setCB T sc (chk T N n false bs sc) e ms || decide (f = .sortedItems) && es.isEmpty && itmCB "items" (chk T N n false bs sc) e ms)) = true from h)
              obtain ⟨h1, h2⟩ := bb h
              obtain rfl := dd h1
              obtain ⟨g1, g2⟩ := blt_ok al at_ h2
              rw [Bool.or_eq_true, Bool.or_eq_true] at h3
              rcases h3 with (h3 | h3) | h3
              · obtain ⟨h, h5⟩ := bb h3
                obtain ⟨h3, h4⟩ := bb h
                have hA := argr_ok (W := W) (X := X) (C := C) iE h4 h5
                rw [List.all_cons] at h4
                exact m_bi ck h3 g1 g2 (noStar (nn (bb h4).1)) hA (plainArgs (bb h4).2).1
              · obtain ⟨h, h5⟩ := bb h3
                obtain ⟨h3, h4⟩ := bb h
                obtain rfl := List.isEmpty_iff.mp h4
                obtain ⟨ea, m, p2, q, rfl, rfl, r1, r2, r3⟩ := set_inv h5
                obtain ⟨g3, g4⟩ := blt_ok al at_ r1
                cases f with
                | sortedSet => exact m_sortedSet ck g1 g2 g3 g4 (noStar r2) (iE _ _ r3)
                | lenSet => exact m_lenSet ck g1 g2 g3 g4 (noStar r2) (iE _ _ r3)
                | _ => exact ff h3
              · obtain ⟨h, h5⟩ := bb h3
                obtain ⟨k3, h4⟩ := bb h
                obtain rfl := dd k3
                obtain rfl := List.isEmpty_iff.mp h4
                obtain ⟨eo, apos, cpos, m, rfl, rfl, r1, r2, r3⟩ := itm_inv h5
                exact m_sortedItems ck g1 g2 (iE _ _ r3) (attrBase r1) r2
            | [], _, h => exact ff h
            | _ :: _, _ :: _, h => exact ff h
          | _ => exact ff h
        | _ => exact ff h
      | mth m o ms =>
        cases e with
        | Call fn es kws cpos =>
          cases fn with
          | Attribute eo x apos =>
            match kws, h with
            | [], h =>
              obtain ⟨h, h7⟩ := bb (show (decide (x = Str.ofString m) && !superB eo && (apos.endLine == cpos.line) && decide (es.length < 30) && es.all (fun e => !starB e) && chk T N n false bs sc eo o && allB2 (chk T N n false bs sc) es ms) = true from h)
              obtain ⟨h, h6⟩ := bb h
              obtain ⟨h, h5⟩ := bb h
              obtain ⟨h, h4⟩ := bb h
              obtain ⟨h, h3⟩ := bb h
              obtain ⟨h1, h2⟩ := bb h
              have base := attrBase (env := X.env) (m := x) (nn h2)
              match es, ms, h4, h5, h7 with
              | [], [], _, _, _ => exact m_mthB0 ck al.ob al.room tk (dd h1) (iE _ _ h6) base h3
              | [], _ :: _, _, _, h7 => exact ff h7
              | _ :: _, [], _, _, h7 => exact ff h7
              | e :: es, m1 :: ms, h4, h5, h7 =>
                have hA := args_ok (W := W) (X := X) (C := C) iE h5 h7
                have pl := plainArgs (X := X) (pos := cpos) h5
                rw [List.all_cons] at h5
                refine m_mthB ck al.ob al.room tk (dd h1) (iE _ _ h6) (noStar (nn (bb h5).1)) hA base ?_ h3 (plainArgs (bb h5).2).1
                rw [pl.2]
                show (true && true && decide ((e :: es).length + 0 + 0 < 30)) = true
                rw [Bool.and_self, Bool.true_and]
                exact h4
            | _ :: _, h => exact ff h
          | _ => exact ff h
        | _ => exact ff h
      | idx a b =>
        cases e with
        | Subscript ea eb p =>
          obtain ⟨h, h3⟩ := bb (show (plainIxB eb && chk T N n false bs sc ea a && chk T N n false bs sc eb b) = true from h)
          obtain ⟨h1, h2⟩ := bb h
          exact m_idx ck (iE _ _ h2) (iE _ _ h3) (plainIx h1)
        | _ => exact ff h
      | slc a lo hi =>
        cases e with
        | Subscript ea es p =>
          cases es with
          | Slice l hh st p2 =>
            match st, h with
            | none, h =>
              obtain ⟨h, h3⟩ := bb (show (chk T N n false bs sc ea a && optB (chk T N n false bs sc) l lo && optB (chk T N n false bs sc) hh hi) = true from h)
              obtain ⟨h1, h2⟩ := bb h
              refine m_slc ck (iE _ _ h1) (fun e he => ?_) (fun he => ?_) (fun e he => ?_) (fun he => ?_)
              · subst he
                obtain ⟨q1, q2⟩ := bb (show (!lo.isNil && chk T N n false bs sc e lo) = true from h2)
                exact ⟨iE _ _ q2, nn q1⟩
              · subst he; exact isNil_iff h2
              · subst he
                obtain ⟨q1, q2⟩ := bb (show (!hi.isNil && chk T N n false bs sc e hi) = true from h3)
                exact ⟨iE _ _ q2, nn q1⟩
              · subst he; exact isNil_iff h3
            | some _, h => exact ff h
          | _ => exact ff h
        | _ => exact ff h
      | rev a =>
        cases e with
        | Subscript ea es p =>
          cases es with
          | Slice l hh st p2 =>
            match l, hh, st, h with
            | none, none, some st, h =>
              cases st with
              | UnaryOp op c p3 =>
                cases op with
                | USub =>
                  cases c with
                  | Constant cc j p4 =>
                    cases cc with
                    | int i =>
                      obtain ⟨h1, h2⟩ := bb (show (decide (i = 1) && chk T N n false bs sc ea a) = true from h)
                      obtain rfl := dd h1
                      exact m_rev ck (iE _ _ h2)
                    | _ => exact ff h
                  | _ => exact ff h
                | _ => exact ff h
              | _ => exact ff h
            | some _, _, _, h => exact ff h
            | none, some _, _, h => exact ff h
            | none, none, none, h => exact ff h
          | _ => exact ff h
        | _ => exact ff h
      | tup ms =>
        cases e with
        | Tuple es z p =>
          obtain ⟨h, h3⟩ := bb (show (decide (ms.length ≤ 1000) && es.all (fun e => !starB e) && allB2 (chk T N n false bs sc) es ms) = true from h)
          obtain ⟨h1, h2⟩ := bb h
          exact m_tup (dd h1) (args_ok iE h2 h3)
        | _ => exact ff h
      | lst ms =>
        cases e with
        | List es p =>
          obtain ⟨h, h3⟩ := bb (show (decide (ms.length ≤ 1000) && es.all (fun e => !starB e) && allB2 (chk T N n false bs sc) es ms) = true from h)
          obtain ⟨h1, h2⟩ := bb h
          exact m_lst (dd h1) (args_ok iE h2 h3)
        | _ => exact ff h
      | comp own t k' a b c el =>
        cases e with
        | ListComp ee gens scope p =>
          obtain ⟨tg, it, ifs, rfl, h⟩ := comp_inv h
          obtain ⟨hi, ok, hk, hg, ht, he, hs, hsl⟩ := compP (W := W) ih al at_ tk h
          have e1 := own_map (N := N) own
          have := m_comp (pos := p) (own := own.map fun i => ((N[i]?).getD Str.empty, i)) (t := t) (k := k') (ma := a) (mb := b) (mc := c) (mo := el) (W := W) (C := C) ck hi ok hg ht he hs (by rw [e1]; exact hsl)
          rw [e1] at this
          exact this
        | _ => exact ff h
      | isi a ty =>
        cases e with
        | Call fn es kws p =>
          cases fn with
          | Name x p0 =>
            match es, kws, h with
            | [ea, y], [], h =>
              obtain ⟨h, h7⟩ := bb (show (decide (x = "isinstance") && bltB T sc x && isiB T sc ty y && !starB ea && chk T N n false bs sc ea a) = true from h)
              obtain ⟨h, h6⟩ := bb h
              obtain ⟨h, h5⟩ := bb h
              obtain ⟨h1, h2⟩ := bb h
              obtain rfl := dd h1
              obtain ⟨g1, g2⟩ := blt_ok al at_ h2
              have pl : isOwn ty = false → nameIs y (Str.ofString (tyS ty)) = true → bltB T sc (Str.ofString (tyS ty)) = true → PE X (.Call (.Name "isinstance" p0) [ea, y] [] p) (tO G W (ev C (.isi a ty))) := fun q3 q4 q5 => by
                obtain ⟨p2, rfl⟩ := nameIs_iff q4
                obtain ⟨g3, g4⟩ := blt_ok al at_ q5
                exact m_isi ck q3 g1 g2 g3 g4 (noStar (nn h6)) (iE _ _ h7)
              cases ty with
              | own b =>
                cases y with
                | Name z p2 =>
                  obtain ⟨h8, h9⟩ := bb (show (decide (z = Str.ofString b) && nameB z && (if b = "ValueError" then bltB T sc z else gloB sc z && decide (T.lookup z = some .err))) = true from h5)
                  obtain ⟨h8, h10⟩ := bb h8
                  obtain rfl := dd h8
                  by_cases hb : b = "ValueError"
                  · subst hb
                    rw [if_pos rfl] at h9
                    obtain ⟨g3, g4⟩ := blt_ok al at_ h9
                    exact m_isiE (vc := .ty "ValueError") (u := .type "ValueError") ck (fun a' t' e => al.isb a' _ t' e) (fun w r => r) g1 g2 (noStar (nn h6)) (iE _ _ h7) (pe_bltn g3 g4 (by decide +kernel : bootBuiltins "ValueError" = some (.type "ValueError")) rfl (by decide +kernel) (by decide +kernel)) (noStar rfl)
                  · rw [if_neg hb] at h9
                    obtain ⟨h11, h12⟩ := bb h9
                    have E := al.err b (dd h12)
                    exact m_isiE (vc := .ref (G.cl b)) (u := .ref (G.cl b)) ck (fun a' t' e => by have := al.isb a' _ t' e; rw [if_neg hb] at this; exact this) (fun w r => r) g1 g2 (noStar (nn h6)) (iE _ _ h7) (pe_glob (glo_ok' at_ h11) E.g rfl (name_ok h10).1) (noStar rfl)
                | _ => exact ff h5
              | int => obtain ⟨h3, h4⟩ := bb h5; exact pl rfl h3 h4
              | str => obtain ⟨h3, h4⟩ := bb h5; exact pl rfl h3 h4
              | bool => obtain ⟨h3, h4⟩ := bb h5; exact pl rfl h3 h4
              | list => obtain ⟨h3, h4⟩ := bb h5; exact pl rfl h3 h4
              | tuple => obtain ⟨h3, h4⟩ := bb h5; exact pl rfl h3 h4
              | dict => obtain ⟨h3, h4⟩ := bb h5; exact pl rfl h3 h4
            | [], _, h => exact ff h
            | [_], _, h => exact ff h
            | _ :: _ :: _ :: _, _, h => exact ff h
            | [_, _], _ :: _, h => exact ff h
          | _ => exact ff h
        | _ => exact ff h
      | new c ms =>
        cases e with
        | Call fn es kws p =>
          cases fn with
          | Name x p0 =>
            match kws, h with
            | [], h =>
              obtain ⟨h, h6⟩ := bb (show (gloB sc x && decide (x = Str.ofString c) && decide (T.lookup x = some .cls) && nameB x && es.all (fun e => !starB e) && allB2 (chk T N n false bs sc) es ms) = true from h)
              obtain ⟨h, h5⟩ := bb h
              obtain ⟨h, h4⟩ := bb h
              obtain ⟨h, h3⟩ := bb h
              obtain ⟨h1, h2⟩ := bb h
              obtain rfl := dd h2
              have F := al.mkc c (dd h3)
              have g := glo_ok' at_ h1
              match es, ms, h5, h6 with
              | [], [], _, _ => exact m_new0 ck F al.room g (name_ok h4).1
              | [], _ :: _, _, h6 => exact ff h6
              | _ :: _, [], _, h6 => exact ff h6
              | e :: es, m :: ms, h5, h6 =>
                have hA := args_ok (W := W) (X := X) (C := C) iE h5 h6
                rw [List.all_cons] at h5
                exact m_new ck F al.room g (noStar (nn (bb h5).1)) hA (name_ok h4).1 (plainArgs (bb h5).2).1
            | _ :: _, h => exact ff h
          | _ => exact ff h
        | _ => exact ff h
      | fld o f =>
        cases e with
        | Attribute eo x p =>
          obtain ⟨h, h4⟩ := bb (show (decide (x = Str.ofString f) && decide (T.lookup (Str.ofString ("." ++ f)) = some .fld) && !superB eo && chk T N n false bs sc eo o) = true from h)
          obtain ⟨h, h3⟩ := bb h
          obtain ⟨h1, h2⟩ := bb h
          exact m_fld ck (dd h1) (al.fld f (dd h2)) (iE _ _ h4) (attrBase (nn h3))
        | _ => exact ff h
      | dic t ks vs =>
        cases e with
        | Dict es fs p =>
          match es, fs, h with
          | [], [], h =>
            obtain ⟨h2, h3⟩ := bb (show (ks.isEmpty && vs.isEmpty) = true from h)
            obtain rfl := List.isEmpty_iff.mp h2
            obtain rfl := List.isEmpty_iff.mp h3
            cases t with
            | true => exact m_dicT ck
            | false => exact m_dic
          | _ :: _, _, h => exact ff h
          | [], _ :: _, h => exact ff h
        | _ => exact ff h
      | lsI kk a b =>
        cases kk with
        | rng =>
          cases e with
          | Call fn es kws p =>
            cases fn with
            | Name x p0 =>
              match es, kws, h with
              | [it], [], h =>
                obtain ⟨h, h3⟩ := bb (show (decide (x = "list") && bltB T sc x && itB T (chk T N n false bs sc) sc .rng a b it it) = true from h)
                obtain ⟨h1, h2⟩ := bb h
                obtain rfl := dd h1
                obtain ⟨g1, g2⟩ := blt_ok al at_ h2
                cases it with
                | Call fn2 args kws2 p2 =>
                  cases fn2 with
                  | Name y p3 =>
                    match args, kws2, h3 with
                    | [ea], [], h =>
                      obtain ⟨k1, k5⟩ := bb (show (decide (y = "range") && bltB T sc y && b.isNil && !starB ea && chk T N n false bs sc ea a) = true from h)
                      obtain ⟨k1, k4⟩ := bb k1
                      obtain ⟨k1, k3⟩ := bb k1
                      obtain ⟨k1, k2⟩ := bb k1
                      obtain rfl := dd k1
                      obtain ⟨g3, g4⟩ := blt_ok al at_ k2
                      rw [isNil_iff k3]
                      exact m_listRng ck.calm g1 g2 g3 g4 (noStar (X := X) (nn k4) []) (iE _ _ k5)
                    | [], _, h => exact ff h
                    | _ :: _ :: _, _, h => exact ff h
                    | [_], _ :: _, h => exact ff h
                  | _ => exact ff h3
                | _ => exact ff h3
              | [], _, h => exact ff h
              | _ :: _ :: _, _, h => exact ff h
              | [_], _ :: _, h => exact ff h
            | _ => exact ff h
          | _ => exact ff h
        | _ => exact ff h
    · -- tests
      have plain : (plainTestB e && chk T N n false bs sc e m) = true → PT X e (tT G W (cnd C m)) := fun h => by
        obtain ⟨h1, h2⟩ := bb h
        exact plain_test ck (iE _ _ h2) (plainTest h1)
      cases m with
      | not a =>
        cases e with
        | UnaryOp op ea p =>
          cases op with
          | Not => exact not_test (iT _ _ h)
          | _ => exact ff h
        | _ => exact ff h
      | and ms =>
        cases e with
        | BoolOp op es p =>
          cases op with
          | And =>
            obtain ⟨h1, h2⟩ := bb (show (!ms.isEmpty && allB2 (chk T N n true bs sc) es ms) = true from h)
            have := (ands_ok (pos := p) iT h1 h2).pt
            have e1 : cnd C (.and ms) = fun ρ h => (evA C ms ρ h).bd tru := by funext ρ h; rw [cnd, ev]; rfl
            rw [e1]; exact this
          | _ => exact ff h
        | _ => exact ff h
      | or ms =>
        cases e with
        | BoolOp op es p =>
          cases op with
          | Or =>
            obtain ⟨h1, h2⟩ := bb (show (!ms.isEmpty && allB2 (chk T N n true bs sc) es ms) = true from h)
            have := (ors_ok (pos := p) iT h1 h2).pt
            have e1 : cnd C (.or ms) = fun ρ h => (evO C ms ρ h).bd tru := by funext ρ h; rw [cnd, ev]; rfl
            rw [e1]; exact this
          | _ => exact ff h
        | _ => exact ff h
      | cmp o a b =>
        cases e with
        | Compare ea ops cs p =>
          match ops, cs, h with
          | [op], [eb], h =>
            obtain ⟨h, h4⟩ := bb (show (decide (op = cop o) && !setB eb && chk T N n false bs sc ea a && chk T N n false bs sc eb b) = true from h)
            obtain ⟨h, h3⟩ := bb h
            obtain ⟨h1, h2⟩ := bb h
            obtain rfl := dd h1
            exact cmp_test ck (iE _ _ h3) (iE _ _ h4) (noMark (nn h2))
          | [], _, h => exact ff h
          | _ :: _ :: _, _, h => exact ff h
          | [_], [], h => exact ff h
          | [_], _ :: _ :: _, h => exact ff h
        | _ => exact ff h
      | chain o1 o2 a b c =>
        cases e with
        | Compare ea ops cs p =>
          match ops, cs, h with
          | [p1, p2], [eb, ec], h =>
            obtain ⟨h, h6⟩ := bb (show (decide (p1 = cop o1) && decide (p2 = cop o2) && !setB ec && chk T N n false bs sc ea a && chk T N n false bs sc eb b && chk T N n false bs sc ec c) = true from h)
            obtain ⟨h, h5⟩ := bb h
            obtain ⟨h, h4⟩ := bb h
            obtain ⟨h, h3⟩ := bb h
            obtain ⟨h1, h2⟩ := bb h
            obtain rfl := dd h1
            obtain rfl := dd h2
            exact chain_test ck (iE _ _ h4) (iE _ _ h5) (iE _ _ h6) (noMark (op := cop o2) (nn h3))
          | [], _, h => exact ff h
          | [_], _, h => exact ff h
          | _ :: _ :: _ :: _, _, h => exact ff h
          | [_, _], [], h => exact ff h
          | [_, _], [_], h => exact ff h
          | [_, _], _ :: _ :: _ :: _, h => exact ff h
        | _ => exact ff h
      | isN a =>
        cases e with
        | Compare ea ops cs p =>
          match ops, cs, h with
          | [op], [c], h =>
            obtain ⟨h, h3⟩ := bb (show (decide (op = .Is) && noneB c && chk T N n false bs sc ea a) = true from h)
            obtain ⟨h1, h2⟩ := bb h
            obtain rfl := dd h1
            obtain ⟨j, p2, rfl⟩ := noneB_iff h2
            exact isN_test (iE _ _ h3)
          | [], _, h => exact ff h
          | [_], [], h => exact ff h
          | [_], _ :: _ :: _, h => exact ff h
          | _ :: _ :: _, _, h => exact ff h
        | _ => exact ff h
      | notN a =>
        cases e with
        | Compare ea ops cs p =>
          match ops, cs, h with
          | [op], [c], h =>
            obtain ⟨h, h3⟩ := bb (show (decide (op = .IsNot) && noneB c && chk T N n false bs sc ea a) = true from h)
            obtain ⟨h1, h2⟩ := bb h
            obtain rfl := dd h1
            obtain ⟨j, p2, rfl⟩ := noneB_iff h2
            exact notN_test (iE _ _ h3)
          | [], _, h => exact ff h
          | [_], [], h => exact ff h
          | [_], _ :: _ :: _, h => exact ff h
          | _ :: _ :: _, _, h => exact ff h
        | _ => exact ff h
      | isB a k' neg =>
        cases e with
        | Compare ea ops cs p =>
          match ops, cs, h with
          | [op], [c], h =>
            obtain ⟨h, h3⟩ := bb (show (decide (op = boolOps neg) && boolB c k' && chk T N n false bs sc ea a) = true from h)
            obtain ⟨h1, h2⟩ := bb h
            obtain rfl := dd h1
            obtain ⟨j, p2, rfl⟩ := boolB_iff h2
            exact isB_test (iE _ _ h3)
          | [], _, h => exact ff h
          | [_], [], h => exact ff h
          | [_], _ :: _ :: _, h => exact ff h
          | _ :: _ :: _, _, h => exact ff h
        | _ => exact ff h
      | _ => exact plain h
end Mi

/-! o[i] = v -/
namespace Mi
open PySem PySem.Spec PyProof.Rows L2

section
variable {G : Gd} {M M' M1 : List Addr} {H H' H1 : AH} {h h' h1 : Hp} {W : WX} {X : Cx} {o i e : Expr} {mo mi me : E} {pins : List (Addr × Obj)} {s : Shared} {σ : L2.St} {ρ : Env} {pos pos' : Pos} {C : Ctx}
theorem putK_len {kvs : List (D × D)} {ks : List (L2.Key × V)} (x : DkR G M H kvs ks) : kvs.length = ks.length := x.len
/-- the store itself -/
theorem set_at (ck : Ck G X) {x k d : D} {vx vk vd : V} {ux uk ud : Value} {N : Ends}
    (g : GotF G W M H N (match x with
    | .ref a => (match get h a with
      | some (.lst xs) => (match k with
        | .int j => if -(xs.length : Int) ≤ j ∧ j < xs.length then .nx ρ (put h a (.lst (xs.set (if 0 ≤ j then j.toNat else (j + xs.length).toNat) d))) else .bad
        | _ => .bad)
      | some (.dic t kvs) => if keyB t k = true ∧ kvs.length < 16777216 then .nx ρ (put h a (.dic t (storeD k d kvs))) else .bad
      | _ => .bad)
    | _ => .bad)) (I : Inv X pins σ H s) (hr : HR G M h H) (x1 : VR G M H x vx) (x2 : VR G M H k vk) (x3 : DR G M H d vd)
    (r1 : RelV vx ux) (r2 : RelV vk uk) (r3 : RelV vd ud) (er : EnvR G M H ρ σ) : wpAny (model X.prog X.w) X.A (setItem ux uk ud) (fun _ s' => ∃ H', Inv X pins σ H' s' ∧ N.nx σ H') X.xe s := by
  cases x with
  | ref n =>
    cases gg : get h n with
    | none => simp only [gg] at g; exact g.elim
    | some ob =>
      cases ob with
      | lst xs =>
        simp only [gg] at g
        cases k with
        | int j =>
          simp only at g
          by_cases c : -(xs.length : Int) ≤ j ∧ j < xs.length
          · rw [if_pos c] at g
            obtain ⟨p, hp, rfl⟩ := x1
            obtain ⟨b, hb, y⟩ := hr.obj n _ gg
            rw [hp] at hb; cases hb
            obtain ⟨ws, q, w⟩ := y
            obtain rfl : vk = .int j := x2
            have mem := List.mem_of_getElem? hp
            have P := lst_put hr gg hp (w.set (if 0 ≤ j then j.toNat else (j + xs.length).toNat) x3)
            refine set_list pins s σ H (.ref p) (.int j) vd ux uk ud _ I r1 r2 r3 ⟨p, ws, j, if 0 ≤ j then j.toNat else (j + xs.length).toNat, rfl, rfl, q, ?_, g M _ σ P (er.mono hr P)⟩
            rw [← w.length]
            unfold ixN
            by_cases h0 : 0 ≤ j
            · simp only [h0, if_true]; rw [if_pos (by omega)]
            · simp only [h0, if_false]; rw [if_pos (by omega)]
          · rw [if_neg c] at g; exact g.elim
        | _ => exact g.elim
      | dic t kvs =>
        simp only [gg] at g
        by_cases c : keyB t k = true ∧ kvs.length < 16777216
        · rw [if_pos c] at g
          have g2 := g
          have e : dicOf (.ref n) h = some (t, kvs) := by unfold dicOf; simp only [gg]
          obtain ⟨n', a, e1, rfl, hp, _, q⟩ := dic_at hr x1 e
          cases e1
          obtain rfl : ux = Value.ref a := r1
          rcases q with ⟨rfl, ks, q, dk⟩ | ⟨rfl, es, q, dk⟩
          · obtain ⟨qk, rfl, rfl, ok⟩ := key_at x2 c.1
            have P := dic_put hr gg hp (store_rel ok x3 dk)
            exact d_setItem (by have := ck.un; omega) I (DPut.k q (by rw [← dk.len, sz_eq]; exact c.2)) r2 r3 fun s' I' => ⟨_, I', g2 M _ σ P (er.mono hr P)⟩
          · obtain ⟨qk, bb, rfl, rfl, hd, kd⟩ := keyT_at x2 c.1
            obtain rfl : uk = Value.ref bb := r2
            have P := tdic_put hr gg hp (storeT_rel kd x3 dk)
            exact t_setItem ck.K ck.w ck.un I q dk hd kd (by rw [← dk.len, sz_eq]; exact c.2) r3 fun s' I' => ⟨_, I', g2 M _ σ P (er.mono hr P)⟩
        · rw [if_neg c] at g; exact g.elim
      | _ => simp only [gg] at g; exact g.elim
  | _ => exact g.elim
theorem s_sset (ck : Ck G X) (ho : PE X o (tO G W (ev C mo))) (hi : PE X i (tO G W (ev C mi))) (he : PE X e (tO G W (ev C me))) (hs : swapsWith e (some (.Subscript o i pos')) pos.line X.env = pure false) :
    PS X (.Assign [.Subscript o i pos'] e pos) (tS G W (ex C (.sset mo mi me))) := by
  constructor
  intro pins s σ H N I ⟨M, h, ρ, er, hr, g⟩
  rw [ex] at g
  refine wpAny_Assign_Subscript (thn (use he I er hr (GotF.fl hr er g)) fun ud s1 ⟨d, M1, h1, H1, vd, I1, rd, p1, x1, _, g1⟩ => ?_) hs
  obtain ⟨M2, p2, dd, _⟩ := p1.sto x1
  have er2 := er.mono hr p2
  refine thn (use ho I1 er2 p2.hr (GotF.fl2 hr p2 er2 g1)) fun uo s2 ⟨x, M3, h3, H3, vo, I3, ro, p3, x3, g3⟩ => ?_
  have p13 := p2.trans hr p3
  have er3 := er.mono hr p13
  refine thn (use hi I3 er3 p3.hr (GotF.fl2 hr p13 er3 g3)) fun ui s4 ⟨k, M5, h5, H5, vi, I5, ri, p5, x5, g5⟩ => ?_
  have p15 := p13.trans hr p5
  have q := set_at (N := N) ck (GotF.from hr p15 g5) I5 p5.hr (x3.vr.mono p3.hr p5) x5.vr ((dd.mono p2.hr p3).mono p3.hr p5) ro ri rd (er.mono hr p15)
  exact thn q fun _ s6 ⟨H6, I6, q6⟩ => ⟨σ, H6, I6, q6⟩
end
end Mi

/-! try: .. except C as e: kept = e -/
namespace Mi
open PySem PySem.Spec PyProof.Rows L2

section
variable {X : Cx} {pins : List (Addr × Obj)} {σ : L2.St} {H : AH} {s : Shared} {a C : Addr} {oe : Obj}
theorem ex_ok {P : Program} {w : World} {H : AH} {h : Heap} (e : h.get? a = some oe) (z : Zc (.ref C) none oe) (d : ∃ vs, oe.data = .fields vs) : ObjOk P w H h a (exHO C a) :=
  ⟨⟨oe, e, z, d⟩, ⟨oe, e⟩, fun _ _ ⟨o, q, r⟩ k => ⟨o, k o q, r⟩⟩
/-- an error that is new since the entry is looked after -/
theorem inv_track (I : Inv X pins σ H s) (ha : s.heap.get? a = some oe) (z : Zc (.ref C) none oe) (hf : ∃ vs, oe.data = .fields vs) (fr : X.s_0.heap.get? a = none) (na : H a = none) (nL : a ≠ X.env.locals) (np : ∀ p ∈ X.pn ++ pins, p.1 ≠ a) :
    Inv X pins σ (upd H a (.frz oe (exHO C a))) s := by
  have nb : ∀ b o, X.s_0.heap.get? b = some o → b ≠ a := fun b o e q => by rw [q, fr] at e; cases e
  refine ⟨I.ok, I.os, I.bare, ⟨I.base.keep, I.base.slot, fun b o e n hx => ?_, I.base.there, fun b xs q => ?_, fun b o u q => ?_, fun b ps q => ?_⟩, I.loc, I.cell, ?_, fun x c e => ?_, fun p hp => ?_, ?_, I.len⟩
  · rw [upd_ne (nb b o e)]; exact I.base.free b o e n hx
  · have q := I.base.tups b xs q
    rw [upd_ne (ne_of_none q na)]; exact q
  · have q := I.base.frzs b o u q
    rw [upd_ne (ne_of_none q na)]; exact q
  · obtain ⟨m, q⟩ := I.base.tbls b ps q
    exact ⟨m, by rw [upd_ne (ne_of_none q na)]; exact q⟩
  · rw [upd_ne (Ne.symm nL)]; exact I.free
  · have ne : c ≠ a := fun q => by
      obtain ⟨v, o, ho, hd⟩ := I.cell x c e
      obtain ⟨vs, hv⟩ := hf
      rw [q, ha] at ho
      cases ho
      rw [hv] at hd
      cases hd
    rw [upd_ne ne]; exact I.freeC x c e
  · obtain ⟨q1, q2, q3⟩ := I.pin p hp
    exact ⟨q1, by rw [upd_ne (np p hp)]; exact q2, q3⟩
  · exact I.hok.laidN (fun _ _ q => q) na ⟨ha, ex_ok ha z hf⟩
/-- what `except c as ..: kept = ..` wishes: i the name's slot, j the kept one's -/
def wKp (K : PySem.W.Frag) (c : Value) (i j : Nat) (Wout : WX) (D : Ends) : WX := fun cls d σ H =>
  ∃ b, PySem.W.exmOne K cls c = some b ∧ (b = true → d = none ∧ ∃ C, cls = .ref C ∧ ∀ a oe, H a = none → D.nx (((σ.set i (some (.ref a))).set j (some (.ref a))).set i none) (upd H a (.frz oe (exHO C a)))) ∧ (b = false → Wout cls d σ H)
variable {x n y : Str} {c : Value} {i j : Nat} {body : List Stmt} {np ep yp ap pos pos' : Pos} {tb : WX → TS} {Wout : WX}
theorem ps_keep (hs : X.stack = X.env :: X.outer) (hf : X.env.frame = some X.env.locals) (hN : X.N.Nodup) (hi : X.N[i]? = some n) (hj : X.N[j]? = some y) (hln : X.env.kindOf n = some .local) (hly : X.env.kindOf y = some .local) (hc : Names X x c) (hx : X.ex = []) (tk : Takes X Wout)
    (dn : (n == ("__debug__" : Str)) = false) (cn : (n == ("__classdict__" : Str)) = false)
    (hb : ∀ (W : WX) (pn : List (Addr × Obj)) (xe : Value → Shared → Prop), Takes (X.tr pn xe) W → PassesOwn (model X.prog X.w) X.A X.env xe → PSs (X.tr pn xe) body (tb W)) :
    PS X (.Try body [.ExceptHandler (some (.Name x np)) (some n) [.Assign [.Name y yp] (.Name n ep) ap] pos'] [] [] pos) (fun D σ H => tb (wKp X.K c i j Wout D) D σ H) := by
  refine ⟨fun pins s σ H D I h => ?_⟩
  have ok := I.ok
  have frm : X.A.frames = some (X.env :: X.outer) := by rw [ok.frames, hs]
  refine wpAny_Try_except ?_
  refine wpAny_mono ((hb (wKp X.K c i j Wout D) (X.pn ++ pins) (fun e s₁ => wpAny (model X.prog X.w) X.A (noteFrame e X.env) (fun _ s₂ => wpAny (model X.prog X.w) X.A (setFlight e none) (fun _ s₃ =>
    wpAny (model X.prog X.w) X.A (handleBy e X.env [.ExceptHandler (some (.Name x np)) (some n) [.Assign [.Name y yp] (.Name n ep) ap] pos']) (SP X pins D) X.xe s₃) X.xe s₂) X.xe s₁) (fun u s' xx => ?_) PassesOwn.looking).run [] s σ H D (I.toTry _) h) (fun f s1 q => ?_) (fun e s1 q => q)
  · obtain ⟨a, B, sI, pins', σ', H', cls, d, rfl, J', nb, up, sky, na, os, ag, b, hb1, yes, no⟩ := xx
    have J : Inv X pins σ' H' sI := J'.ofTry ok
    rw [show (X.tr (X.pn ++ pins) _).stack = X.env :: X.outer from hs] at sky
    show wpAny (model X.prog X.w) X.A (noteFrame (.ref a) X.env) _ _ _
    refine Sky.land Zc.steady frm hf sky fun h3 fl3 up3 => ?_
    have J3 : Inv X pins σ' H' { s' with heap := h3 } := J.landed nb fl3.1 (up.trans up3) os ag
    obtain ⟨oe3, vs3, he3, hz3, hd3⟩ := fl3.there
    have nfr : a ∉ frs (X.env :: X.outer) := fun hm => by
      obtain ⟨_, o', e', hnf⟩ := fl3.2.2.1.mem hm
      rw [he3] at e'; cases e'
      exact hnf _ hd3
    have nB : B.get? a = none := fl3.2.1
    have nI : sI.heap.get? a = none := by
      cases q : sI.heap.get? a with
      | none => rfl
      | some o =>
        have := nb a o q (by rw [show (X.tr (X.pn ++ pins) _).stack = X.env :: X.outer from hs]; exact nfr)
        rw [nB] at this; cases this
    have nL : a ≠ X.env.locals := fun z => nfr (List.mem_filterMap.mpr ⟨X.env, List.mem_cons_self, by rw [hf, z]⟩)
    have nF : a ∉ X.fs := fun hm => by
      obtain ⟨e, he, q⟩ := List.mem_filterMap.mp hm
      exact nfr (List.mem_filterMap.mpr ⟨e, List.mem_cons_of_mem _ he, q⟩)
    have n0 : X.s_0.heap.get? a = none := by
      cases q : X.s_0.heap.get? a with
      | none => rfl
      | some o =>
        obtain ⟨o', q'⟩ := J.base.there a o q (by rw [hx]; exact fun z => nomatch z)
        rw [nI] at q'; cases q'
    have S3 := J3.suite he3 hd3 na nL nF
    refine wpAny_handleBy_cons (codeAny_handlers_test ?_) (by intro q; cases q)
    have LT : PySem.W.Looks (model X.prog X.w) h3 (typeOf (.ref a)) cls := fun A Q E s k q => wpAny_typeOf_ref (k _ _ he3) (by rw [hz3.1]; exact q)
    have LM := PySem.W.exm_one (M := model X.prog X.w) (J3.kIn) LT hb1
    have test : ∀ {Q : Value → Shared → Prop} {E : Value → Shared → Prop}, Q c { s' with heap := h3 } → wpAny (model X.prog X.w) (X.A.mark (some (.ref a))) (eval (.Name x np) X.env) Q E { s' with heap := h3 } := fun {Q E} q => by
      obtain ⟨hg, hdbg, hm | ⟨hm, hv, hnn⟩⟩ := hc
      · exact ld_glob (X := X.suite a ((a, oe3) :: (X.pn ++ pins))) S3 hg hm q hdbg
      · exact ld_blt (X := X.suite a ((a, oe3) :: (X.pn ++ pins))) S3 hg hm hv q hnn hdbg
    refine test (LM.here ?_)
    cases b with
    | true =>
      obtain ⟨rfl, C, rfl, go⟩ := yes rfl
      refine codeAny_handlers_suite_as ?_
      refine HandSPX.lands_againZ fl3 fun h4 fl4 up4 => ?_
      have J4 : Inv X pins σ' H' { s' with heap := h4 } := J.landed nb fl4.1 ((up.trans up3).trans up4) os ag
      obtain ⟨oe4, vs4, he4, hz4, hd4⟩ := fl4.there
      have S4 := J4.suite he4 hd4 na nL nF
      refine store_ok (X := X.suite a ((a, oe4) :: (X.pn ++ pins))) (v := .ref a) S4 hN hi (.inl hln) rfl (fun s5 S5 => ?_) (.inr hln)
      have il : i < σ'.length := by rw [J4.len]; exact (List.getElem?_eq_some_iff.mp hi).1
      have ps : PSs (X.suite a ((a, oe4) :: (X.pn ++ pins))) [.Assign [.Name y yp] (.Name n ep) ap] (tAsg (tVar i) (gName j)) := pss_one (ps_asg (pe_var hi (.inl hln) dn cn) (pg_name hN hj (.inl hly) (.inr hly)) rfl)
      refine wpAny_mono (ps.run [] s5 _ H' { nx := fun σ6 H6 => σ6 = (σ'.set i (some (.ref a))).set j (some (.ref a)) ∧ H6 = H', rt := fun _ _ => False, bk := fun _ _ => False, ct := fun _ _ => False } S5 ⟨.ref a, by rw [List.getElem?_set_self il], rfl, rfl⟩) (fun f s6 hsp => ?_) (fun _ _ z => False.elim z)
      cases f with
      | next =>
        obtain ⟨σ6, H6, S6, rfl, rfl⟩ := hsp
        obtain ⟨p1, p2, p3, p4, p5⟩ := S6.pin (a, oe4) (by rw [List.append_nil]; exact List.mem_cons_self)
        have J6 : Inv X ((a, oe4) :: pins) _ H6 s6 := (S6.unsuite ok).pins_of fun q hq => by
          rcases List.mem_cons.mp hq with rfl | hq
          · exact ⟨p1, p2, p3, p4, p5⟩
          · exact (S6.unsuite ok).pin q (List.mem_append_right _ hq)
        refine gone_ok J6 hN hi hln fun s7 J7 => ?_
        have K7 : Inv X pins _ H6 s7 := J7.pins_of fun q hq => J7.pin q (List.mem_append_right _ (List.mem_cons_of_mem _ hq))
        have h7 := (J7.pin (a, oe4) (List.mem_append_right _ List.mem_cons_self)).1
        refine ⟨_, _, inv_track K7 h7 hz4 ⟨_, hd4⟩ n0 na nL fun q hq z => ?_, go a _ na⟩
        have := (J.pin q hq).1
        rw [z, nI] at this; cases this
      | brk =>
        obtain ⟨_, _, _, z⟩ := hsp
        exact z.elim
      | cont =>
        obtain ⟨_, _, _, z⟩ := hsp
        exact z.elim
      | ret u =>
        obtain ⟨_, _, _, _, _, z⟩ := hsp
        exact z.elim
    | false =>
      show wpAny _ X.A (handleBy (.ref a) X.env []) _ _ _
      refine wpAny_handleBy_nil ?_
      obtain ⟨k1, k2, k3, oe, vs, T, oT, ts', he, hz, hd, h1, hr⟩ := id fl3
      unfold PySem.passOn
      refine wpAny_bind (wpAny_field he hd h1 ?_)
      rw [if_neg (show ¬ ((Value.ref T == Value.none) = true) from by simp)]
      have fin : wpAny (model X.prog X.w) X.A (setFlight (.ref a) X.env.frame) (fun _ s4 => wpAny (model X.prog X.w) X.A (throw (.ref a) : Sem Flow) (SP X pins D) X.xe s4) X.xe { s' with heap := h3 } := by
        rw [hf]
        refine HandSPX.setFlight_upZ fl3 fun h4 hh4 up4 => wpAny_throw (tk _ _ ?_)
        exact ⟨a, B, sI, pins, σ', H', cls, d, rfl, J, nb, (up.trans up3).trans up4, .inr (.inr (by rw [hs]; exact hh4)), na, os, ag, no rfl⟩
      first
        | exact wpAny_bind (wpAny_pure (wpAny_bind fin))
        | exact wpAny_bind fin
  · cases f with
    | next =>
      obtain ⟨σ', H', J', q⟩ := q
      exact wpAny_execs_nil ⟨σ', H', J'.ofTry ok, q⟩
    | brk =>
      obtain ⟨σ', H', J', q⟩ := q
      exact ⟨σ', H', J'.ofTry ok, q⟩
    | cont =>
      obtain ⟨σ', H', J', q⟩ := q
      exact ⟨σ', H', J'.ofTry ok, q⟩
    | ret u =>
      obtain ⟨v, σ', H', J', r, q⟩ := q
      exact ⟨v, σ', H', J'.ofTry ok, r, q⟩
end
/-- a def's own context -/
structure Tr (X : Cx) : Prop where
  hs : X.stack = X.env :: X.outer
  hf : X.env.frame = some X.env.locals
  hx : X.ex = []
section
variable {G : Gd} {X : Cx} {C : Ctx} {k : Nat} {T : Tb} {N : List Str} {sc : Scope} {W : WX} {pn : List (Addr × Obj)} {xe : Value → Shared → Prop}
theorem Al.tr (al : Al G X C k T) : Al G (X.tr pn xe) C k T := ⟨⟨al.ck.K, al.ck.w, al.ck.calm, al.ck.un, al.ck.nd⟩, al.room, fun f hf => ⟨(al.fn f hf).ex⟩, al.con, al.blt, fun c hc => ⟨(al.err c hc).g, (al.err c hc).q, (al.err c hc).kp, (al.err c hc).s, (al.err c hc).t⟩, ⟨al.ob.mth⟩, fun c hc => ⟨(al.mkc c hc).g, (al.mkc c hc).cl, (al.mkc c hc).kp, (al.mkc c hc).ini⟩, al.fld, al.isb, al.sub⟩
theorem At.tr (a : At X N none sc) : At (X.tr pn xe) N none sc := ⟨a.hN, a.hsc, a.hfn, a.kd⟩
theorem Tr.tr (a : Tr X) : Tr (X.tr pn xe) := ⟨a.hs, a.hf, a.hx⟩
variable {x n y : Str} {cn : String} {i j : Nat} {body : List Stmt} {mbody : List S} {np ep yp ap pos pos' : Pos}
theorem tryV {hd : Hd} {ρ : Env} {h : Mi.Hp} : ex C (.tryy mbody cn hd) ρ h = (match exs C mbody ρ h with
    | .ex c' ρ1 h1 => (match C.sub c' cn with
      | some true => handle hd c' ρ1 h1
      | some false => .ex c' ρ1 h1
      | none => .bad)
    | r => r) := by rw [ex] <;> rfl
/-- what the clause makes of an error -/
theorem try_wish {hd : Hd} {K : PySem.W.Frag} {M : List Addr} {H : AH} {ρ : Env} {h : Mi.Hp} {N : Ends} {W' : WX} (hsub : ∀ a b t, C.sub a b = some t → PySem.W.exmOne K (.ref (G.cl a)) (.ref (G.cl b)) = some t)
    (g : GotF G W M H N (ex C (.tryy mbody cn hd) ρ h))
    (yes : ∀ c' ρ1 h1, GotF G W M H N (handle hd c' ρ1 h1) → ∀ M' H' σ', Post G M H M' h1 H' → EnvR G M' H' ρ1 σ' → PySem.W.exmOne K (.ref (G.cl c')) (.ref (G.cl cn)) = some true → W' (.ref (G.cl c')) none σ' H')
    (no : ∀ c' σ' H', PySem.W.exmOne K (.ref (G.cl c')) (.ref (G.cl cn)) = some false → W (.ref (G.cl c')) none σ' H' → W' (.ref (G.cl c')) none σ' H') : GotF G W' M H N (exs C mbody ρ h) := by
  rw [tryV] at g
  cases e : exs C mbody ρ h with
  | ex c' ρ1 h1 =>
    rw [e] at g
    cases q : C.sub c' cn with
    | none => simp only [q] at g; exact g.elim
    | some b =>
      have hb := hsub _ _ _ q
      cases b with
      | true => simp only [q] at g; exact fun M' H' σ' p er => yes c' ρ1 h1 g M' H' σ' p er hb
      | false => simp only [q] at g; exact fun M' H' σ' p er => no c' σ' H' hb (g M' H' σ' p er)
  | _ => rw [e] at g; exact g
theorem s_keep (al : Al G X C k T) (at_ : At X N none sc) (tr : Tr X) (tk : Takes X W) (hi : N[i]? = some n) (hj : N[j]? = some y) (hij : i ≠ j) (hln : sc.names.lookup n = some .local) (hly : sc.names.lookup y = some .local) (hc : Names X x (.ref (G.cl cn)))
    (dn : (n == ("__debug__" : Str)) = false) (dc : (n == ("__classdict__" : Str)) = false)
    (hb : ∀ (W : WX) (pn : List (Addr × Obj)) (xe : Value → Shared → Prop), Takes (X.tr pn xe) W → PassesOwn (model X.prog X.w) X.A X.env xe → PSs (X.tr pn xe) body (tS G W (exs C mbody))) :
    PS X (.Try body [.ExceptHandler (some (.Name x np)) (some n) [.Assign [.Name y yp] (.Name n ep) ap] pos'] [] [] pos) (tS G W (ex C (.tryy mbody cn (.keep i j)))) := by
  have key := ps_keep (Wout := W) (tb := fun W => tS G W (exs C mbody)) (i := i) (j := j) (n := n) (y := y) (np := np) (ep := ep) (yp := yp) (ap := ap) (pos := pos) (pos' := pos') tr.hs tr.hf al.ck.nd (by rw [at_.hN]; exact hi) (by rw [at_.hN]; exact hj)
    (by show X.env.scope.names.lookup n = _; rw [at_.hsc]; exact hln) (by show X.env.scope.names.lookup y = _; rw [at_.hsc]; exact hly) hc tr.hx tk dn dc hb
  refine ⟨fun pins s σ H D I ⟨M, h, ρ, er, hr, g⟩ => key.run pins s σ H D I ⟨M, h, ρ, er, hr, ?_⟩⟩
  refine try_wish (K := X.K) al.sub g (fun c' ρ1 h1 g1 M' H' σ' p er' hb => ⟨true, hb, fun _ => ⟨rfl, _, rfl, fun a oe na => ?_⟩, fun z => (nomatch z)⟩) fun c' σ' H' hb w => ⟨false, hb, fun z => (nomatch z), fun _ => w⟩
  have P := Post.lay (G := G) (u := .frz oe (exHO (G.cl c') a)) p.hr na
  obtain ⟨l, er2⟩ := er'.mono p.hr P
  refine g1 M' _ _ (p.trans hr P) ⟨by simpa using l, fun m d hm => ?_⟩
  by_cases hmj : m = j
  · subst hmj
    have lj : m < ρ1.length := by
      have := (List.getElem?_eq_some_iff.mp hm).1
      simpa using this
    rw [List.getElem?_set_self (by simpa using lj)] at hm
    cases hm
    refine ⟨.ref a, ?_, a, oe, rfl, upd_same⟩
    rw [List.getElem?_set_ne hij, List.getElem?_set_self (by rw [List.length_set, ← l]; exact lj)]
  · rw [List.getElem?_set_ne (Ne.symm hmj)] at hm
    by_cases hmi : m = i
    · subst hmi
      by_cases lm : m < ρ1.length
      · rw [List.getElem?_set_self lm] at hm; cases hm
      · rw [List.getElem?_eq_none (by simp; omega)] at hm; cases hm
    · rw [List.getElem?_set_ne (Ne.symm hmi)] at hm
      obtain ⟨v, e1, e2⟩ := er2 m d hm
      exact ⟨v, by rw [List.getElem?_set_ne (Ne.symm hmi), List.getElem?_set_ne (Ne.symm hmj), List.getElem?_set_ne (Ne.symm hmi)]; exact e1, e2⟩
theorem s_retv (al : Al G X C k T) (at_ : At X N none sc) (tr : Tr X) (tk : Takes X W) (hj : N[j]? = some y) (hv : Vis X.env.scope y) (hc : Names X x (.ref (G.cl cn)))
    (dy : (y == ("__debug__" : Str)) = false) (dc : (y == ("__classdict__" : Str)) = false)
    (hb : ∀ (W : WX) (pn : List (Addr × Obj)) (xe : Value → Shared → Prop), Takes (X.tr pn xe) W → PassesOwn (model X.prog X.w) X.A X.env xe → PSs (X.tr pn xe) body (tS G W (exs C mbody))) :
    PS X (.Try body [.ExceptHandler (some (.Name x np)) none [.Return (some (.Name y yp)) ap] pos'] [] [] pos) (tS G W (ex C (.tryy mbody cn (.retv j)))) := by
  have key := ps_try_only (Wout := W) (tb := fun W => tS G W (exs C mbody)) (x := x) (np := np) (pos := pos) (pos' := pos') (b₀ := .Return (some (.Name y yp)) ap) (suite := []) (ts := fun _ _ _ => tRet (tVar j)) tr.hs tr.hf hc tk hb
    (fun a oe cls d pn _ _ => pss_one (ps_ret (pe_var (by rw [at_.hN]; exact hj) hv dy dc)))
  refine ⟨fun pins s σ H D I ⟨M, h, ρ, er, hr, g⟩ => key.run pins s σ H D I ⟨M, h, ρ, er, hr, ?_⟩⟩
  refine try_wish (K := X.K) al.sub g (fun c' ρ1 h1 g1 M' H' σ' p er' hb => ⟨true, hb, fun _ a na => ?_, fun z => (nomatch z)⟩) fun c' σ' H' hb w => ⟨false, hb, fun z => (nomatch z), fun _ => w⟩
  have g1 : GotF G W M H D (match ρ1[j]? with
    | some (some d) => .rt d h1
    | _ => .bad) := g1
  cases q : ρ1[j]? with
  | none => rw [q] at g1; exact g1.elim
  | some o =>
    cases o with
    | none => rw [q] at g1; exact g1.elim
    | some d =>
      rw [q] at g1
      obtain ⟨v, e1, e2⟩ := er'.2 j d q
      exact ⟨v, e1, g1 M' H' v p e2.rd⟩
theorem s_tcont (al : Al G X C k T) (tr : Tr X) (tk : Takes X W) (hc : Names X x (.ref (G.cl cn)))
    (hb : ∀ (W : WX) (pn : List (Addr × Obj)) (xe : Value → Shared → Prop), Takes (X.tr pn xe) W → PassesOwn (model X.prog X.w) X.A X.env xe → PSs (X.tr pn xe) body (tS G W (exs C mbody))) :
    PS X (.Try body [.ExceptHandler (some (.Name x np)) none [.Continue ap] pos'] [] [] pos) (tS G W (ex C (.tryy mbody cn .cont))) := by
  have key := ps_try_only (Wout := W) (tb := fun W => tS G W (exs C mbody)) (x := x) (np := np) (pos := pos) (pos' := pos') (b₀ := .Continue ap) (suite := []) (ts := fun _ _ _ => fun D σ H => D.ct σ H) tr.hs tr.hf hc tk hb
    (fun a oe cls d pn _ _ => pss_one ps_continue)
  refine ⟨fun pins s σ H D I ⟨M, h, ρ, er, hr, g⟩ => key.run pins s σ H D I ⟨M, h, ρ, er, hr, ?_⟩⟩
  exact try_wish (K := X.K) al.sub g (fun c' ρ1 h1 g1 M' H' σ' p er' hb => ⟨true, hb, fun _ a na => g1 M' H' σ' p er', fun z => (nomatch z)⟩) fun c' σ' H' hb w => ⟨false, hb, fun z => (nomatch z), fun _ => w⟩
end
end Mi

/-! statements: the check, and what it gives -/
namespace Mi
open PySem PySem.Spec PyProof.Rows L2

def allS (f : Stmt → S → Bool) : List Stmt → List S → Bool
  | [], [] => true
  | e :: es, m :: ms => f e m && allS f es ms
  | _, _ => false
def noSwapB (tg v : Expr) : Bool := match tg with
  | .Tuple ts _ _ => (match v with
    | .Tuple _ _ _ => !(ts.length == 2 || ts.length == 3)
    | _ => true)
  | .List _ _ => false
  | _ => true
theorem noSwapS {tg v : Expr} {env : PySem.Env} (h : noSwapB tg v = true) : swappedStores [tg] v env = pure none := by
  cases tg with
  | Tuple ts k p =>
    cases v with
    | Tuple vs k2 p2 =>
      have h := nn (show (!(ts.length == 2 || ts.length == 3)) = true from h)
      unfold swappedStores
      simp only [h]
      rfl
    | _ => rfl
  | List _ _ => exact ff h
  | _ => rfl
/-- is a comprehension's list stored before its names go? -/
def swB (sc : Scope) (y : Str) (p : Pos) (v : Expr) : Bool := match v with
  | .ListComp _ _ s vp => decide (sc.names.lookup y = some .local) && (p.line == vp.line) && !(s.names.any fun (n, k) => n == y && (k == .local || k == .cell))
  | _ => false
def lcB : Expr → Bool
  | .ListComp .. => true
  | _ => false
/-- plain stores -/
def plainStB (sc : Scope) (tg v : Expr) : Bool := !compB v || (lcB v && (match tg with
  | .Name y p => !swB sc y p v
  | _ => true))
theorem swap_of {X : Cx} {N : List Str} {bs : Option Scope} {sc : Scope} {y : Str} {p vp : Pos} {ee : Expr} {g : List Comprehension} {s : Scope} {l : Nat} (at_ : At X N bs sc) :
    swapsWith (.ListComp ee g s vp) (some (.Name y p)) l X.env = pure (swB sc y p (.ListComp ee g s vp)) := by
  have hb : X.env.blockKind = .function := by
    unfold PySem.Env.blockKind
    rw [at_.hsc, at_.kd] <;> rfl
  have hk : X.env.kindOf y = sc.names.lookup y := by
    show X.env.scope.names.lookup y = _
    rw [at_.hsc]
  unfold swapsWith swB
  simp only [pure_bind, hb, hk]
  congr 1
  have e1 : (sc.names.lookup y == some NameKind.local) = decide (sc.names.lookup y = some .local) := by rw [Bool.eq_iff_iff, beq_iff_eq, decide_eq_true_eq]
  simp [e1]
  rfl
theorem plainSt {X : Cx} {N : List Str} {bs : Option Scope} {sc : Scope} {tg v : Expr} {l : Nat} (at_ : At X N bs sc) (h : plainStB sc tg v = true) : swapsWithSole [tg] v l X.env = pure false := by
  show swapsWith v (some tg) l X.env = pure false
  unfold plainStB at h
  rw [Bool.or_eq_true] at h
  rcases h with h | h
  · exact noSwap (nn h)
  · obtain ⟨h1, h2⟩ := bb h
    cases v with
    | ListComp ee g s vp =>
      cases tg with
      | Name y p =>
        rw [swap_of at_, nn h2]
      | _ => rfl
    | _ => exact ff h1
/-- names one by one -/
def par2B (N : List Str) (sc : Scope) (ts vs : List Expr) (is : List Nat) : Bool := match ts, vs, is with
  | [.Name x px, .Name y py], [a, b], [i, j] => decide (N[i]? = some x) && decide (N[j]? = some y) && decide (i ≠ j) && decide (sc.names.lookup x = some .local) && decide (sc.names.lookup y = some .local) && decide (px.line = py.line) && decide (x ≠ y) &&
    !starB a && !starB b && !([a, b].all (foldedForSure 8)) && !([a, b].all (constantsAlone 8))
  | _, _, _ => false
def par2T (N : List Str) (sc : Scope) (f : Expr → E → Bool) (tg v : Expr) (t : Tg) (e : E) : Bool := match tg, v with
  | .Tuple ts _ _, .Tuple vs _ _ => (match t, e with
    | .t is, .tup ms => par2B N sc ts vs is && allB2 f vs ms
    | _, _ => false)
  | _, _ => false
theorem par2_sw {X : Cx} {N : List Str} {bs : Option Scope} {sc : Scope} (at_ : At X N bs sc) {x y : Str} {px py pt pt2 : Pos} {kt k2 : Nat} {a b : Expr} (hx : sc.names.lookup x = some .local) (hy : sc.names.lookup y = some .local) (hl : px.line = py.line) (hne : x ≠ y)
    (sa : starB a = false) (sb : starB b = false) (h1 : [a, b].all (foldedForSure 8) = false) (h2 : [a, b].all (constantsAlone 8) = false) :
    swappedStores [.Tuple [.Name x px, .Name y py] kt pt] (.Tuple [a, b] k2 pt2) X.env = pure (some [x, y]) := by
  have hb : X.env.blockKind = .function := by
    unfold PySem.Env.blockKind
    rw [at_.hsc, at_.kd] <;> rfl
  have kx : X.env.kindOf x = some .local := by
    show X.env.scope.names.lookup x = _
    rw [at_.hsc, hx]
  have ky : X.env.kindOf y = some .local := by
    show X.env.scope.names.lookup y = _
    rw [at_.hsc, hy]
  have st : ([a, b].any fun | .Starred .. => true | _ => false) = false := by
    rw [List.any_eq_false]
    intro e he q
    have e1 : starB e = false := by
      rcases List.mem_cons.mp he with rfl | he
      · exact sa
      · rw [List.mem_singleton.mp he]; exact sb
    exact absurd (q.symm.trans e1) (by decide)
  have ed : [x, y].eraseDups = [x, y] := by
    have : (y == x) = false := by simpa using Ne.symm hne
    simp [List.eraseDups_cons, this]
  have fm : ([.Name x px, .Name y py] : List Expr).filterMap (fun
    | .Name id pos => if X.env.kindOf id == some .local && pos.line == (([.Name x px, .Name y py] : List Expr).head?.map (·.pos.line)).getD 0 then some id else none
    | _ => none) = [x, y] := by
    have e1 : (X.env.kindOf x == some .local && px.line == px.line) = true := by rw [kx]; simp
    have e2 : (X.env.kindOf y == some .local && py.line == px.line) = true := by rw [ky, hl]; simp
    show (([.Name x px, .Name y py] : List Expr).filterMap (fun
    | .Name id pos => if X.env.kindOf id == some .local && pos.line == px.line then some id else none
    | _ => none)) = [x, y]
    simp only [List.filterMap_cons, List.filterMap_nil, e1, e2, if_true]
  unfold swappedStores
  show (if (!(([.Name x px, .Name y py] : List Expr).length == 2 || ([.Name x px, .Name y py] : List Expr).length == 3) || [a, b].length != ([.Name x px, .Name y py] : List Expr).length || X.env.blockKind != .function) = true then pure none else _) = _
  rw [if_neg (by rw [hb]; simp)]
  show (if ([a, b].any fun | .Starred .. => true | _ => false) = true then pure none else _) = _
  rw [if_neg (by rw [st]; decide)]
  have key : ∀ nm : List Str, nm = [x, y] → (if (nm.length != ([.Name x px, .Name y py] : List Expr).length || nm.eraseDups.length != nm.length) = true then pure none else
      if [a, b].all (foldedForSure 8) = true then pure none else if [a, b].all (constantsAlone 8) = true then (do
        let _ ← (unsupported "assign.tuple-of-constant-expressions:order-of-the-stores" : Sem PUnit)
        pure (some nm)) else pure (some nm) : Sem (Option (List Str))) = pure (some [x, y]) := fun nm e => by
    subst e
    rw [if_neg (by rw [ed]; simp), if_neg (by rw [h1]; decide), if_neg (by rw [h2]; decide)]
  exact key _ fm
def swcB (N : List Str) (sc : Scope) (tg v : Expr) (t : Tg) : Bool := match tg with
  | .Name y p => (match t with
    | .v i => swB sc y p v && decide (N[i]? = some y)
    | _ => false)
  | _ => false
def suB (N : List Str) (sc : Scope) (hd : Hd) (nm : Option Str) (su : List Stmt) : Bool := match hd with
  | .keep i j => (match nm, su with
    | some n, [.Assign [.Name y _] (.Name m _) _] => decide (m = n) && decide (N[i]? = some n) && decide (N[j]? = some y) && decide (i ≠ j) && decide (sc.names.lookup n = some .local) && decide (sc.names.lookup y = some .local) && nameB n
    | _, _ => false)
  | .retv j => (match nm, su with
    | none, [.Return (some (.Name y _)) _] => decide (N[j]? = some y) && visB sc y && nameB y
    | _, _ => false)
  | .cont => (match nm, su with
    | none, [.Continue _] => true
    | _, _ => false)
def hdsB (T : Tb) (N : List Str) (sc : Scope) (c : String) (hd : Hd) : List ExceptHandler → Bool
  | [.ExceptHandler (some (.Name x _)) nm su _] => decide (x = Str.ofString c) && decide (T.lookup x = some .err) && gloB sc x && nameB x && suB N sc hd nm su
  | _ => false
def chkS (T : Tb) (N : List Str) (fe : Nat) : Nat → Scope → Stmt → S → Bool
  | 0, _, _, _ => false
  | n + 1, sc, st, ms => (match ms with
    | .asg t e => (match st with
      | .Assign tgs v _ => (match tgs with
        | [tg] => (plainStB sc tg v && noSwapB tg v && tgB N none sc tg t || swcB N sc tg v t) && chk T N fe false none sc v e || par2T N sc (chk T N fe false none sc) tg v t e
        | _ => false)
      | _ => false)
    | .sset o i e => (match st with
      | .Assign tgs v _ => (match tgs with
        | [tg] => (match tg with
          | .Subscript eo ei _ => plainStB sc tg v && chk T N fe false none sc eo o && chk T N fe false none sc ei i && chk T N fe false none sc v e
          | _ => false)
        | _ => false)
      | _ => false)
    | .fset o f e => (match st with
      | .Assign tgs v _ => (match tgs with
        | [tg] => (match tg with
          | .Attribute eo x _ => plainStB sc tg v && decide (x = Str.ofString f) && decide (T.lookup (Str.ofString ("." ++ f)) = some .fld) && chk T N fe false none sc eo o && chk T N fe false none sc v e
          | _ => false)
        | _ => false)
      | _ => false)
    | .ex e => (match st with
      | .Expr v _ => !compB v && chk T N fe false none sc v e
      | _ => false)
    | .ret e => (match st with
      | .Return v _ => (match v with
        | some v => chk T N fe false none sc v e
        | none => false)
      | _ => false)
    | .ite c a b => (match st with
      | .If c' sa sb _ => chk T N fe true none sc c' c && allS (chkS T N fe n sc) sa a && allS (chkS T N fe n sc) sb b
      | _ => false)
    | .forr t k a b body => (match st with
      | .For tg it sb els _ => els.isEmpty && !setB it && itB T (chk T N fe false none sc) sc k a b tg it && tgB N none sc tg t && allS (chkS T N fe n sc) sb body
      | _ => false)
    | .whil c body => (match st with
      | .While c' sb els _ => els.isEmpty && chk T N fe true none sc c' c && allS (chkS T N fe n sc) sb body
      | _ => false)
    | .brk => (match st with
      | .Break _ => true
      | _ => false)
    | .cnt => (match st with
      | .Continue _ => true
      | _ => false)
    | .pass => (match st with
      | .Pass _ => true
      | _ => false)
    | .raise c => (match st with
      | .Raise ex cause _ => (match ex, cause with
        | some ex, none => (match ex with
          | .Call fn args kws _ => (match fn, args, kws with
            | .Name x _, [a], [] => (match a with
              | .Constant cc _ _ => (match cc with
                | .str _ => gloB sc x && decide (x = Str.ofString c) && decide (T.lookup x = some .err) && nameB x
                | _ => false)
              | _ => false)
            | _, _, _ => false)
          | _ => false)
        | _, _ => false)
      | _ => false)
    | .tryy b c hd => (match st with
      | .Try body hds els fin _ => els.isEmpty && fin.isEmpty && allS (chkS T N fe n sc) body b && hdsB T N sc c hd hds
      | _ => false))

section
variable {G : Gd} {C : Ctx} {k : Nat} {T : Tb} {N : List Str} {sc : Scope} {X : Cx} {W : WX} {fe : Nat}
theorem body_ok {f : Stmt → S → Bool} (ih : ∀ st ms, f st ms = true → PS X st (tS G W (ex C ms))) : ∀ {sts : List Stmt} {mss : List S}, allS f sts mss = true → PSs X sts (tS G W (exs C mss))
  | [], [], _ => s_nil
  | [], _ :: _, h => ff h
  | _ :: _, [], h => ff h
  | st :: sts, m :: ms, h => by
    obtain ⟨h1, h2⟩ := bb (show (f st m && allS f sts ms) = true from h)
    exact s_cons (ih st m h1) (body_ok ih h2)
theorem lc_store (al : Al G X C k T) (at_ : At X N none sc) (tk : Takes X W) {v : Expr} {e : E} {i : Nat} {y : Str} {p spos : Pos} (hsw : swB sc y p v = true) (hy : N[i]? = some y) (h : chk T N fe false none sc v e = true) : PS X (.Assign [.Name y p] v spos) (tS G W (ex C (.asg (.v i) e))) := by
  cases v with
  | ListComp ee gens scope vp =>
    have hl : sc.names.lookup y = some .local := dd (bb (bb (show (decide (sc.names.lookup y = some .local) && (p.line == vp.line) && !(scope.names.any fun (n, k) => n == y && (k == .local || k == .cell))) = true from hsw)).1).1
    cases fe with
    | zero => exact ff h
    | succ n =>
    cases e with
    | comp own t k' a b c el =>
      obtain ⟨tg, it, ifs, rfl, h⟩ := comp_inv h
      obtain ⟨hi, ok, hk, hg, ht, he, hs, hsl⟩ := compP (W := W) (fun G C k X W bs sc e m => chk_ok (T := T) (N := N) n G C k X W bs sc e m) al at_ tk h
      have e1 := own_map (N := N) own
      have := s_setc (G := G) (W := W) (C := C) (i := i) (y := y) (py := p) (spos := spos) (pos := vp) (own := own.map fun i => ((N[i]?).getD Str.empty, i)) (t := t) (k := k') (ma := a) (mb := b) (mc := c) (mo := el) al.ck (by rw [at_.hN]; exact hy) (by rw [at_.hsc]; exact hl)
        ((swap_of at_).trans (by rw [hsw])) hi ok hg ht he hs (by rw [e1]; exact hsl)
      rw [e1] at this
      exact this
    | _ => first | exact ff h | (rename_i kk _ _; cases kk <;> exact ff h)
  | _ => exact ff hsw
theorem hdsB_ok {c : String} {hd : Hd} {hds : List ExceptHandler} (h : hdsB T N sc c hd hds = true) : ∃ x np nm su hp, hds = [.ExceptHandler (some (.Name x np)) nm su hp] ∧ x = Str.ofString c ∧ T.lookup x = some .err ∧ gloB sc x = true ∧ nameB x = true ∧ suB N sc hd nm su = true := by
  unfold hdsB at h
  split at h
  · rename_i x np nm su hp
    obtain ⟨h, h5⟩ := bb h
    obtain ⟨h, h4⟩ := bb h
    obtain ⟨h, h3⟩ := bb h
    obtain ⟨h1, h2⟩ := bb h
    exact ⟨x, np, nm, su, hp, rfl, dd h1, dd h2, h3, h4, h5⟩
  · cases h
theorem suB_keep {i j : Nat} {nm : Option Str} {su : List Stmt} (h : suB N sc (.keep i j) nm su = true) : ∃ n y yp ep ap, nm = some n ∧ su = [.Assign [.Name y yp] (.Name n ep) ap] ∧ N[i]? = some n ∧ N[j]? = some y ∧ i ≠ j ∧ sc.names.lookup n = some .local ∧ sc.names.lookup y = some .local ∧ nameB n = true := by
  unfold suB at h
  simp only at h
  split at h
  · obtain ⟨h, h7⟩ := bb h
    obtain ⟨h, h6⟩ := bb h
    obtain ⟨h, h5⟩ := bb h
    obtain ⟨h, h4⟩ := bb h
    obtain ⟨h, h3⟩ := bb h
    obtain ⟨h1, h2⟩ := bb h
    obtain rfl := dd h1
    exact ⟨_, _, _, _, _, rfl, rfl, dd h2, dd h3, dd h4, dd h5, dd h6, h7⟩
  · cases h
theorem suB_retv {j : Nat} {nm : Option Str} {su : List Stmt} (h : suB N sc (.retv j) nm su = true) : ∃ y yp ap, nm = none ∧ su = [.Return (some (.Name y yp)) ap] ∧ N[j]? = some y ∧ visB sc y = true ∧ nameB y = true := by
  unfold suB at h
  simp only at h
  split at h
  · obtain ⟨h, h3⟩ := bb h
    obtain ⟨h1, h2⟩ := bb h
    exact ⟨_, _, _, rfl, rfl, dd h1, h2, h3⟩
  · cases h
theorem suB_cont {nm : Option Str} {su : List Stmt} (h : suB N sc .cont nm su = true) : ∃ ap, nm = none ∧ su = [.Continue ap] := by
  unfold suB at h
  simp only at h
  split at h
  · exact ⟨_, rfl, rfl⟩
  · cases h
theorem chkS_ok0 : ∀ (n : Nat) {X : Cx} {W : WX} (al : Al G X C k T) (at_ : At X N none sc) (tr : Tr X) (tk : Takes X W) (po : PassesOwn (model X.prog X.w) X.A X.env X.xe) (st : Stmt) (ms : S), chkS T N fe n sc st ms = true → PS X st (tS G W (ex C ms))
  | 0, _, _, _, _, _, _, _, _, _, h => ff h
  | n + 1, X, W, al, at_, tr, tk, po, st, ms, h => by
    have ih := chkS_ok0 n al at_ tr tk po
    have iE : ∀ e m, chk T N fe false none sc e m = true → PE X e (tO G W (ev C m)) := fun e m => (chk_ok fe G C k X W none sc e m al at_ tk).1
    have iT : ∀ e m, chk T N fe true none sc e m = true → PT X e (tT G W (cnd C m)) := fun e m => (chk_ok fe G C k X W none sc e m al at_ tk).2
    have ck := al.ck
    cases ms with
    | asg t e =>
      cases st with
      | Assign tgs v p =>
        match tgs, h with
        | [tg], h =>
          have h : ((plainStB sc tg v && noSwapB tg v && tgB N none sc tg t || swcB N sc tg v t) && chk T N fe false none sc v e || par2T N sc (chk T N fe false none sc) tg v t e) = true := h
          rw [Bool.or_eq_true] at h
          rcases h with h | h
          · obtain ⟨h1, h2⟩ := bb h
            rw [Bool.or_eq_true] at h1
            rcases h1 with h1 | h1
            · obtain ⟨h1, h5⟩ := bb h1
              obtain ⟨h3, h4⟩ := bb h1
              have hst : starB tg = false := by
                cases tg with
                | Starred _ _ => cases t <;> exact ff h5
                | _ => rfl
              refine s_asg (tg_ok ck at_ h5) (iE _ _ h2) (plainSt at_ h3) (noSwapS h4) ?_
              cases tg <;> first | rfl | cases hst
            · cases tg with
              | Name y py =>
                cases t with
                | v i =>
                  obtain ⟨q1, q2⟩ := bb (show (swB sc y py v && decide (N[i]? = some y)) = true from h1)
                  exact lc_store al at_ tk q1 (dd q2) h2
                | _ => exact ff h1
              | _ => exact ff h1
          · cases tg with
            | Tuple ts kt pt =>
              cases v with
              | Tuple vs k2 pt2 =>
                cases t with
                | t is =>
                  cases e with
                  | tup ms =>
                    obtain ⟨h1, h2⟩ := bb (show (par2B N sc ts vs is && allB2 (chk T N fe false none sc) vs ms) = true from h)
                    match ts, vs, is, h1 with
                    | [.Name x px, .Name y py], [a, b], [i, j], h1 =>
                      obtain ⟨h1, g11⟩ := bb h1
                      obtain ⟨h1, g10⟩ := bb h1
                      obtain ⟨h1, g9⟩ := bb h1
                      obtain ⟨h1, g8⟩ := bb h1
                      obtain ⟨h1, g7⟩ := bb h1
                      obtain ⟨h1, g6⟩ := bb h1
                      obtain ⟨h1, g5⟩ := bb h1
                      obtain ⟨h1, g4⟩ := bb h1
                      obtain ⟨h1, g3⟩ := bb h1
                      obtain ⟨g1, g2⟩ := bb h1
                      have hA : PA X [a, b] (tA G W (evs C ms)) := args_ok (W := W) (X := X) (C := C) iE (by simp [nn g8, nn g9]) h2
                      exact s_par2 ck (by rw [at_.hN]; exact dd g1) (by rw [at_.hN]; exact dd g2) (dd g3) (by rw [at_.hsc]; exact dd g4) (by rw [at_.hsc]; exact dd g5) hA (par2_sw at_ (dd g4) (dd g5) (dd g6) (dd g7) (nn g8) (nn g9) (nn g10) (nn g11))
                  | _ => exact ff h
                | _ => exact ff h
              | _ => exact ff h
            | _ => exact ff h
        | [], h => exact ff h
        | _ :: _ :: _, h => exact ff h
      | _ => exact ff h
    | sset o i e =>
      cases st with
      | Assign tgs v p =>
        match tgs, h with
        | [tg], h =>
          cases tg with
          | Subscript eo ei q =>
            obtain ⟨h, h4⟩ := bb (show (plainStB sc (.Subscript eo ei q) v && chk T N fe false none sc eo o && chk T N fe false none sc ei i && chk T N fe false none sc v e) = true from h)
            obtain ⟨h, h3⟩ := bb h
            obtain ⟨h1, h2⟩ := bb h
            exact s_sset ck (iE _ _ h2) (iE _ _ h3) (iE _ _ h4) (plainSt (l := p.line) at_ h1)
          | _ => exact ff h
        | [], h => exact ff h
        | _ :: _ :: _, h => exact ff h
      | _ => exact ff h
    | fset o f e =>
      cases st with
      | Assign tgs v p =>
        match tgs, h with
        | [tg], h =>
          cases tg with
          | Attribute eo x q =>
            obtain ⟨h, h5⟩ := bb (show (plainStB sc (.Attribute eo x q) v && decide (x = Str.ofString f) && decide (T.lookup (Str.ofString ("." ++ f)) = some .fld) && chk T N fe false none sc eo o && chk T N fe false none sc v e) = true from h)
            obtain ⟨h, h4⟩ := bb h
            obtain ⟨h, h3⟩ := bb h
            obtain ⟨h1, h2⟩ := bb h
            exact s_fset ck (dd h2) (al.fld f (dd h3)) (iE _ _ h4) (iE _ _ h5) (plainSt (l := p.line) at_ h1)
          | _ => exact ff h
        | [], h => exact ff h
        | _ :: _ :: _, h => exact ff h
      | _ => exact ff h
    | ex e =>
      cases st with
      | Expr v p =>
        obtain ⟨h1, h2⟩ := bb (show (!compB v && chk T N fe false none sc v e) = true from h)
        exact s_ex (iE _ _ h2) (noSwap (nn h1))
      | _ => exact ff h
    | ret e =>
      cases st with
      | Return v p =>
        match v, h with
        | some v, h => exact s_ret (iE _ _ h)
        | none, h => exact ff h
      | _ => exact ff h
    | ite c a b =>
      cases st with
      | If c' sa sb p =>
        obtain ⟨h, h3⟩ := bb (show (chk T N fe true none sc c' c && allS (chkS T N fe n sc) sa a && allS (chkS T N fe n sc) sb b) = true from h)
        obtain ⟨h1, h2⟩ := bb h
        exact s_ite (iT _ _ h1) (body_ok ih h2) (body_ok ih h3)
      | _ => exact ff h
    | forr t k' a b body =>
      cases st with
      | For tg it sb els p =>
        obtain ⟨h, h5⟩ := bb (show (els.isEmpty && !setB it && itB T (chk T N fe false none sc) sc k' a b tg it && tgB N none sc tg t && allS (chkS T N fe n sc) sb body) = true from h)
        obtain ⟨h, h4⟩ := bb h
        obtain ⟨h, h3⟩ := bb h
        obtain ⟨h1, h2⟩ := bb h
        obtain rfl := List.isEmpty_iff.mp h1
        exact s_for ck po (it_ok al at_ iE h3) (tg_ok ck at_ h4) (body_ok ih h5) (noSet (nn h2))
      | _ => exact ff h
    | whil c body =>
      cases st with
      | While c' sb els p =>
        obtain ⟨h, h3⟩ := bb (show (els.isEmpty && chk T N fe true none sc c' c && allS (chkS T N fe n sc) sb body) = true from h)
        obtain ⟨h1, h2⟩ := bb h
        obtain rfl := List.isEmpty_iff.mp h1
        exact s_while po (iT _ _ h2) (body_ok ih h3)
      | _ => exact ff h
    | brk =>
      cases st with
      | Break p => exact s_brk
      | _ => exact ff h
    | cnt =>
      cases st with
      | Continue p => exact s_cnt
      | _ => exact ff h
    | pass =>
      cases st with
      | Pass p => exact s_pass
      | _ => exact ff h
    | raise c =>
      cases st with
      | Raise ex cause p =>
        match ex, cause, h with
        | some ex, none, h =>
          cases ex with
          | Call fn args kws q =>
            match fn, args, kws, h with
            | .Name x px, [a], [], h =>
              cases a with
              | Constant cc j p2 =>
                cases cc with
                | str z =>
                  obtain ⟨h, h4⟩ := bb (show (gloB sc x && decide (x = Str.ofString c) && decide (T.lookup x = some .err) && nameB x) = true from h)
                  obtain ⟨h, h3⟩ := bb h
                  obtain ⟨h1, h2⟩ := bb h
                  obtain rfl := dd h2
                  exact s_raise (pos' := p) ck tk (al.err c (dd h3)) (glo_ok' at_ h1) (name_ok h4).1
                | _ => exact ff h
              | _ => exact ff h
            | .Name _ _, [], _, h => exact ff h
            | .Name _ _, _ :: _ :: _, _, h => exact ff h
            | .Name _ _, [_], _ :: _, h => exact ff h
            | .BoolOp .., _, _, h | .NamedExpr .., _, _, h | .BinOp .., _, _, h | .UnaryOp .., _, _, h | .Lambda .., _, _, h | .IfExp .., _, _, h | .Dict .., _, _, h | .Set .., _, _, h | .ListComp .., _, _, h | .SetComp .., _, _, h | .DictComp .., _, _, h | .GeneratorExp .., _, _, h | .Await .., _, _, h | .Yield .., _, _, h | .YieldFrom .., _, _, h | .Compare .., _, _, h | .Call .., _, _, h | .FormattedValue .., _, _, h | .JoinedStr .., _, _, h | .Constant .., _, _, h | .Attribute .., _, _, h | .Subscript .., _, _, h | .Starred .., _, _, h | .List .., _, _, h | .Tuple .., _, _, h | .Slice .., _, _, h => exact ff h
          | _ => exact ff h
        | none, _, h => exact ff h
        | some _, some _, h => exact ff h
      | _ => exact ff h
    | tryy b c hd =>
      cases st with
      | Try body hds els fin p =>
        obtain ⟨h, h4⟩ := bb (show (els.isEmpty && fin.isEmpty && allS (chkS T N fe n sc) body b && hdsB T N sc c hd hds) = true from h)
        obtain ⟨h, h3⟩ := bb h
        obtain ⟨h1, h2⟩ := bb h
        obtain rfl := List.isEmpty_iff.mp h1
        obtain rfl := List.isEmpty_iff.mp h2
        have hb : ∀ (W : WX) (pn : List (Addr × Obj)) (xe : Value → Shared → Prop), Takes (X.tr pn xe) W → PassesOwn (model X.prog X.w) X.A X.env xe → PSs (X.tr pn xe) body (tS G W (exs C b)) := fun W' pn xe tk' po' => body_ok (chkS_ok0 n (X := X.tr pn xe) (W := W') al.tr at_.tr tr.tr tk' po') h3
        obtain ⟨x, np, nm, su, hp, rfl, rfl, g2, g3, g4, g5⟩ := hdsB_ok h4
        have nms : Names X (Str.ofString c) (.ref (G.cl c)) := ⟨glo_ok' at_ g3, (name_ok g4).1, .inl (al.err c g2).g⟩
        cases hd with
        | keep i j =>
          obtain ⟨n', y, yp, ep, ap, rfl, rfl, q1, q2, q3, q4, q5, q6⟩ := suB_keep g5
          exact s_keep al at_ tr tk q1 q2 q3 q4 q5 nms (name_ok q6).1 (name_ok q6).2 hb
        | retv j =>
          obtain ⟨y, yp, ap, rfl, rfl, q1, q2, q3⟩ := suB_retv g5
          exact s_retv al at_ tr tk q1 (vis_ok at_ q2) nms (name_ok q3).1 (name_ok q3).2 hb
        | cont =>
          obtain ⟨ap, rfl, rfl⟩ := suB_cont g5
          exact s_tcont al tr tk nms hb
      | _ => exact ff h
theorem chkS_ok (al : Al G X C k T) (at_ : At X N none sc) (tr : Tr X) (tk : Takes X W) (po : PassesOwn (model X.prog X.w) X.A X.env X.xe) (n : Nat) (st : Stmt) (ms : S) (h : chkS T N fe n sc st ms = true) : PS X st (tS G W (ex C ms)) := chkS_ok0 n al at_ tr tk po st ms h
end
end Mi

/-! a whole program: each def runs as Mini tells -/
namespace Mi
open PySem PySem.Spec PyProof.Rows L2

def Pt.tb (p : Pt) : Tb := (p.fns.filter fun i => decide (i.cls = "")).map (fun i => (Str.ofString i.name, GK.fn)) ++ (p.cons.map (fun c => (Str.ofString c.1, GK.con)) ++ (p.errs.map (fun c => (Str.ofString c, GK.err)) ++ (p.blts.map (fun b => (b, GK.blt)) ++ (p.clss.map (fun c => (Str.ofString c, GK.cls)) ++ p.flds.map fun f => (Str.ofString ("." ++ f), GK.fld)))))
def gloFB (fa : List He.Fa) (x : Str) : Bool := fa.any fun f => match f with
  | .glo y => decide (y = x)
  | _ => false
def excFB (fa : List He.Fa) (x : Str) : Bool := fa.any fun f => match f with
  | .exc y => decide (y = x)
  | _ => false
def freeFB (fa : List He.Fa) (x : Str) : Bool := fa.any fun f => match f with
  | .free y => decide (y = x)
  | _ => false
def clsFB (fa : List He.Fa) (x : Str) : Bool := fa.any fun f => match f with
  | .cls y => decide (y = x)
  | _ => false
def mkrFB (fa : List He.Fa) (x : Str) : Bool := fa.any fun f => match f with
  | .mkr y => decide (y = x)
  | _ => false
def noatFB (fa : List He.Fa) (x z : Str) : Bool := fa.any fun f => match f with
  | .noat y w => decide (y = x) && decide (w = z)
  | _ => false
def methFB (fa : List He.Fa) (x z : Str) : Bool := fa.any fun f => match f with
  | .meth y w => decide (y = x) && decide (w = z)
  | _ => false
def exmFB (fa : List He.Fa) (x y : Str) (b : Bool) : Bool := fa.any fun f => match f with
  | .exm z w t => decide (z = x) && decide (w = y) && decide (t = b)
  | _ => false
/-- a tuple of texts that a module's name is -/
abbrev TupF := Str × List Str
def zOk (z : Str) : Bool := decide (z.cps.toList.length ≤ 16777216) && z.cps.toList.all fun c => decide (c < 1114112)
def tupFB (ts : List TupF) (fa : List He.Fa) (x : Str) (d : D) : Bool := ts.any fun q => decide (q.1 = x) && gloFB fa x && decide (d = .tup (q.2.map fun z => .str z.cps.toList)) && q.2.all zOk
def conFB (ts : List TupF) (fa : List He.Fa) (x : Str) (d : D) : Bool := (fa.any fun f => match f with
  | .int y i => decide (y = x) && decide (d = .int i)
  | .str y z => decide (y = x) && decide (d = .str z.cps.toList) && zOk z
  | _ => false) || tupFB ts fa x d
/-! what the kernel's run tells beside the facts -/
def strB (z : Str) : Value → Bool
  | .str y _ => decide (y = z)
  | _ => false
def strsB : List Str → List Value → Bool
  | [], [] => true
  | z :: zs, v :: vs => strB z v && strsB zs vs
  | _, _ => false
def tupKB (K : PySem.W.Frag) (q : TupF) : Bool := match K.lookup (He.ga K q.1) with
  | some ⟨.type c, none, .seq its _, _⟩ => decide (c = "tuple") && decide (its.size ≤ sizeLine) && strsB q.2 its.toList
  | _ => false
def excCB (K : PySem.W.Frag) (x : Str) : Bool :=
  He.eqO (PySem.W.findIn K (.ref (He.ga K x)) "__getattribute__") (some (some (.builtin "BaseException.__getattribute__"))) && He.eqO (PySem.W.findIn K (.ref (He.ga K x)) "__getattr__") (some none) &&
  decide (PySem.W.subIn K (.ref (He.ga K x)) (.type "BaseException") = some true) && PySem.W.hasDictIn K (He.ga K x) && He.eqO (PySem.W.findIn K (.ref (He.ga K x)) "__class__") (some (some (.builtin "object.__class__"))) &&
  He.eqO (PySem.W.specialIn K (.builtin "object.__class__") "__get__") (some (some (.builtin "getset_descriptor.__get__"))) && decide (PySem.W.takesIn K (.builtin "object.__class__") = some true) && decide (PySem.W.mroIn K (He.ga K x) (.type "object") = some true)
def isbKB (K : PySem.W.Frag) (q : String × String × Bool) : Bool := excCB K (Str.ofString q.1) && decide (PySem.W.kitOne K (.ref (He.ga K (Str.ofString q.1))) (if q.2.1 = "ValueError" then .type "ValueError" else .ref (He.ga K (Str.ofString q.2.1))) = some q.2.2)
def exK (ts : List TupF) (is : List (String × String × Bool)) (K : PySem.W.Frag) : Bool := ts.all (tupKB K) && is.all (isbKB K)
def parO (a : Arguments) : Bool := a.posonlyargs.isEmpty && a.vararg.isNone && a.kwonlyargs.isEmpty && a.kw_defaults.isEmpty && a.kwarg.isNone && a.defaults.isEmpty
def atOf (i : FnI) : Str × Option Str := if i.cls = "" then (Str.ofString i.name, none) else (Str.ofString i.cls, some (Str.ofString i.name))
def fnB (T : Tb) (fe fs : Nat) (d : He.DefD) (i : FnI) : Bool :=
  decide (d.at_ = atOf i) && d.dfl.isEmpty && d.kwd.isEmpty && parO d.params &&
  decide (d.scope.kind = .function) && !d.scope.isCoroutine && !d.scope.isGenerator && decide i.N.Nodup && decide (i.N.take (d.params.args.map (·.arg)).length = d.params.args.map (·.arg)) &&
  ((d.params.args.map (·.arg)).all fun x => decide (d.scope.names.lookup x = some .local) || decide (d.scope.names.lookup x = some .cell)) && (d.scope.names.all fun y => decide (y.2 ≠ .free)) &&
  decide (i.d.np = (d.params.args.map (·.arg)).length) && decide (i.d.nl = i.N.length) && allS (chkS T i.N fe fs d.scope) d.body i.d.body
def nameFB (fa : List He.Fa) (cl : List String) (i : FnI) : Bool := if i.cls = "" then gloFB fa (Str.ofString i.name) else decide (i.cls ∈ cl) && methFB fa (Str.ofString i.cls) (Str.ofString i.name)
def fnsB (T : Tb) (fa : List He.Fa) (cl : List String) (fe fs : Nat) : List He.DefD → List FnI → Bool
  | [], [] => true
  | d :: ds, i :: is => nameFB fa cl i && fnB T fe fs d i && fnsB T fa cl fe fs ds is
  | _, _ => false
def clsOk (fa : List He.Fa) (fl : List String) (c : String) : Bool := gloFB fa (Str.ofString c) && clsFB fa (Str.ofString c) && mkrFB fa (Str.ofString c) && decide (c ≠ "") && fl.all fun f => noatFB fa (Str.ofString c) (Str.ofString f)
def Pt.ok (p : Pt) (ts : List TupF) (fa : List He.Fa) (fn : List He.DefD) (fe fs : Nat) : Bool :=
  fnsB p.tb fa p.clss fe fs fn p.fns && (p.cons.all fun c => conFB ts fa (Str.ofString c.1) c.2) && (p.errs.all fun c => gloFB fa (Str.ofString c) && excFB fa (Str.ofString c)) && p.blts.all (freeFB fa) && (p.subs.all fun q => exmFB fa (Str.ofString q.1) (Str.ofString q.2.1) q.2.2) && p.clss.all (clsOk fa p.flds)

theorem lookup_mem {α β : Type} [BEq α] [LawfulBEq α] : ∀ {l : List (α × β)} {x : α} {y : β}, l.lookup x = some y → (x, y) ∈ l
  | (a, b) :: l, x, y, h => by
    rw [List.lookup_cons] at h
    by_cases e : x == a
    · rw [e] at h
      cases h
      rw [eq_of_beq e]
      exact List.mem_cons_self
    · rw [show (x == a) = false by simpa using e] at h
      exact List.mem_cons_of_mem _ (lookup_mem h)
section
variable {p : Pt} {ts : List TupF} {fa : List He.Fa} {fn : List He.DefD} {K : PySem.W.Frag} {fe fs : Nat}
theorem tb_mem {x : Str} {k : GK} (h : p.tb.lookup x = some k) : (∃ i ∈ p.fns, i.cls = "" ∧ Str.ofString i.name = x ∧ k = .fn) ∨ (∃ c ∈ p.cons, Str.ofString c.1 = x ∧ k = .con) ∨ (∃ c ∈ p.errs, Str.ofString c = x ∧ k = .err) ∨ (x ∈ p.blts ∧ k = .blt) ∨ (∃ c ∈ p.clss, Str.ofString c = x ∧ k = .cls) ∨ ∃ f ∈ p.flds, Str.ofString ("." ++ f) = x ∧ k = .fld := by
  have := lookup_mem h
  unfold Pt.tb at this
  simp only [List.mem_append, List.mem_map, Prod.mk.injEq, List.mem_filter, decide_eq_true_eq] at this
  rcases this with ⟨i, ⟨hi, hc⟩, e, q⟩ | ⟨c, hc, e, q⟩ | ⟨c, hc, e, q⟩ | ⟨c, hc, e, q⟩ | ⟨c, hc, e, q⟩ | ⟨c, hc, e, q⟩
  · exact .inl ⟨i, hi, hc, e, q.symm⟩
  · exact .inr (.inl ⟨c, hc, e, q.symm⟩)
  · exact .inr (.inr (.inl ⟨c, hc, e, q.symm⟩))
  · exact .inr (.inr (.inr (.inl ⟨e ▸ hc, q.symm⟩)))
  · exact .inr (.inr (.inr (.inr (.inl ⟨c, hc, e, q.symm⟩))))
  · exact .inr (.inr (.inr (.inr (.inr ⟨c, hc, e, q.symm⟩))))
theorem tb_fn {f : String} (h : p.tb.lookup (Str.ofString f) = some .fn) : ∃ i ∈ p.fns, i.cls = "" ∧ i.name = f := by
  rcases tb_mem h with ⟨i, hi, hc, e, _⟩ | ⟨_, _, _, e⟩ | ⟨_, _, _, e⟩ | ⟨_, e⟩ | ⟨_, _, _, e⟩ | ⟨_, _, _, e⟩ <;> first | exact ⟨i, hi, hc, ofS_inj e⟩ | cases e
theorem tb_con {f : String} (h : p.tb.lookup (Str.ofString f) = some .con) : ∃ c ∈ p.cons, c.1 = f := by
  rcases tb_mem h with ⟨_, _, _, _, e⟩ | ⟨c, hc, e, _⟩ | ⟨_, _, _, e⟩ | ⟨_, e⟩ | ⟨_, _, _, e⟩ | ⟨_, _, _, e⟩ <;> first | exact ⟨c, hc, ofS_inj e⟩ | cases e
theorem tb_err {f : String} (h : p.tb.lookup (Str.ofString f) = some .err) : f ∈ p.errs := by
  rcases tb_mem h with ⟨_, _, _, _, e⟩ | ⟨_, _, _, e⟩ | ⟨c, hc, e, _⟩ | ⟨_, e⟩ | ⟨_, _, _, e⟩ | ⟨_, _, _, e⟩ <;> first | exact ofS_inj e ▸ hc | cases e
theorem tb_blt {x : Str} (h : p.tb.lookup x = some .blt) : x ∈ p.blts := by
  rcases tb_mem h with ⟨_, _, _, _, e⟩ | ⟨_, _, _, e⟩ | ⟨_, _, _, e⟩ | ⟨hc, _⟩ | ⟨_, _, _, e⟩ | ⟨_, _, _, e⟩ <;> first | exact hc | cases e
theorem tb_cls {f : String} (h : p.tb.lookup (Str.ofString f) = some .cls) : f ∈ p.clss := by
  rcases tb_mem h with ⟨_, _, _, _, e⟩ | ⟨_, _, _, e⟩ | ⟨_, _, _, e⟩ | ⟨_, e⟩ | ⟨c, hc, e, _⟩ | ⟨_, _, _, e⟩ <;> first | exact ofS_inj e ▸ hc | cases e
theorem tb_fld {f : String} (h : p.tb.lookup (Str.ofString ("." ++ f)) = some .fld) : f ∈ p.flds := by
  rcases tb_mem h with ⟨_, _, _, _, e⟩ | ⟨_, _, _, e⟩ | ⟨_, _, _, e⟩ | ⟨_, e⟩ | ⟨_, _, _, e⟩ | ⟨c, hc, e, _⟩ <;> first | (cases e; done) | skip
  have := congrArg String.toList (ofS_inj e)
  simp only [String.toList_append] at this
  have := List.append_cancel_left this
  rw [← String.toList_inj.mp this]
  exact hc
theorem fns_at {T : Tb} {cl : List String} : ∀ {ds : List He.DefD} {is : List FnI}, fnsB T fa cl fe fs ds is = true → ∀ i ∈ is, ∃ d ∈ ds, nameFB fa cl i = true ∧ fnB T fe fs d i = true
  | [], [], _, _, h => nomatch h
  | [], _ :: _, h, _, _ => ff h
  | _ :: _, [], h, _, _ => ff h
  | d :: ds, i :: is, h, j, hj => by
    obtain ⟨h, h3⟩ := bb (show (nameFB fa cl i && fnB T fe fs d i && fnsB T fa cl fe fs ds is) = true from h)
    obtain ⟨h1, h2⟩ := bb h
    rcases List.mem_cons.mp hj with rfl | hj
    · exact ⟨d, List.mem_cons_self, h1, h2⟩
    · obtain ⟨d', q1, q2⟩ := fns_at h3 j hj
      exact ⟨d', List.mem_cons_of_mem _ q1, q2⟩
/-- what the head tells -/
structure SaysM (ts : List TupF) (is : List (String × String × Bool)) (fa : List He.Fa) (fn : List He.DefD) (K : PySem.W.Frag) : Prop where
  d : He.SaysD fa fn K
  x : exK ts is K = true
variable {is : List (String × String × Bool)}
theorem says_fact (c : SaysM ts is fa fn K) {f : He.Fa} (h : f ∈ fa) : f.ok K = true := by
  obtain ⟨i, hi, e⟩ := List.mem_iff_getElem.mp h
  exact c.d.fact i (by rw [List.getElem?_eq_getElem hi, e])
theorem says_def (c : SaysM ts is fa fn K) {d : He.DefD} (h : d ∈ fn) : ∃ fd, FunD K d.name d.qual d.params d.body d.scope (d.dvs K) (d.kws K) (He.fAd K d.at_) fd := by
  obtain ⟨i, hi, e⟩ := List.mem_iff_getElem.mp h
  exact c.d.def_ i (by rw [List.getElem?_eq_getElem hi, e])
theorem any_fa {f : He.Fa → Bool} (h : fa.any f = true) : ∃ a ∈ fa, f a = true := List.any_eq_true.mp h
variable {h : Heap} {mg : Str → Option Value}
theorem glo_at (c : SaysM ts is fa fn K) (KX : K.In h) (NG : h.Ns mainGlobals mg) {x : Str} (hb : gloFB fa x = true) : mg x = some (.ref (He.ga K x)) := by
  obtain ⟨f, hf, e⟩ := List.any_eq_true.mp hb
  cases f with
  | glo y =>
    obtain rfl := dd e
    exact He.glo_ok KX NG (says_fact c hf)
  | _ => exact ff e
theorem free_at (c : SaysM ts is fa fn K) (KX : K.In h) (NG : h.Ns mainGlobals mg) {x : Str} (hb : freeFB fa x = true) : mg x = none := by
  obtain ⟨f, hf, e⟩ := List.any_eq_true.mp hb
  cases f with
  | free y =>
    obtain rfl := dd e
    exact He.free_ok KX NG (says_fact c hf)
  | _ => exact ff e
abbrev gdOf (K : PySem.W.Frag) (w : World) (fl : List String) : Gd := ⟨K, fun c => He.ga K (Str.ofString c), w, fl⟩
theorem strsB_ok {G : Gd} {M : List Addr} {H : AH} : ∀ {zs : List Str} {vs : List Value}, strsB zs vs = true → zs.all zOk = true → Vals (zs.map V.str) vs ∧ DRs G M H (zs.map fun z => D.str z.cps.toList) (zs.map V.str)
  | [], [], _, _ => ⟨.nil, rfl⟩
  | [], _ :: _, h, _ => ff h
  | _ :: _, [], h, _ => ff h
  | z :: zs, v :: vs, h, ho => by
    obtain ⟨h1, h2⟩ := bb (show (strB z v && strsB zs vs) = true from h)
    rw [List.all_cons] at ho
    obtain ⟨o1, o2⟩ := bb ho
    obtain ⟨o3, o4⟩ := bb o1
    obtain ⟨i1, i2⟩ := strsB_ok h2 o2
    cases v with
    | str y t =>
      obtain rfl := dd h1
      exact ⟨.cons ⟨t, rfl⟩ i1, _, _, rfl, ⟨rfl, dd o3, fun k hk => dd (List.all_eq_true.mp o4 k hk)⟩, i2⟩
    | _ => exact ff h1
theorem con_at {w : World} {fl : List String} (c : SaysM ts is fa fn K) (KX : K.In h) (NG : h.Ns mainGlobals mg) {x : Str} {d : D} (hb : conFB ts fa x d = true) : ∃ u v, mg x = some u ∧ RelV v u ∧ ∀ M H, DR (gdOf K w fl) M H d v := by
  unfold conFB at hb
  rw [Bool.or_eq_true] at hb
  rcases hb with hb | hb
  · obtain ⟨f, hf, e⟩ := List.any_eq_true.mp hb
    cases f with
    | int y i =>
      obtain ⟨e1, e2⟩ := bb (show (decide (y = x) && decide (d = .int i)) = true from e)
      obtain rfl := dd e1
      obtain rfl := dd e2
      obtain ⟨t, q⟩ := He.int_ok KX NG (says_fact c hf)
      exact ⟨_, .int i, q, ⟨t, rfl⟩, fun _ _ => rfl⟩
    | str y z =>
      obtain ⟨e, e4⟩ := bb (show (decide (y = x) && decide (d = .str z.cps.toList) && zOk z) = true from e)
      obtain ⟨e3, e4⟩ := bb e4
      obtain ⟨e1, e2⟩ := bb e
      obtain rfl := dd e1
      obtain rfl := dd e2
      obtain ⟨t, q⟩ := He.str_ok KX NG (says_fact c hf)
      exact ⟨_, .str z, q, ⟨t, rfl⟩, fun _ _ => ⟨rfl, dd e3, fun k hk => dd (List.all_eq_true.mp e4 k hk)⟩⟩
    | _ => exact ff e
  · obtain ⟨q, hq, e⟩ := List.any_eq_true.mp hb
    obtain ⟨e, e4⟩ := bb (show (decide (q.1 = x) && gloFB fa x && decide (d = .tup (q.2.map fun z => .str z.cps.toList)) && q.2.all zOk) = true from e)
    obtain ⟨e, e3⟩ := bb e
    obtain ⟨e1, e2⟩ := bb e
    obtain rfl := dd e1
    obtain rfl := dd e3
    have x1 := List.all_eq_true.mp (bb c.x).1 q hq
    refine ⟨_, .ref (He.ga K q.1), glo_at c KX NG e2, rfl, fun M H => ?_⟩
    unfold tupKB at x1
    split at x1
    · rename_i cc its nn sl lk
      obtain ⟨x1, x4⟩ := bb x1
      obtain ⟨x2, x3⟩ := bb x1
      obtain rfl := dd x2
      obtain ⟨v1, v2⟩ := strsB_ok (G := gdOf K w fl) (M := M) (H := H) x4 e4
      exact ⟨He.ga K q.1, q.2.map V.str, rfl, ⟨.inr ⟨_, its, nn, lk, rfl, rfl, dd x3, v1⟩, .inr ⟨_, lk, rfl⟩⟩, v2⟩
    · cases x1
theorem err_at (c : SaysM ts is fa fn K) {x : Str} (hb : excFB fa x = true) : PySem.W.excIn K (He.ga K x) He.veBase "ValueError.__new__" = true ∧ PySem.W.keepIn K (.ref (He.ga K x)) = true ∧ PySem.W.subIn K (.ref (He.ga K x)) (.type "BaseException") = some true ∧ PySem.W.typeIn K (.ref (He.ga K x)) = some (.type "type") := by
  obtain ⟨f, hf, e⟩ := List.any_eq_true.mp hb
  cases f with
  | exc y =>
    obtain rfl := dd e
    exact He.exc_ok (says_fact c hf)
  | _ => exact ff e
theorem exm_at (c : SaysM ts is fa fn K) {x y : Str} {b : Bool} (hb : exmFB fa x y b = true) : PySem.W.exmOne K (.ref (He.ga K x)) (.ref (He.ga K y)) = some b := by
  obtain ⟨f, hf, e⟩ := List.any_eq_true.mp hb
  cases f with
  | exm z w t =>
    obtain ⟨e, e3⟩ := bb (show (decide (z = x) && decide (w = y) && decide (t = b)) = true from e)
    obtain ⟨e1, e2⟩ := bb e
    obtain rfl := dd e1
    obtain rfl := dd e2
    obtain rfl := dd e3
    exact He.exm_ok (says_fact c hf)
  | _ => exact ff e
theorem isb_at (c : SaysM ts is fa fn K) {q : String × String × Bool} (hq : q ∈ is) : ExcC K (He.ga K (Str.ofString q.1)) ∧ PySem.W.kitOne K (.ref (He.ga K (Str.ofString q.1))) (if q.2.1 = "ValueError" then .type "ValueError" else .ref (He.ga K (Str.ofString q.2.1))) = some q.2.2 := by
  obtain ⟨h1, h2⟩ := bb (List.all_eq_true.mp (bb c.x).2 q hq)
  obtain ⟨h1, a8⟩ := bb h1
  obtain ⟨h1, a7⟩ := bb h1
  obtain ⟨h1, a6⟩ := bb h1
  obtain ⟨h1, a5⟩ := bb h1
  obtain ⟨h1, a4⟩ := bb h1
  obtain ⟨h1, a3⟩ := bb h1
  obtain ⟨a1, a2⟩ := bb h1
  exact ⟨⟨He.eqO_ok a1, He.eqO_ok a2, dd a3, a4, He.eqO_ok a5, He.eqO_ok a6, dd a7, dd a8⟩, dd h2⟩
theorem cls_at (c : SaysM ts is fa fn K) {x : Str} (hb : clsFB fa x = true) : Cls K (He.ga K x) := by
  obtain ⟨f, hf, e⟩ := List.any_eq_true.mp hb
  cases f with
  | cls y =>
    obtain rfl := dd e
    exact He.cls_ok (says_fact c hf)
  | _ => exact ff e
theorem mkr_at (c : SaysM ts is fa fn K) {x : Str} (hb : mkrFB fa x = true) : Mk K (He.ga K x) (He.ma K (He.ga K x) "__init__") := by
  obtain ⟨f, hf, e⟩ := List.any_eq_true.mp hb
  cases f with
  | mkr y =>
    obtain rfl := dd e
    exact He.mkr_ok (says_fact c hf)
  | _ => exact ff e
theorem noat_at (c : SaysM ts is fa fn K) {x z : Str} (hb : noatFB fa x z = true) : NoAttr K (He.ga K x) z := by
  obtain ⟨f, hf, e⟩ := List.any_eq_true.mp hb
  cases f with
  | noat y w =>
    obtain ⟨e1, e2⟩ := bb (show (decide (y = x) && decide (w = z)) = true from e)
    obtain rfl := dd e1
    obtain rfl := dd e2
    exact He.noat_ok (says_fact c hf)
  | _ => exact ff e
theorem meth_at (c : SaysM ts is fa fn K) {x z : Str} (hb : methFB fa x z = true) : Meth K (He.ga K x) z (He.ma K (He.ga K x) z) := by
  obtain ⟨f, hf, e⟩ := List.any_eq_true.mp hb
  cases f with
  | meth y w =>
    obtain ⟨e1, e2⟩ := bb (show (decide (y = x) && decide (w = z)) = true from e)
    obtain rfl := dd e1
    obtain rfl := dd e2
    exact He.meth_ok (says_fact c hf)
  | _ => exact ff e
theorem clg_at {w : World} {fl : List String} (c : SaysM ts is fa fn K) {x : String} (ok : clsOk fa fl x = true) : ClG (gdOf K w fl) x := by
  obtain ⟨ok, h5⟩ := bb ok
  obtain ⟨ok, h4⟩ := bb ok
  obtain ⟨ok, h3⟩ := bb ok
  obtain ⟨h1, h2⟩ := bb ok
  exact ⟨cls_at c h2, fun f hf => noat_at c (List.all_eq_true.mp h5 f hf)⟩
theorem find_some {q : String × String} (hi : ∃ i ∈ p.fns, i.cls = q.1 ∧ i.name = q.2) : ∃ i ∈ p.fns, i.cls = q.1 ∧ i.name = q.2 ∧ p.fns.find? (fun i => i.is q) = some i := by
  cases e : p.fns.find? (fun i => i.is q) with
  | none =>
    obtain ⟨i, h1, h2, h3⟩ := hi
    have := List.find?_eq_none.mp e i h1
    simp [FnI.is, h2, h3] at this
  | some i =>
    have := List.find?_some e
    obtain ⟨h1, h2⟩ := bb (show (decide (i.cls = q.1) && decide (i.name = q.2)) = true from this)
    exact ⟨i, List.mem_of_find?_eq_some e, dd h1, dd h2, rfl⟩
theorem par_ok {a : Arguments} (h : parO a = true) : a = ⟨[], a.args, none, [], [], none, []⟩ := by
  obtain ⟨po, as, va, kw, kd, kg, df⟩ := a
  obtain ⟨h, h6⟩ := bb h
  obtain ⟨h, h5⟩ := bb h
  obtain ⟨h, h4⟩ := bb h
  obtain ⟨h, h3⟩ := bb h
  obtain ⟨h1, h2⟩ := bb h
  simp at h1 h2 h3 h4 h5 h6
  subst h1 h2 h3 h4 h5 h6
  rfl
theorem take_nodup {α : Type} {l : List α} {n : Nat} (h : l.Nodup) : (l.take n).Nodup := h.sublist (List.take_sublist n l)
variable {P : Program} {w : World}
abbrev psOf (d : He.DefD) : List Str := d.params.args.map (·.arg)
/-- where a def stands -/
def adOf (K : PySem.W.Frag) (q : String × String) : Addr := if q.1 = "" then He.ga K (Str.ofString q.2) else He.ma K (He.ga K (Str.ofString q.1)) (Str.ofString q.2)
theorem fAd_at (i : FnI) : He.fAd K (atOf i) = adOf K (i.cls, i.name) := by
  unfold atOf adOf
  split <;> rfl
theorem fn_dat (c : SaysM ts is fa fn K) {T : Tb} {d : He.DefD} {i : FnI} (hd : d ∈ fn) (hb : fnB T fe fs d i = true) :
    ∃ fd, FunD K d.name d.qual d.params d.body d.scope [] [] (adOf K (i.cls, i.name)) fd ∧ FnScope i.N (psOf d) d.scope ∧ (∀ (kV doc pm : Value) (an : Option Addr) (cdv ct : Value) (us : List Value), us.length = (psOf d).length →
      bindArgs (PySem.W.fnOf d.name d.qual d.params d.body d.scope .none kV doc pm an cdv ct) ⟨us, []⟩ = pure ((psOf d).zip us)) ∧ i.d.np = (psOf d).length ∧ i.d.nl = i.N.length ∧ allS (chkS T i.N fe fs d.scope) d.body i.d.body = true := by
  obtain ⟨hb, b14⟩ := bb hb
  obtain ⟨hb, b13⟩ := bb hb
  obtain ⟨hb, b12⟩ := bb hb
  obtain ⟨hb, b11⟩ := bb hb
  obtain ⟨hb, b10⟩ := bb hb
  obtain ⟨hb, b9⟩ := bb hb
  obtain ⟨hb, b8⟩ := bb hb
  obtain ⟨hb, b7⟩ := bb hb
  obtain ⟨hb, b6⟩ := bb hb
  obtain ⟨hb, b5⟩ := bb hb
  obtain ⟨hb, b4⟩ := bb hb
  obtain ⟨hb, b3⟩ := bb hb
  obtain ⟨b1, b2⟩ := bb hb
  obtain ⟨fd, F⟩ := says_def c hd
  have e2 : d.dvs K = [] := by unfold He.DefD.dvs; rw [List.isEmpty_iff.mp b2] <;> rfl
  have e3 : d.kws K = [] := by unfold He.DefD.kws; rw [List.isEmpty_iff.mp b3] <;> rfl
  have e1 : He.fAd K d.at_ = adOf K (i.cls, i.name) := by rw [dd b1, fAd_at]
  rw [e1, e2, e3] at F
  have nd : (psOf d).Nodup := by
    have e9 : i.N.take (psOf d).length = psOf d := dd b9
    rw [← e9]
    exact take_nodup (dd b8)
  refine ⟨fd, F, ⟨dd b5, nn b6, nn b7, dd b8, dd b9, fun x hx => ?_, fun y hy => dd (List.all_eq_true.mp b11 y hy)⟩, fun kV doc pm an cdv ct us hl => ?_, dd b12, dd b13, b14⟩
  · have := List.all_eq_true.mp b10 x hx
    rw [Bool.or_eq_true] at this
    rcases this with q | q
    · exact .inl (dd q)
    · exact .inr (dd q)
  · have pe := par_ok b4
    have := bindP (x := d.name) (qual := d.qual) (body := d.body) (scope := d.scope) (kV := kV) (doc := doc) (pm := pm) (an := an) (cdv := cdv) (ct := ct) (as := d.params.args) (us := us) nd hl
    rw [← pe] at this
    exact this
/-- nothing comes out -/
theorem calm_fn {base : Heap} {k : Nat} {f : Addr} {fd : FuncData} {ps : List Str} {sp : Sp} {mg : Str → Option Value} (F : FnOk P w K mg base (L2.CX P w) k f fd ps sp) : FnOk P w K mg base L2.CX0 k f fd ps fun vs H Q _ => sp vs H Q fun _ _ _ => False :=
  ⟨fun vs H Q E h => F.len _ _ _ _ h, fun A outer s H args us vs Q E hr he hb hv hs => codeAny_mono (F.run A outer s H args us vs Q _ hr he hb hv hs) fun r s' q => by
    cases r with
    | error e =>
      obtain ⟨a, B, H', cls, d, _, _, _, _, _, _, _, z⟩ := (show L2.CX P w outer H s (fun _ _ _ => False) e s' from q)
      exact z.elim
    | ok fl => cases fl <;> exact q⟩
/-- the defs, at a depth of calls -/
def LevAt (P : Program) (w : World) (p : Pt) (fn : List He.DefD) (K : PySem.W.Frag) (mg : Str → Option Value) (k : Nat) : Prop := ∀ (q : String × String) (i : FnI), i ∈ p.fns → i.cls = q.1 → i.name = q.2 → p.fns.find? (fun i => i.is q) = some i →
    ∃ d ∈ fn, ∃ fd, (q.1 = "" → mg (Str.ofString q.2) = some (.ref (adOf K q))) ∧ (q.1 ≠ "" → Meth K (He.ga K (Str.ofString q.1)) (Str.ofString q.2) (adOf K q)) ∧ FunD K d.name d.qual d.params d.body d.scope [] [] (adOf K q) fd ∧ (∀ (kV doc pm : Value) (an : Option Addr) (cdv ct : Value) (us : List Value), us.length = (psOf d).length →
      bindArgs (PySem.W.fnOf d.name d.qual d.params d.body d.scope .none kV doc pm an cdv ct) ⟨us, []⟩ = pure ((psOf d).zip us)) ∧ psOf d = i.N.take i.d.np ∧
      ∀ base : Heap, FnOk P w K mg base (L2.CX P w) k (adOf K q) fd (psOf d) (spOf (gdOf K w p.flds) (call p.prog k q))
theorem name_at (c : SaysM ts is fa fn K) (KX : K.In h) (NG : h.Ns mainGlobals mg) {cl : List String} {i : FnI} {q : String × String} (hc : i.cls = q.1) (hn : i.name = q.2) (hb : nameFB fa cl i = true) : (q.1 = "" → mg (Str.ofString q.2) = some (.ref (adOf K q))) ∧ (q.1 ≠ "" → Meth K (He.ga K (Str.ofString q.1)) (Str.ofString q.2) (adOf K q)) := by
  unfold nameFB at hb
  unfold adOf
  rw [hc, hn] at hb
  by_cases e : q.1 = ""
  · rw [if_pos e] at hb
    rw [if_pos e]
    exact ⟨fun _ => glo_at c KX NG hb, fun z => absurd e z⟩
  · rw [if_neg e] at hb
    rw [if_neg e]
    exact ⟨fun z => absurd z e, fun _ => meth_at c (bb hb).2⟩
theorem al_at (c : SaysM ts p.isbs fa fn K) (KX : K.In h) (NG : h.Ns mainGlobals mg) (ok : p.ok ts fa fn fe fs = true) {k : Nat} (L : LevAt P w p fn K mg k) (L' : LevAt P w p fn K mg (k - 1)) {X : Cx} (hP : X.prog = P) (hw : X.w = w) (hK : X.K = K) (hm : X.mg = mg) (ck : Ck (gdOf K w p.flds) X) (room : Room k X.A) : Al (gdOf K w p.flds) X (ctx p.prog k) k p.tb := by
  obtain ⟨ok, o6⟩ := bb ok
  obtain ⟨ok, o5⟩ := bb ok
  obtain ⟨ok, o4⟩ := bb ok
  obtain ⟨ok, o3⟩ := bb ok
  obtain ⟨o1, o2⟩ := bb ok
  subst hP hw hK hm
  refine ⟨ck, room, fun f hf => ?_, fun f hf => ?_, fun x hx => ?_, fun e he => ?_, ⟨fun cc m e => ?_⟩, fun cc hc => ?_, fun f hf => tb_fld hf, fun a b t e => ?_, fun a b t e => ?_⟩
  · obtain ⟨j, hj, ec, ej, fj⟩ := find_some (q := ("", f)) (tb_fn hf)
    obtain ⟨d', hd', fd', q1, _, q2, q3, _, q4⟩ := L ("", f) j hj ec ej fj
    exact ⟨_, fd', psOf d', q1 rfl, q2.kp, q2.bindsN q3, q4 X.base⟩
  · obtain ⟨cc, hc, rfl⟩ := tb_con hf
    cases e : p.cons.find? (fun c => c.1 = cc.1) with
    | none =>
      have := List.find?_eq_none.mp e cc hc
      simp at this
    | some c2 =>
      have m2 := List.mem_of_find?_eq_some e
      have n2 : c2.1 = cc.1 := by simpa using List.find?_some e
      obtain ⟨u, v, r1, r2, r3⟩ := con_at c KX NG (List.all_eq_true.mp o2 c2 m2)
      refine ⟨u, v, c2.2, by rw [← n2]; exact r1, r2, ?_, r3⟩
      show (p.cons.find? fun c => c.1 = cc.1).map (·.2) = some c2.2
      rw [e] <;> rfl
  · exact free_at c KX NG (List.all_eq_true.mp o4 x (tb_blt hx))
  · obtain ⟨z1, z2⟩ := bb (List.all_eq_true.mp o3 e (tb_err he))
    obtain ⟨r1, r2, r3, r4⟩ := err_at c z2
    exact ⟨glo_at c KX NG z1, r1, r2, r3, r4⟩
  · obtain ⟨e1, e2⟩ := bb (show (decide (cc ≠ "") && (p.prog.fn (cc, m)).isSome) = true from e)
    have ne : cc ≠ "" := dd e1
    obtain ⟨dd', hd⟩ := Option.isSome_iff_exists.mp e2
    obtain ⟨i, hi, _⟩ := Option.map_eq_some_iff.mp (show (p.fns.find? fun i => i.is (cc, m)).map (·.d) = some dd' from hd)
    obtain ⟨z1, z2⟩ := bb (show (decide (i.cls = cc) && decide (i.name = m)) = true from by have := List.find?_some hi; exact this)
    obtain ⟨d', hd', fd', _, q1, q2, q3, _, q4⟩ := L (cc, m) i (List.mem_of_find?_eq_some hi) (dd z1) (dd z2) hi
    exact ⟨_, fd', psOf d', q1 ne, q2.bindsN q3, q4 X.base⟩
  · have hcl := tb_cls hc
    have okc := List.all_eq_true.mp o6 cc hcl
    have cg := clg_at (w := X.w) c okc
    obtain ⟨ok1, h5⟩ := bb okc
    obtain ⟨ok1, h4⟩ := bb ok1
    obtain ⟨ok1, h3⟩ := bb ok1
    obtain ⟨h1, h2⟩ := bb ok1
    have ne : cc ≠ "" := dd h4
    have mk := mkr_at c h3
    refine ⟨glo_at c KX NG h1, cg, mk.kp, ?_⟩
    cases k with
    | zero => exact .inl fun ds h => rfl
    | succ k =>
      cases hd : p.prog.fn (cc, "__init__") with
      | none =>
        refine .inl fun ds h => ?_
        cases k with
        | zero => rfl
        | succ k =>
          show call p.prog (k + 1) (cc, "__init__") ds h = .bad
          rw [call_succ, hd]
      | some dd' =>
        obtain ⟨i, hi, _⟩ := Option.map_eq_some_iff.mp (show (p.fns.find? fun i => i.is (cc, "__init__")).map (·.d) = some dd' from hd)
        obtain ⟨z1, z2⟩ := bb (show (decide (i.cls = cc) && decide (i.name = "__init__")) = true from by have := List.find?_some hi; exact this)
        obtain ⟨d', hd', fd', _, q1, q2, q3, _, q4⟩ := L' (cc, "__init__") i (List.mem_of_find?_eq_some hi) (dd z1) (dd z2) hi
        refine .inr ⟨k, adOf X.K (cc, "__init__"), fd', psOf d', rfl, ?_, q2.bindsN q3, calm_fn (q4 X.base)⟩
        have : adOf X.K (cc, "__init__") = He.ma X.K (He.ga X.K (Str.ofString cc)) "__init__" := by
          unfold adOf
          rw [if_neg ne] <;> rfl
        rw [this]
        exact mk
  · have e : (p.isbs.find? fun q => decide (q.1 = a) && decide (q.2.1 = b)).map (·.2.2) = some t := e
    obtain ⟨q, e1, rfl⟩ := Option.map_eq_some_iff.mp e
    obtain ⟨z1, z2⟩ := bb (show (decide (q.1 = a) && decide (q.2.1 = b)) = true from by have := List.find?_some e1; exact this)
    obtain rfl := dd z1
    obtain rfl := dd z2
    exact isb_at c (List.mem_of_find?_eq_some e1)
  · have e : (p.subs.find? fun q => decide (q.1 = a) && decide (q.2.1 = b)).map (·.2.2) = some t := e
    obtain ⟨q, e1, rfl⟩ := Option.map_eq_some_iff.mp e
    obtain ⟨z1, z2⟩ := bb (show (decide (q.1 = a) && decide (q.2.1 = b)) = true from by have := List.find?_some e1; exact this)
    obtain rfl := dd z1
    obtain rfl := dd z2
    exact exm_at c (List.all_eq_true.mp o5 q (List.mem_of_find?_eq_some e1))
theorem lev_zero (c : SaysM ts p.isbs fa fn K) (KX : K.In h) (NG : h.Ns mainGlobals mg) (ok : p.ok ts fa fn fe fs = true) : LevAt P w p fn K mg 0 := by
  intro q i hi hc hn hfi
  obtain ⟨d, hd, g1, g2⟩ := fns_at (bb (bb (bb (bb (bb ok).1).1).1).1).1 i hi
  obtain ⟨fd, F, S, B, e1, e2, bd⟩ := fn_dat c hd g2
  obtain ⟨n1, n2⟩ := name_at c KX NG hc hn g1
  rw [hc, hn] at F
  refine ⟨d, hd, fd, n1, n2, F, B, by rw [e1]; exact S.pre.symm, fun base => ⟨fun vs H Q E h => ?_, fun A outer s H args us vs Q E hr he hb hv hs => ?_⟩⟩
  · obtain ⟨M, mh, ds, r, x, g⟩ := h
    exact g.elim
  · obtain ⟨M, mh, ds, r, x, g⟩ := hs
    exact g.elim
/-- THE DEFS: at each depth of calls -/
theorem fn_lev (c : SaysM ts p.isbs fa fn K) (KX : K.In h) (NG : h.Ns mainGlobals mg) (ok : p.ok ts fa fn fe fs = true) : ∀ k : Nat, LevAt P w p fn K mg k ∧ LevAt P w p fn K mg (k - 1)
  | 0 => ⟨lev_zero c KX NG ok, lev_zero c KX NG ok⟩
  | k + 1 => by
    have ih := fn_lev c KX NG ok k
    refine ⟨?_, ih.1⟩
    intro q i hi hc hn hfi
    obtain ⟨d, hd, g1, g2⟩ := fns_at (bb (bb (bb (bb (bb ok).1).1).1).1).1 i hi
    obtain ⟨fd, F, S, B, e1, e2, bd⟩ := fn_dat c hd g2
    obtain ⟨n1, n2⟩ := name_at c KX NG hc hn g1
    rw [hc, hn] at F
    have hfn : p.prog.fn q = some i.d := by
      show (p.fns.find? fun j => j.is q).map (·.d) = some i.d
      rw [hfi] <;> rfl
    refine ⟨d, hd, fd, n1, n2, F, B, by rw [e1]; exact S.pre.symm, fun base => fn_ok (G := gdOf K w p.flds) F S hfn e1 e2 fun cdv A outer s H E hr => ?_⟩
    have al : Al (gdOf K w p.flds) (cxOf (L2.CX P w) P w K mg base i.N d.qual d.scope (adOf K q) cdv A outer s H E) (ctx p.prog k) k p.tb :=
      al_at c KX NG ok ih.1 ih.2 rfl rfl rfl rfl ⟨rfl, rfl, rfl, by
        have := hr.un
        show (A.deeper _).units + 200 < cLine
        omega, S.nd⟩ hr
    exact body_ok (chkS_ok al ⟨rfl, rfl, rfl, S.kind⟩ ⟨rfl, rfl, rfl⟩ (takes_of rfl rfl rfl rfl) (passes_of rfl) fs) bd
theorem ints_dr {G : Gd} {M : List Addr} {H : AH} : ∀ ns : List Int, DRs G M H (ns.map D.int) (ns.map V.int)
  | [] => rfl
  | _ :: ns => ⟨_, _, rfl, rfl, ints_dr ns⟩
/-- THE LAW -/
theorem law_all (c : SaysM ts p.isbs fa fn K) (KX : K.In h) (NG : h.Ns mainGlobals mg) (ok : p.ok ts fa fn fe fs = true) (k n : Nat) {i : FnI} {x : Str} (hi : p.fns.find? (fun i => i.is ("", "law")) = some i) (hx : i.N.take i.d.np = [x])
    (law : ∀ ns : List Int, ns.length ≤ n → ∃ h', call p.prog k ("", "law") [.cst (ns.map .int)] [] = .ok (.bl true) h') :
    ∃ (fd : FuncData) (sp : Sp), mg ("law" : Str) = some (.ref (He.ga K ("law" : Str))) ∧ (∀ (s : Shared) (u : Value), BindsTo s fd ⟨[u], []⟩ [(x, u)]) ∧
      (∀ (H : AH) (a : Addr) (ns : List Int), ns.length ≤ n → Only H → SqL K H a (ns.map V.int) → sp [.ref a] H (fun v _ => v = .bl true) fun _ _ _ => False) ∧ ∀ base : Heap, K.In base → base.Ns mainGlobals mg → FnOk P w K mg base L2.CX0 k (He.ga K ("law" : Str)) fd [x] sp := by
  obtain ⟨z1, z2⟩ := bb (show (decide (i.cls = "") && decide (i.name = "law")) = true from by have := List.find?_some hi; exact this)
  obtain ⟨d, hd, fd, q1, _, q2, q3, q4, q5⟩ := (fn_lev (P := P) (w := w) c KX NG ok k).1 ("", "law") i (List.mem_of_find?_eq_some hi) (dd z1) (dd z2) hi
  have ps : psOf d = [x] := q4.trans hx
  have ea : adOf K ("", "law") = He.ga K ("law" : Str) := rfl
  rw [ea] at q2
  refine ⟨fd, _, q1 rfl, fun s u => ?_, fun H a ns hl oh hs => ?_, fun base _ _ => by rw [← ps]; exact calm_fn (q5 base)⟩
  · have := FunD.bindsA (ps := psOf d) q2 q3 s [u] (by rw [ps] <;> rfl)
    rw [ps] at this
    exact this
  · obtain ⟨h', e⟩ := law ns hl
    refine ⟨[], [], [.cst (ns.map .int)], ⟨rfl, List.nodup_nil, fun n o e => nomatch e⟩, ?_, ?_⟩
    · refine ⟨_, [], rfl, ⟨a, ns.map V.int, rfl, ?_, ints_dr ns⟩, rfl⟩
      rcases hs with (hs | hs) | hs
      · rcases oh a with q | ⟨o, xs, q⟩
        · rw [q] at hs; cases hs
        · rw [q] at hs; cases hs
      · exact .inl hs
      · exact .inr hs
    · rw [e]
      exact fun M' H' _ v hv => hv
end
end Mi

/-! Mini, stepped by rewriting: what has to hold behind a run. What follows a step stands as a constant with its parts, so that rewriting works at the head alone. -/
namespace Mi

def Out.wp {α : Type} (x : Out α) (E : String → Hp → Prop) (Q : α → Hp → Prop) : Prop := match x with
  | .ok a h => Q a h
  | .exc c h => E c h
  | .bad => False
structure Po where
  nx : Env → Hp → Prop
  rt : D → Hp → Prop
  bk : Env → Hp → Prop
  ct : Env → Hp → Prop
  ex : String → Env → Hp → Prop
def Fl.wp (x : Fl) (P : Po) : Prop := match x with
  | .nx ρ h => P.nx ρ h
  | .rt d h => P.rt d h
  | .bk ρ h => P.bk ρ h
  | .ct ρ h => P.ct ρ h
  | .ex c ρ h => P.ex c ρ h
  | .bad => False
/-- an option's content -/
def oW {α : Type} (x : Option α) (Q : α → Prop) : Prop := ∃ z, x = some z ∧ Q z
theorem oW_some {α : Type} {a : α} {Q : α → Prop} : oW (some a) Q = Q a := by
  refine propext ⟨fun ⟨z, e, q⟩ => ?_, fun q => ⟨a, rfl, q⟩⟩
  cases e
  exact q
theorem oW_none {α : Type} {Q : α → Prop} : oW none Q = False := propext ⟨fun ⟨_, e, _⟩ => (nomatch e), False.elim⟩
theorem oW_map {α β : Type} {x : Option α} {f : α → β} {R : β → Prop} : oW (x.map f) R = oW x fun a => R (f a) := by
  cases x with
  | none => rw [Option.map_none, oW_none, oW_none]
  | some k => rw [Option.map_some, oW_some, oW_some]
theorem oW_bind {α β : Type} {x : Option α} {f : α → Option β} {R : β → Prop} : oW (x.bind f) R = oW x fun a => oW (f a) R := by
  cases x with
  | none => rw [Option.bind_none, oW_none, oW_none]
  | some k => rw [Option.bind_some, oW_some]
theorem oW_if {α : Type} {c : Prop} [Decidable c] {a : α} {R : α → Prop} : oW (if c then some a else none) R = (c ∧ R a) := by
  by_cases q : c
  · rw [if_pos q, oW_some]; simp [q]
  · rw [if_neg q, oW_none]
    exact propext ⟨False.elim, fun z => absurd z.1 q⟩
theorem wp_ok {α : Type} {a : α} {h : Hp} {E : String → Hp → Prop} {Q : α → Hp → Prop} : (Out.ok a h).wp E Q = Q a h := rfl
theorem wp_ofO {α : Type} {x : Option α} {h : Hp} {E : String → Hp → Prop} {Q : α → Hp → Prop} : (ofO x h).wp E Q = oW x fun a => Q a h := by
  cases x with
  | none => rw [oW_none] <;> rfl
  | some a => rw [oW_some] <;> rfl
theorem wp_bd {α β : Type} {x : Out α} {f : α → Hp → Out β} {E : String → Hp → Prop} {Q : β → Hp → Prop} : (x.bd f).wp E Q = x.wp E fun a h => (f a h).wp E Q := by cases x <;> rfl
theorem wp_fl {α : Type} {x : Out α} {ρ : Env} {f : α → Hp → Fl} {P : Po} : (x.fl ρ f).wp P = x.wp (fun c h => P.ex c ρ h) fun a h => (f a h).wp P := by cases x <;> rfl
theorem wp_sq {x : Fl} {f : Env → Hp → Fl} {P : Po} : (x.sq f).wp P = x.wp ⟨fun ρ h => (f ρ h).wp P, P.rt, P.bk, P.ct, P.ex⟩ := by cases x <;> rfl
theorem wp_imp {α : Type} {x : Out α} {E : String → Hp → Prop} {Q Q' : α → Hp → Prop} (h : x.wp E Q) (f : ∀ a h, Q a h → Q' a h) : x.wp E Q' := by
  cases x with
  | ok a h' => exact f _ _ h
  | exc c h' => exact h
  | bad => exact h
theorem wp_cg {α : Type} {x : Out α} {E : String → Hp → Prop} {Q Q' : α → Hp → Prop} (f : ∀ a h, Q a h = Q' a h) : x.wp E Q = x.wp E Q' := by
  cases x with
  | ok a h' => exact f _ _
  | _ => rfl

/-- a slot's value -/
def lk : Nat → Env → Option D
  | _, [] => none
  | 0, x :: _ => x
  | n + 1, _ :: r => lk n r
theorem lk_eq : ∀ (i : Nat) (ρ : Env), lk i ρ = (match ρ[i]? with
    | some (some d) => some d
    | _ => none)
  | _, [] => by simp [lk]
  | 0, x :: r => by cases x <;> simp [lk]
  | n + 1, x :: r => by simp [lk, lk_eq n r]
theorem lk_0 {x : Option D} {r : Env} : lk 0 (x :: r) = x := by simp [lk]
theorem lk_s {n : Nat} {x : Option D} {r : Env} : lk (n + 1) (x :: r) = lk n r := by simp [lk]
/-- a slot is set -/
def st : Nat → D → Env → Env
  | _, _, [] => []
  | 0, d, _ :: r => some d :: r
  | n + 1, d, x :: r => x :: st n d r
theorem st_eq : ∀ (i : Nat) (d : D) (ρ : Env), ρ.set i (some d) = st i d ρ
  | _, _, [] => by simp [st]
  | 0, _, _ :: _ => by simp [st]
  | n + 1, d, x :: r => by simp [st, st_eq n d r]
theorem st_0 {d : D} {x : Option D} {r : Env} : st 0 d (x :: r) = some d :: r := by simp [st]
theorem st_s {n : Nat} {d : D} {x : Option D} {r : Env} : st (n + 1) d (x :: r) = x :: st n d r := by simp [st]

section
variable {C : Ctx} {ρ : Env} {h : Hp} {E' : String → Hp → Prop} {Q : D → Hp → Prop} {Qs : List D → Hp → Prop} {P : Po} {a b c e o : E} {es ms : List E}
theorem w_non : (ev C .non ρ h).wp E' Q = Q .non h := by rw [ev, wp_ok]
theorem w_bl {x : Bool} : (ev C (.bl x) ρ h).wp E' Q = Q (.bl x) h := by rw [ev, wp_ok]
theorem w_int {i : Int} : (ev C (.int i) ρ h).wp E' Q = Q (.int i) h := by rw [ev, wp_ok]
theorem w_str {s : List Nat} : (ev C (.str s) ρ h).wp E' Q = Q (.str s) h := by rw [ev, wp_ok]
/-- the value as it stands -/
def kV (Q : D → Hp → Prop) (h : Hp) (d : D) : Prop := Q d h
theorem kV_ {d : D} : kV Q h d = Q d h := rfl
theorem w_var {i : Nat} : (ev C (.var i) ρ h).wp E' Q = oW (lk i ρ) (kV Q h) := by
  rw [ev, lk_eq]
  cases ρ[i]? with
  | none => exact propext ⟨fun q => q.elim, fun ⟨_, e, _⟩ => nomatch e⟩
  | some x =>
    cases x with
    | none => exact propext ⟨fun q => q.elim, fun ⟨_, e, _⟩ => nomatch e⟩
    | some d => rw [oW_some] <;> rfl
theorem w_glo {x : String} : (ev C (.glo x) ρ h).wp E' Q = oW (C.glo x) (kV Q h) := by rw [ev, wp_ofO]; rfl
/-- two operands -/
def k2b (f : D → D → Hp → Option D) (x : D) (Q : D → Hp → Prop) (y : D) (h : Hp) : Prop := oW (f x y h) (kV Q h)
def k2a (C : Ctx) (f : D → D → Hp → Option D) (b : E) (ρ : Env) (E' : String → Hp → Prop) (Q : D → Hp → Prop) (x : D) (h : Hp) : Prop := (ev C b ρ h).wp E' (k2b f x Q)
theorem k2a_ {f : D → D → Hp → Option D} {x : D} : k2a C f b ρ E' Q x h = (ev C b ρ h).wp E' (k2b f x Q) := rfl
theorem k2b_ {f : D → D → Hp → Option D} {x y : D} : k2b f x Q y h = oW (f x y h) (kV Q h) := rfl
def cmpD (p : CO) (x y : D) (h : Hp) : Option D := (cmpV p x y h).map .bl
theorem w_bin {p : BO} : (ev C (.bin p a b) ρ h).wp E' Q = (ev C a ρ h).wp E' (k2a C (binV p) b ρ E' Q) := by
  rw [ev, wp_bd]
  exact wp_cg fun x h1 => by
    rw [wp_bd]
    exact wp_cg fun y h2 => by rw [wp_ofO]; rfl
theorem w_cmp {p : CO} : (ev C (.cmp p a b) ρ h).wp E' Q = (ev C a ρ h).wp E' (k2a C (cmpD p) b ρ E' Q) := by
  rw [ev, wp_bd]
  exact wp_cg fun x h1 => by
    rw [wp_bd]
    exact wp_cg fun y h2 => by rw [wp_ofO]; rfl
theorem w_idx : (ev C (.idx a b) ρ h).wp E' Q = (ev C a ρ h).wp E' (k2a C idxV b ρ E' Q) := by
  rw [ev, wp_bd]
  exact wp_cg fun x h1 => by
    rw [wp_bd]
    exact wp_cg fun y h2 => by rw [wp_ofO]; rfl
/-- one operand -/
def k1 (f : D → Hp → Option D) (Q : D → Hp → Prop) (x : D) (h : Hp) : Prop := oW (f x h) (kV Q h)
theorem k1_ {f : D → Hp → Option D} {x : D} : k1 f Q x h = oW (f x h) (kV Q h) := rfl
def negV (x : D) (_ : Hp) : Option D := match x with
  | .int i => some (.int (-i))
  | _ => none
def notV (x : D) (h : Hp) : Option D := (truth x h).map fun b => .bl (!b)
def isNV (x : D) (_ : Hp) : Option D := some (.bl (decide (x = .non)))
def notNV (x : D) (_ : Hp) : Option D := some (.bl (!decide (x = .non)))
def isBV (k neg : Bool) (x : D) (_ : Hp) : Option D := match x with
  | .bl c => some (.bl (if neg then !(c == k) else c == k))
  | _ => none
def isiV (t : Ty) (sub : String → String → Option Bool) (x : D) (h : Hp) : Option D := (tyV x t h sub).map .bl
theorem w_neg : (ev C (.neg a) ρ h).wp E' Q = (ev C a ρ h).wp E' (k1 negV Q) := by
  rw [ev, wp_bd]
  exact wp_cg fun x h1 => by
    unfold k1 negV
    cases x <;> first | (rw [oW_some] <;> rfl) | (rw [oW_none] <;> rfl)
theorem w_not : (ev C (.not a) ρ h).wp E' Q = (ev C a ρ h).wp E' (k1 notV Q) := by
  rw [ev, wp_bd]
  exact wp_cg fun x h1 => by rw [wp_ofO]; rfl
theorem w_isN : (ev C (.isN a) ρ h).wp E' Q = (ev C a ρ h).wp E' (k1 isNV Q) := by
  rw [ev, wp_bd]
  exact wp_cg fun x h1 => by unfold k1 isNV; rw [oW_some]; rfl
theorem w_notN : (ev C (.notN a) ρ h).wp E' Q = (ev C a ρ h).wp E' (k1 notNV Q) := by
  rw [ev, wp_bd]
  exact wp_cg fun x h1 => by unfold k1 notNV; rw [oW_some]; rfl
theorem w_isB {k neg : Bool} : (ev C (.isB a k neg) ρ h).wp E' Q = (ev C a ρ h).wp E' (k1 (isBV k neg) Q) := by
  rw [ev, wp_bd]
  exact wp_cg fun x h1 => by
    unfold k1 isBV
    cases x <;> first | (rw [oW_some] <;> rfl) | (rw [oW_none] <;> rfl)
theorem w_isi {t : Ty} : (ev C (.isi a t) ρ h).wp E' Q = (ev C a ρ h).wp E' (k1 (isiV t C.isb) Q) := by
  rw [ev, wp_bd]
  exact wp_cg fun x h1 => by rw [wp_ofO]; rfl
theorem w_rev : (ev C (.rev a) ρ h).wp E' Q = (ev C a ρ h).wp E' (k1 revV Q) := by
  rw [ev, wp_bd]
  exact wp_cg fun x h1 => by rw [wp_ofO]; rfl
/-! and, or -/
/-- which way -/
def kC (T F : Hp → Prop) (h : Hp) (k : Bool) : Prop := if k = true then T h else F h
def kA (C : Ctx) (es : List E) (ρ : Env) (E' : String → Hp → Prop) (Q : D → Hp → Prop) (h : Hp) : Prop := (evA C es ρ h).wp E' Q
def kO (C : Ctx) (es : List E) (ρ : Env) (E' : String → Hp → Prop) (Q : D → Hp → Prop) (h : Hp) : Prop := (evO C es ρ h).wp E' Q
def kX (x : D) (Q : D → Hp → Prop) (h : Hp) : Prop := Q x h
def kE (C : Ctx) (a : E) (ρ : Env) (E' : String → Hp → Prop) (Q : D → Hp → Prop) (h : Hp) : Prop := (ev C a ρ h).wp E' Q
theorem kA_ : kA C es ρ E' Q h = (evA C es ρ h).wp E' Q := rfl
theorem kO_ : kO C es ρ E' Q h = (evO C es ρ h).wp E' Q := rfl
theorem kX_ {x : D} : kX x Q h = Q x h := rfl
theorem kE_ : kE C a ρ E' Q h = (ev C a ρ h).wp E' Q := rfl
theorem kC_t {T F : Hp → Prop} : kC T F h true = T h := by simp [kC]
theorem kC_f {T F : Hp → Prop} : kC T F h false = F h := by simp [kC]
/-- both ways, when it is not known which -/
theorem kC_if {T F : Hp → Prop} {k : Bool} (t : k = true → T h) (f : k = false → F h) : kC T F h k := by
  cases k with
  | true => rw [kC_t]; exact t rfl
  | false => rw [kC_f]; exact f rfl
theorem kC_dec {T F : Hp → Prop} {p : Prop} [Decidable p] (t : p → T h) (f : ¬ p → F h) : kC T F h (decide p) := kC_if (fun e => t (of_decide_eq_true e)) fun e => f (of_decide_eq_false e)
theorem kC_ndec {T F : Hp → Prop} {p : Prop} [Decidable p] (t : ¬ p → T h) (f : p → F h) : kC T F h (!decide p) := kC_if (fun e => t (by simpa using e)) fun e => f (by simpa using e)
def kAnd (C : Ctx) (es : List E) (ρ : Env) (E' : String → Hp → Prop) (Q : D → Hp → Prop) (x : D) (h : Hp) : Prop := oW (truth x h) (kC (kA C es ρ E' Q) (kX x Q) h)
def kOr (C : Ctx) (es : List E) (ρ : Env) (E' : String → Hp → Prop) (Q : D → Hp → Prop) (x : D) (h : Hp) : Prop := oW (truth x h) (kC (kX x Q) (kO C es ρ E' Q) h)
theorem kAnd_ {x : D} : kAnd C es ρ E' Q x h = oW (truth x h) (kC (kA C es ρ E' Q) (kX x Q) h) := rfl
theorem kOr_ {x : D} : kOr C es ρ E' Q x h = oW (truth x h) (kC (kX x Q) (kO C es ρ E' Q) h) := rfl
theorem w_and : (ev C (.and es) ρ h).wp E' Q = (evA C es ρ h).wp E' Q := by rw [ev]
theorem w_or : (ev C (.or es) ρ h).wp E' Q = (evO C es ρ h).wp E' Q := by rw [ev]
theorem wA_one : (evA C [a] ρ h).wp E' Q = (ev C a ρ h).wp E' Q := by
  rw [evA]
  cases ev C a ρ h <;> rfl
theorem wA_more : (evA C (a :: b :: es) ρ h).wp E' Q = (ev C a ρ h).wp E' (kAnd C (b :: es) ρ E' Q) := by
  rw [evA, wp_bd]
  exact wp_cg fun x h1 => by
    rw [kAnd_]
    cases truth x h1 with
    | none => rw [oW_none] <;> rfl
    | some k =>
      rw [oW_some]
      cases k with
      | true => rw [kC_t, kA_]
      | false => rw [kC_f, kX_] <;> rfl
theorem wO_one : (evO C [a] ρ h).wp E' Q = (ev C a ρ h).wp E' Q := by
  rw [evO]
  cases ev C a ρ h <;> rfl
theorem wO_more : (evO C (a :: b :: es) ρ h).wp E' Q = (ev C a ρ h).wp E' (kOr C (b :: es) ρ E' Q) := by
  rw [evO, wp_bd]
  exact wp_cg fun x h1 => by
    rw [kOr_]
    cases truth x h1 with
    | none => rw [oW_none] <;> rfl
    | some k =>
      rw [oW_some]
      cases k with
      | true => rw [kC_t, kX_] <;> rfl
      | false => rw [kC_f, kO_]
/-! a chain -/
def kCh3 (q : CO) (C : Ctx) (y : D) (c : E) (ρ : Env) (E' : String → Hp → Prop) (Q : D → Hp → Prop) (h : Hp) : Prop := (ev C c ρ h).wp E' (k2b (cmpD q) y Q)
def kCh2 (p q : CO) (C : Ctx) (x : D) (c : E) (ρ : Env) (E' : String → Hp → Prop) (Q : D → Hp → Prop) (y : D) (h : Hp) : Prop := oW (cmpV p x y h) (kC (kCh3 q C y c ρ E' Q) (kX (.bl false) Q) h)
def kCh1 (p q : CO) (C : Ctx) (b c : E) (ρ : Env) (E' : String → Hp → Prop) (Q : D → Hp → Prop) (x : D) (h : Hp) : Prop := (ev C b ρ h).wp E' (kCh2 p q C x c ρ E' Q)
theorem kCh3_ {q : CO} {y : D} : kCh3 q C y c ρ E' Q h = (ev C c ρ h).wp E' (k2b (cmpD q) y Q) := rfl
theorem kCh2_ {p q : CO} {x y : D} : kCh2 p q C x c ρ E' Q y h = oW (cmpV p x y h) (kC (kCh3 q C y c ρ E' Q) (kX (.bl false) Q) h) := rfl
theorem kCh1_ {p q : CO} {x : D} : kCh1 p q C b c ρ E' Q x h = (ev C b ρ h).wp E' (kCh2 p q C x c ρ E' Q) := rfl
theorem w_chain {p q : CO} : (ev C (.chain p q a b c) ρ h).wp E' Q = (ev C a ρ h).wp E' (kCh1 p q C b c ρ E' Q) := by
  rw [ev, wp_bd]
  exact wp_cg fun x h1 => by
    rw [wp_bd]
    exact wp_cg fun y h2 => by
      rw [kCh2_]
      cases cmpV p x y h2 with
      | none => rw [oW_none] <;> rfl
      | some k =>
        rw [oW_some]
        cases k with
        | true =>
          rw [kC_t, kCh3_]
          show Out.wp ((ev C c ρ h2).bd fun z h3 => ofO ((cmpV q y z h3).map .bl) h3) E' Q = _
          rw [wp_bd]
          exact wp_cg fun z h3 => by rw [wp_ofO]; rfl
        | false => rw [kC_f, kX_] <;> rfl
def kIte (C : Ctx) (a b : E) (ρ : Env) (E' : String → Hp → Prop) (Q : D → Hp → Prop) (x : D) (h : Hp) : Prop := oW (truth x h) (kC (kE C a ρ E' Q) (kE C b ρ E' Q) h)
theorem kIte_ {x : D} : kIte C a b ρ E' Q x h = oW (truth x h) (kC (kE C a ρ E' Q) (kE C b ρ E' Q) h) := rfl
theorem w_ite : (ev C (.ite c a b) ρ h).wp E' Q = (ev C c ρ h).wp E' (kIte C a b ρ E' Q) := by
  rw [ev, wp_bd]
  exact wp_cg fun x h1 => by
    rw [kIte_]
    cases truth x h1 with
    | none => rw [oW_none] <;> rfl
    | some k =>
      rw [oW_some]
      cases k with
      | true => rw [kC_t, kE_]
      | false => rw [kC_f, kE_]
/-! calls -/
def kCall (C : Ctx) (f : String × String) (E' : String → Hp → Prop) (Q : D → Hp → Prop) (ds : List D) (h : Hp) : Prop := (C.fn f ds h).wp E' Q
def kBi (f : Bi) (E' : String → Hp → Prop) (Q : D → Hp → Prop) (ds : List D) (h : Hp) : Prop := (biV f ds h).wp E' Q
theorem kCall_ {f : String × String} {ds : List D} : kCall C f E' Q ds h = (C.fn f ds h).wp E' Q := rfl
theorem kBi_ {f : Bi} {ds : List D} : kBi f E' Q ds h = (biV f ds h).wp E' Q := rfl
theorem w_call {f : String} : (ev C (.call f es) ρ h).wp E' Q = (evs C es ρ h).wp E' (kCall C ("", f) E' Q) := by rw [ev, wp_bd]; rfl
theorem w_bi {f : Bi} : (ev C (.bi f es) ρ h).wp E' Q = (evr C es ρ h).wp E' (kBi f E' Q) := by rw [ev, wp_bd]; rfl
/-- a method -/
def mtV (C : Ctx) (m : String) (es : List E) (ρ : Env) (x : D) (h1 : Hp) : Out D := match insOf x h1 with
    | some p => if C.hm (p.1, m) = true ∧ (lookF m p.2).isNone = true then (evs C es ρ h1).bd fun ds h2 => C.fn (p.1, m) (x :: ds) h2 else .bad
    | none => if mok m (kindD x h1) = true then (evs C es ρ h1).bd fun ds h2 => if kindD x h2 = kindD x h1 then mthV m x ds h2 else .bad else .bad
def kMth (C : Ctx) (m : String) (es : List E) (ρ : Env) (E' : String → Hp → Prop) (Q : D → Hp → Prop) (x : D) (h : Hp) : Prop := (mtV C m es ρ x h).wp E' Q
theorem kMth_ {m : String} {x : D} : kMth C m es ρ E' Q x h = (mtV C m es ρ x h).wp E' Q := rfl
theorem w_mth {m : String} : (ev C (.mth m o es) ρ h).wp E' Q = (ev C o ρ h).wp E' (kMth C m es ρ E' Q) := by rw [ev, wp_bd]; rfl
/-- a method of a built-in type: the arguments, then the method -/
def kMt2 (m : String) (x : D) (k : Nat) (E' : String → Hp → Prop) (Q : D → Hp → Prop) (ds : List D) (h : Hp) : Prop := (if kindD x h = k then mthV m x ds h else .bad).wp E' Q
theorem kMt2_ {m : String} {x : D} {k : Nat} {ds : List D} (hk : kindD x h = k) : kMt2 m x k E' Q ds h = (mthV m x ds h).wp E' Q := by
  unfold kMt2
  rw [if_pos hk]
theorem mt_go {m : String} {x : D} (hi : insOf x h = none) (hm : mok m (kindD x h) = true) : (mtV C m es ρ x h).wp E' Q = (evs C es ρ h).wp E' (kMt2 m x (kindD x h) E' Q) := by
  unfold mtV
  rw [hi]
  show Out.wp (if mok m (kindD x h) = true then _ else _) E' Q = _
  rw [if_pos hm, wp_bd]
  rfl
theorem kind_str {s : List Nat} : kindD (.str s) h = 1 := rfl
theorem mt_str {m : String} {s : List Nat} (hm : mok m 1 = true) : (mtV C m es ρ (.str s) h).wp E' Q = (evs C es ρ h).wp E' (kMt2 m (.str s) 1 E' Q) := mt_go rfl hm
theorem mt_str2 {m : String} {s : List Nat} {ds : List D} : kMt2 m (.str s) 1 E' Q ds h = (strM m s ds h).wp E' Q := kMt2_ rfl
theorem mt_lst {m : String} {n : Nat} {xs : List D} (g : get h n = some (.lst xs)) (hm : mok m 2 = true) : (mtV C m es ρ (.ref n) h).wp E' Q = (evs C es ρ h).wp E' (kMt2 m (.ref n) 2 E' Q) := by
  have hk : kindD (.ref n) h = 2 := by simp only [kindD, g]
  have hi : insOf (.ref n) h = none := by simp only [insOf, g]
  have := mt_go (C := C) (es := es) (ρ := ρ) (E' := E') (Q := Q) hi (by rw [hk]; exact hm)
  rw [hk] at this
  exact this
theorem mt_lst2 {m : String} {n : Nat} {xs ds : List D} (g : get h n = some (.lst xs)) : kMt2 m (.ref n) 2 E' Q ds h = (lstM m n xs ds h).wp E' Q := by
  rw [kMt2_ (by simp only [kindD, g])]
  unfold mthV
  simp only [g]
/-! own classes -/
def kMi (C : Ctx) (c m : String) (a : Nat) (E' : String → Hp → Prop) (Q : D → Hp → Prop) (ds : List D) (h : Hp) : Prop := (C.fn (c, m) (.ref a :: ds) h).wp E' Q
theorem kMi_ {c m : String} {n : Nat} {ds : List D} : kMi C c m n E' Q ds h = (C.fn (c, m) (.ref n :: ds) h).wp E' Q := rfl
theorem mt_ins {c m : String} {n : Nat} {fs : List (String × D)} (g : get h n = some (.ins c fs)) (hm : C.hm (c, m) = true) (hn : lookF m fs = none) : (mtV C m es ρ (.ref n) h).wp E' Q = (evs C es ρ h).wp E' (kMi C c m n E' Q) := by
  have hi : insOf (.ref n) h = some (c, fs) := by simp only [insOf, g]
  unfold mtV
  rw [hi]
  show Out.wp (if C.hm (c, m) = true ∧ (lookF m fs).isNone = true then _ else _) E' Q = _
  rw [if_pos ⟨hm, by rw [hn]; rfl⟩, wp_bd]
  rfl
def fldV (f : String) (x : D) (h : Hp) : Option D := (insOf x h).bind fun p => lookF f p.2
theorem w_fld {f : String} : (ev C (.fld a f) ρ h).wp E' Q = (ev C a ρ h).wp E' (k1 (fldV f) Q) := by
  rw [ev, wp_bd]
  exact wp_cg fun x h1 => by
    unfold k1 fldV
    cases x with
    | ref n =>
      show Out.wp (match get h1 n with
        | some (.ins _ fs) => ofO (lookF f fs) h1
        | _ => .bad) E' Q = _
      cases g : get h1 n with
      | none => simp only [insOf, g]; rw [Option.bind_none, oW_none]; rfl
      | some o =>
        cases o with
        | ins c fs =>
          simp only [insOf, g, Option.bind_some]
          rw [wp_ofO]
          rfl
        | _ => simp only [insOf, g]; rw [Option.bind_none, oW_none]; rfl
    | _ => exact (oW_none (Q := kV Q h1)).symm
theorem fld_ref {f : String} {c : String} {n : Nat} {fs : List (String × D)} (g : get h n = some (.ins c fs)) : fldV f (.ref n) h = lookF f fs := by
  unfold fldV
  simp only [insOf, g, Option.bind_some]
def kNw2 (n : Nat) (Q : D → Hp → Prop) (r : D) (h : Hp) : Prop := r = .non ∧ Q (.ref n) h
def kNw1 (C : Ctx) (c : String) (Q : D → Hp → Prop) (ds : List D) (h : Hp) : Prop := (C.fi (c, "__init__") (.ref h.length :: ds) (.ins c [] :: h)).wp (fun _ _ => False) (kNw2 h.length Q)
theorem kNw1_ {c : String} {ds : List D} : kNw1 C c Q ds h = (C.fi (c, "__init__") (.ref h.length :: ds) (.ins c [] :: h)).wp (fun _ _ => False) (kNw2 h.length Q) := rfl
theorem kNw2_ {n : Nat} {r : D} : kNw2 n Q r h = (r = .non ∧ Q (.ref n) h) := rfl
theorem w_new {c : String} : (ev C (.new c es) ρ h).wp E' Q = (evs C es ρ h).wp E' (kNw1 C c Q) := by
  rw [ev, wp_bd]
  exact wp_cg fun ds h1 => by
    rw [wp_bd, kNw1_]
    cases C.fi (c, "__init__") (.ref h1.length :: ds) (.ins c [] :: h1) with
    | bad => rfl
    | exc k h2 => rfl
    | ok r h2 =>
      show Out.wp (match r with
        | .non => .ok (.ref h1.length) h2
        | _ => .bad) E' Q = kNw2 h1.length Q r h2
      unfold kNw2
      cases r <;> simp [Out.wp]
theorem w_dic {t : Bool} : (ev C (.dic t [] []) ρ h).wp E' Q = Q (.ref h.length) (.dic t [] :: h) := by
  rw [ev]
  rfl
/-! list(a walk) -/
def kLs2 (k : IK) (x : D) (Q : D → Hp → Prop) (y : D) (h : Hp) : Prop := oW ((walkV k x y h).map D.lst) (kV Q h)
def kLs1 (C : Ctx) (k : IK) (b : E) (ρ : Env) (E' : String → Hp → Prop) (Q : D → Hp → Prop) (x : D) (h : Hp) : Prop := (evN b (ev C b) ρ h).wp E' (kLs2 k x Q)
theorem kLs2_ {k : IK} {x y : D} : kLs2 k x Q y h = oW ((walkV k x y h).map D.lst) (kV Q h) := rfl
theorem kLs1_ {k : IK} {x : D} : kLs1 C k b ρ E' Q x h = (evN b (ev C b) ρ h).wp E' (kLs2 k x Q) := rfl
theorem w_lsI {k : IK} : (ev C (.lsI k a b) ρ h).wp E' Q = (ev C a ρ h).wp E' (kLs1 C k b ρ E' Q) := by
  rw [ev, wp_bd]
  exact wp_cg fun x h1 => by
    rw [wp_bd, kLs1_]
    exact wp_cg fun y h2 => by
      rw [wp_ofO]
      rfl
/-! slices -/
def kSl3 (x : D) (l : Option Int) (Q : D → Hp → Prop) (u : Option Int) (h : Hp) : Prop := oW (slcV x l u h) (kV Q h)
def kSl2 (C : Ctx) (hi : E) (x : D) (ρ : Env) (E' : String → Hp → Prop) (Q : D → Hp → Prop) (l : Option Int) (h : Hp) : Prop := (evI hi (ev C hi) ρ h).wp E' (kSl3 x l Q)
def kSl1 (C : Ctx) (lo hi : E) (ρ : Env) (E' : String → Hp → Prop) (Q : D → Hp → Prop) (x : D) (h : Hp) : Prop := (evI lo (ev C lo) ρ h).wp E' (kSl2 C hi x ρ E' Q)
theorem kSl3_ {x : D} {l u : Option Int} : kSl3 x l Q u h = oW (slcV x l u h) (kV Q h) := rfl
theorem kSl2_ {x : D} {l : Option Int} : kSl2 C a x ρ E' Q l h = (evI a (ev C a) ρ h).wp E' (kSl3 x l Q) := rfl
theorem kSl1_ {x : D} : kSl1 C a b ρ E' Q x h = (evI a (ev C a) ρ h).wp E' (kSl2 C b x ρ E' Q) := rfl
theorem w_slc {lo hi : E} : (ev C (.slc a lo hi) ρ h).wp E' Q = (ev C a ρ h).wp E' (kSl1 C lo hi ρ E' Q) := by
  rw [ev, wp_bd]
  exact wp_cg fun x h1 => by
    rw [wp_bd]
    exact wp_cg fun l h2 => by
      rw [wp_bd]
      exact wp_cg fun u h3 => by rw [wp_ofO]; rfl
def kOpt (R : Option Int → Hp → Prop) (x : D) (h : Hp) : Prop := oW (optI x) fun i => R i h
theorem kOpt_ {R : Option Int → Hp → Prop} {i : Int} : kOpt R (.int i) h = R (some i) h := by
  unfold kOpt
  show oW (some (some i)) _ = _
  rw [oW_some]
theorem wI_nil {R : Option Int → Hp → Prop} : (evI .nil (ev C .nil) ρ h).wp E' R = R none h := rfl
theorem wI_some {R : Option Int → Hp → Prop} (hn : a.isNil = false) : (evI a (ev C a) ρ h).wp E' R = (ev C a ρ h).wp E' (kOpt R) := by
  unfold evI
  rw [hn, if_neg Bool.false_ne_true, wp_bd]
  exact wp_cg fun x h1 => by rw [wp_ofO]; rfl
theorem wI_int {R : Option Int → Hp → Prop} {i : Int} : (evI (.int i) (ev C (.int i)) ρ h).wp E' R = R (some i) h := by rw [wI_some rfl, w_int, kOpt_]
theorem wI_var {R : Option Int → Hp → Prop} {i : Nat} : (evI (.var i) (ev C (.var i)) ρ h).wp E' R = (ev C (.var i) ρ h).wp E' (kOpt R) := wI_some rfl
theorem wI_bin {R : Option Int → Hp → Prop} {p : BO} : (evI (.bin p a b) (ev C (.bin p a b)) ρ h).wp E' R = (ev C (.bin p a b) ρ h).wp E' (kOpt R) := wI_some rfl
theorem wI_neg {R : Option Int → Hp → Prop} : (evI (.neg a) (ev C (.neg a)) ρ h).wp E' R = (ev C (.neg a) ρ h).wp E' (kOpt R) := wI_some rfl
/-! displays, arguments -/
def kTup (Q : D → Hp → Prop) (ds : List D) (h : Hp) : Prop := Q (.tup ds) h
def kLst (Q : D → Hp → Prop) (ds : List D) (h : Hp) : Prop := Q (.lst ds) h
theorem kTup_ {ds : List D} : kTup Q ds h = Q (.tup ds) h := rfl
theorem kLst_ {ds : List D} : kLst Q ds h = Q (.lst ds) h := rfl
theorem w_tup : (ev C (.tup es) ρ h).wp E' Q = (evs C es ρ h).wp E' (kTup Q) := by rw [ev, wp_bd]; rfl
theorem w_lst : (ev C (.lst es) ρ h).wp E' Q = (evs C es ρ h).wp E' (kLst Q) := by rw [ev, wp_bd]; rfl
def kCo (x : D) (Qs : List D → Hp → Prop) (ds : List D) (h : Hp) : Prop := Qs (x :: ds) h
def kAr (C : Ctx) (es : List E) (ρ : Env) (E' : String → Hp → Prop) (Qs : List D → Hp → Prop) (d : D) (h : Hp) : Prop := (evs C es ρ (sto d h).2).wp E' (kCo (sto d h).1 Qs)
def kAq (C : Ctx) (es : List E) (ρ : Env) (E' : String → Hp → Prop) (Qs : List D → Hp → Prop) (d : D) (h : Hp) : Prop := (evr C es ρ h).wp E' (kCo d Qs)
theorem kCo_ {x : D} {ds : List D} : kCo x Qs ds h = Qs (x :: ds) h := rfl
theorem kAr_ {d : D} : kAr C es ρ E' Qs d h = (evs C es ρ (sto d h).2).wp E' (kCo (sto d h).1 Qs) := rfl
theorem kAq_ {d : D} : kAq C es ρ E' Qs d h = (evr C es ρ h).wp E' (kCo d Qs) := rfl
theorem ws_nil : (evs C [] ρ h).wp E' Qs = Qs [] h := by rw [evs, wp_ok]
theorem ws_cons : (evs C (a :: es) ρ h).wp E' Qs = (ev C a ρ h).wp E' (kAr C es ρ E' Qs) := by
  rw [evs, wp_bd]
  exact wp_cg fun d h1 => by rw [wp_bd]; rfl
theorem wr_nil : (evr C [] ρ h).wp E' Qs = Qs [] h := by rw [evr, wp_ok]
theorem wr_cons : (evr C (a :: es) ρ h).wp E' Qs = (ev C a ρ h).wp E' (kAq C es ρ E' Qs) := by
  rw [evr, wp_bd]
  exact wp_cg fun d h1 => by rw [wp_bd]; rfl

/-! ### statements -/
/-- an exception out of a value -/
def xE (P : Po) (ρ : Env) (c : String) (h : Hp) : Prop := P.ex c ρ h
/-- the rest -/
def sqP (C : Ctx) (r : List S) (P : Po) : Po := ⟨fun ρ h => (exs C r ρ h).wp P, P.rt, P.bk, P.ct, P.ex⟩
theorem sq_nx {r : List S} : (sqP C r P).nx ρ h = (exs C r ρ h).wp P := rfl
theorem sq_rt {r : List S} : (sqP C r P).rt = P.rt := rfl
theorem sq_bk {r : List S} : (sqP C r P).bk = P.bk := rfl
theorem sq_ct {r : List S} : (sqP C r P).ct = P.ct := rfl
theorem sq_ex {r : List S} : (sqP C r P).ex = P.ex := rfl
theorem x_nil : (exs C [] ρ h).wp P = P.nx ρ h := by rw [exs]; rfl
theorem x_cons {s : S} {r : List S} : (exs C (s :: r) ρ h).wp P = (ex C s ρ h).wp (sqP C r P) := by rw [exs, wp_sq]; rfl
def kAsg (i : Nat) (ρ : Env) (P : Po) (d : D) (h : Hp) : Prop := P.nx (st i (sto d h).1 ρ) (sto d h).2
theorem kAsg_ {i : Nat} {d : D} : kAsg i ρ P d h = P.nx (st i (sto d h).1 ρ) (sto d h).2 := rfl
theorem x_asg {i : Nat} : (ex C (.asg (.v i) e) ρ h).wp P = (ev C e ρ h).wp (xE P ρ) (kAsg i ρ P) := by
  rw [ex, wp_fl]
  exact wp_cg fun d h1 => by
    show P.nx (ρ.set i (some (sto d h1).1)) (sto d h1).2 = _
    rw [st_eq] <;> rfl
/-- names one by one -/
def kBnd (P : Po) (h : Hp) (ρ : Env) : Prop := P.nx ρ h
theorem kBnd_ : kBnd P h ρ = P.nx ρ h := rfl
def kAst (is : List Nat) (ρ : Env) (P : Po) (d : D) (h : Hp) : Prop := oW ((seqOf (sto d h).1 (sto d h).2).bind fun xs => bind1 is xs ρ) (kBnd P (sto d h).2)
theorem kAst_ {is : List Nat} {xs : List D} : kAst is ρ P (.tup xs) h = oW (bind1 is xs ρ) (kBnd P h) := rfl
theorem x_asgt {is : List Nat} : (ex C (.asg (.t is) e) ρ h).wp P = (ev C e ρ h).wp (xE P ρ) (kAst is ρ P) := by
  rw [ex, wp_fl]
  exact wp_cg fun d h1 => by
    unfold kAst
    show Fl.wp (match (seqOf (sto d h1).1 (sto d h1).2).bind (fun xs => bind1 is xs ρ) with
      | some ρ1 => Fl.nx ρ1 (sto d h1).2
      | none => Fl.bad) P = _
    cases (seqOf (sto d h1).1 (sto d h1).2).bind fun a => bind1 is a ρ with
    | none => rw [oW_none] <;> rfl
    | some ρ1 => rw [oW_some] <;> rfl
theorem bind1_nil : bind1 [] [] ρ = some ρ := rfl
theorem bind1_cons {i : Nat} {is : List Nat} {d : D} {ds : List D} : bind1 (i :: is) (d :: ds) ρ = bind1 is ds (st i d ρ) := by rw [bind1, st_eq]
def kEx (P : Po) (ρ : Env) (_ : D) (h : Hp) : Prop := P.nx ρ h
theorem kEx_ {d : D} : kEx P ρ d h = P.nx ρ h := rfl
theorem x_ex : (ex C (.ex e) ρ h).wp P = (ev C e ρ h).wp (xE P ρ) (kEx P ρ) := by rw [ex, wp_fl]; rfl
theorem x_ret : (ex C (.ret e) ρ h).wp P = (ev C e ρ h).wp (xE P ρ) P.rt := by rw [ex, wp_fl]; rfl
def kSt (C : Ctx) (sa : List S) (ρ : Env) (P : Po) (h : Hp) : Prop := (exs C sa ρ h).wp P
theorem kSt_ {sa : List S} : kSt C sa ρ P h = (exs C sa ρ h).wp P := rfl
def kIf (C : Ctx) (sa sb : List S) (ρ : Env) (P : Po) (x : D) (h : Hp) : Prop := oW (truth x h) (kC (kSt C sa ρ P) (kSt C sb ρ P) h)
theorem kIf_ {sa sb : List S} {x : D} : kIf C sa sb ρ P x h = oW (truth x h) (kC (kSt C sa ρ P) (kSt C sb ρ P) h) := rfl
theorem x_ite {sa sb : List S} : (ex C (.ite c sa sb) ρ h).wp P = (ev C c ρ h).wp (xE P ρ) (kIf C sa sb ρ P) := by
  rw [ex, wp_fl]
  show Out.wp ((ev C c ρ h).bd fun x h1 => ofO (truth x h1) h1) _ _ = _
  rw [wp_bd]
  exact wp_cg fun x h1 => by
    rw [wp_ofO, kIf_]
    cases truth x h1 with
    | none => rw [oW_none, oW_none]
    | some k =>
      rw [oW_some, oW_some]
      cases k with
      | true => rw [kC_t, if_pos rfl, kSt_]
      | false => rw [kC_f, if_neg Bool.false_ne_true, kSt_]
theorem x_brk : (ex C .brk ρ h).wp P = P.bk ρ h := by rw [ex]; rfl
theorem x_cnt : (ex C .cnt ρ h).wp P = P.ct ρ h := by rw [ex]; rfl
theorem x_pass : (ex C .pass ρ h).wp P = P.nx ρ h := by rw [ex]; rfl
theorem x_raise {k : String} : (ex C (.raise k) ρ h).wp P = P.ex k ρ h := by rw [ex]; rfl
/-! ### o[i] = v -/
def putAt (x k d : D) (ρ : Env) (h : Hp) : Fl := match x with
  | .ref a => (match get h a with
    | some (.lst xs) => (match k with
      | .int j => if -(xs.length : Int) ≤ j ∧ j < xs.length then .nx ρ (put h a (.lst (xs.set (if 0 ≤ j then j.toNat else (j + xs.length).toNat) d))) else .bad
      | _ => .bad)
    | some (.dic t kvs) => if keyB t k = true ∧ kvs.length < 16777216 then .nx ρ (put h a (.dic t (storeD k d kvs))) else .bad
    | _ => .bad)
  | _ => .bad
def kSs3 (d x : D) (ρ : Env) (P : Po) (k : D) (h : Hp) : Prop := (putAt x k d ρ h).wp P
def kSs2 (C : Ctx) (i : E) (d : D) (ρ : Env) (P : Po) (x : D) (h : Hp) : Prop := (ev C i ρ h).wp (xE P ρ) (kSs3 d x ρ P)
def kSs1 (C : Ctx) (o i : E) (ρ : Env) (P : Po) (d : D) (h : Hp) : Prop := (ev C o ρ (sto d h).2).wp (xE P ρ) (kSs2 C i (sto d h).1 ρ P)
theorem kSs1_ {o i : E} {d : D} : kSs1 C o i ρ P d h = (ev C o ρ (sto d h).2).wp (xE P ρ) (kSs2 C i (sto d h).1 ρ P) := rfl
theorem kSs2_ {i : E} {d x : D} : kSs2 C i d ρ P x h = (ev C i ρ h).wp (xE P ρ) (kSs3 d x ρ P) := rfl
theorem kSs3_lst {a j : Nat} {xs : List D} {d : D} (g : get h a = some (.lst xs)) (hj : j < xs.length) : kSs3 d (.ref a) ρ P (.int j) h = P.nx ρ (put h a (.lst (xs.set j d))) := by
  unfold kSs3 putAt
  simp only [g]
  rw [if_pos (by omega), if_pos (by omega)]
  rfl
theorem kSs3_dic {a : Nat} {t : Bool} {kvs : List (D × D)} {d k : D} (g : get h a = some (.dic t kvs)) (hk : keyB t k = true) (hl : kvs.length < 16777216) : kSs3 d (.ref a) ρ P k h = P.nx ρ (put h a (.dic t (storeD k d kvs))) := by
  unfold kSs3 putAt
  simp only [g]
  rw [if_pos ⟨hk, hl⟩]
  rfl
theorem x_sset {o i : E} : (ex C (.sset o i e) ρ h).wp P = (ev C e ρ h).wp (xE P ρ) (kSs1 C o i ρ P) := by
  rw [ex, wp_fl]
  exact wp_cg fun d h1 => by
    rw [wp_fl, kSs1_]
    exact wp_cg fun x h2 => by
      rw [wp_fl, kSs2_]
      rfl
/-! ### o.f = e -/
def kFs2 (f : String) (d : D) (ρ : Env) (P : Po) (x : D) (h : Hp) : Prop := (match x with
    | .ref a => (match get h a with
      | some (.ins c fs) => if fs.length < 1000 then Fl.nx ρ (put h a (.ins c (putF f d fs))) else .bad
      | _ => .bad)
    | _ => .bad).wp P
def kFs1 (C : Ctx) (o : E) (f : String) (ρ : Env) (P : Po) (d : D) (h : Hp) : Prop := (ev C o ρ (sto d h).2).wp (xE P ρ) (kFs2 f (sto d h).1 ρ P)
theorem kFs1_ {o : E} {f : String} {d : D} : kFs1 C o f ρ P d h = (ev C o ρ (sto d h).2).wp (xE P ρ) (kFs2 f (sto d h).1 ρ P) := rfl
theorem kFs2_ {f c : String} {d : D} {n : Nat} {fs : List (String × D)} (g : get h n = some (.ins c fs)) (hl : fs.length < 1000) : kFs2 f d ρ P (.ref n) h = P.nx ρ (put h n (.ins c (putF f d fs))) := by
  unfold kFs2
  simp only [g, hl, if_true]
  rfl
theorem x_fset {o : E} {f : String} : (ex C (.fset o f e) ρ h).wp P = (ev C e ρ h).wp (xE P ρ) (kFs1 C o f ρ P) := by
  rw [ex, wp_fl]
  exact wp_cg fun d h1 => by
    rw [wp_fl, kFs1_]
    rfl
/-! ### try -/
def tryP (C : Ctx) (k : String) (hd : Hd) (P : Po) : Po := ⟨P.nx, P.rt, P.bk, P.ct, fun c' ρ h => match C.sub c' k with
  | some true => (handle hd c' ρ h).wp P
  | some false => P.ex c' ρ h
  | none => False⟩
theorem x_try {b : List S} {k : String} {hd : Hd} : (ex C (.tryy b k hd) ρ h).wp P = (exs C b ρ h).wp (tryP C k hd P) := by
  rw [ex]
  cases exs C b ρ h with
  | ex c' ρ1 h1 =>
    show Fl.wp (match C.sub c' k with
      | some true => handle hd c' ρ1 h1
      | some false => .ex c' ρ1 h1
      | none => .bad) P = (match C.sub c' k with
      | some true => (handle hd c' ρ1 h1).wp P
      | some false => P.ex c' ρ1 h1
      | none => False)
    cases C.sub c' k with
    | none => rfl
    | some b => cases b <;> rfl
  | _ => rfl
theorem try_nx {k : String} {hd : Hd} : (tryP C k hd P).nx = P.nx := rfl
theorem try_rt {k : String} {hd : Hd} : (tryP C k hd P).rt = P.rt := rfl
theorem try_bk {k : String} {hd : Hd} : (tryP C k hd P).bk = P.bk := rfl
theorem try_ct {k : String} {hd : Hd} : (tryP C k hd P).ct = P.ct := rfl
theorem try_ex1 {k c' : String} {hd : Hd} (q : C.sub c' k = some true) : (tryP C k hd P).ex c' ρ h = (handle hd c' ρ h).wp P := by
  show (match C.sub c' k with
    | some true => (handle hd c' ρ h).wp P
    | some false => P.ex c' ρ h
    | none => False) = _
  rw [q]
theorem try_ex0 {k c' : String} {hd : Hd} (q : C.sub c' k = some false) : (tryP C k hd P).ex c' ρ h = P.ex c' ρ h := by
  show (match C.sub c' k with
    | some true => (handle hd c' ρ h).wp P
    | some false => P.ex c' ρ h
    | none => False) = _
  rw [q]
/-! ### calls -/
theorem call_eq {P : Prog} {n : Nat} {f : String × String} {d : Fd} {ds : List D} (hf : P.fn f = some d) (hl : ds.length = d.np) : call P (n + 1) f ds h = close h (ends (exs (ctx P n) d.body (ds.map some ++ List.replicate (d.nl - d.np) none) h)) := by
  rw [call_succ, hf]
  show (if ds.length = d.np then _ else _) = _
  rw [if_pos hl]
def noX (_ : String) (_ : Hp) : Prop := False
/-- what a body has to reach -/
def bdP (h : Hp) (R : D → Hp → Prop) : Po := ⟨fun _ h1 => (closeD h .non h1).wp noX R, fun x h1 => (closeD h x h1).wp noX R, fun _ _ => False, fun _ _ => False, fun _ _ _ => False⟩
theorem bd_nx {h1 : Hp} {R : D → Hp → Prop} : (bdP h R).nx ρ h1 = (closeD h .non h1).wp noX R := rfl
theorem bd_rt {d : D} {h1 : Hp} {R : D → Hp → Prop} : (bdP h R).rt d h1 = (closeD h d h1).wp noX R := rfl
/-- what a call gives, if it gives something -/
theorem call_of {P : Prog} {n : Nat} {f : String × String} {d : Fd} {ds : List D} {R : D → Hp → Prop} (hf : P.fn f = some d) (hl : ds.length = d.np)
    (hb : (exs (ctx P n) d.body (ds.map some ++ List.replicate (d.nl - d.np) none) h).wp (bdP h R)) : (call P (n + 1) f ds h).wp noX R := by
  rw [call_eq hf hl]
  revert hb
  cases exs (ctx P n) d.body (ds.map some ++ List.replicate (d.nl - d.np) none) h <;> intro hb <;> first | exact hb | exact hb.elim
theorem close_id {d : D} : closeD h d h = .ok d h := by simp [closeD]
theorem trunc_app : ∀ (o : Hp), trunc h.length (o ++ h) = h
  | [] => trunc_le (Nat.le_refl _)
  | x :: o => by
    rw [List.cons_append, trunc_cons (by simp), trunc_app o]
/-- what was made meanwhile is forgotten -/
theorem close_app {d : D} (o : Hp) (hb : below h.length d = true) : closeD h d (o ++ h) = .ok d h := by
  cases o with
  | nil => exact close_id
  | cons x o =>
    unfold closeD
    rw [if_neg (by simp; omega), trunc_app, if_pos (by simp [gcOk]), if_pos hb]
theorem close_lst {n : Nat} {xs : List D} (o : Hp) (hg : get (o ++ h) n = some (.lst xs)) (hn : ¬ n < h.length) (hb : belows h.length xs = true) : closeD h (.ref n) (o ++ h) = .ok (.lst xs) h := by
  cases o with
  | nil => exact absurd (get_lt hg) hn
  | cons x o =>
    unfold closeD
    rw [if_neg (by simp; omega), trunc_app, if_pos (by simp [gcOk]), if_neg (by simpa [below] using hn)]
    simp only [hg, hb, if_true]
/-- a value stands as a result of a call -/
theorem wp_eq {α : Type} {x : Out α} {R : α → Prop} (w : x.wp noX fun d h1 => h1 = h ∧ R d) : ∃ d, R d ∧ x = .ok d h := by
  cases x with
  | ok a h' => obtain ⟨rfl, r⟩ := w; exact ⟨a, r, rfl⟩
  | exc c h' => exact w.elim
  | bad => exact w.elim
end
end Mi

/-! loops and comprehensions, stepped -/
namespace Mi
section
variable {C : Ctx} {ρ : Env} {h : Hp} {E' : String → Hp → Prop} {Q : D → Hp → Prop} {P : Po} {a b c e el : E} {t : Tg} {k : IK} {own : List Nat} {body : List S}
theorem wN_nil {R : D → Hp → Prop} : (evN .nil (ev C .nil) ρ h).wp E' R = R .non h := rfl
theorem wN_some {R : D → Hp → Prop} (hn : a.isNil = false) : (evN a (ev C a) ρ h).wp E' R = (ev C a ρ h).wp E' R := by
  unfold evN
  rw [hn, if_neg Bool.false_ne_true]
/-- the loop of a comprehension -/
def CompW (C : Ctx) (own : List Nat) (t : Tg) (c el : E) (ρ : Env) (as : List Nat) (h : Hp) (ds : List D) (Q : D → Hp → Prop) : Prop :=
  ((compL (compT t (wipe own ρ) h as (fun ρ1 h => ev C c ρ1 h) (fun ρ1 h => ev C el ρ1 h)) ds h).bd fun rs h3 => if same as h h3 = true then Out.ok (D.lst rs) h3 else .bad).wp noX Q
theorem calm_wp {α : Type} {x : Out α} {R : α → Hp → Prop} : x.calm.wp E' R = x.wp noX R := by cases x <;> rfl
def kCp3 (C : Ctx) (own : List Nat) (t : Tg) (c el : E) (ρ : Env) (as : List Nat) (Q : D → Hp → Prop) (h : Hp) (ds : List D) : Prop := CompW C own t c el ρ as h ds Q
def kCp2 (C : Ctx) (own : List Nat) (t : Tg) (k : IK) (c el : E) (ρ : Env) (x : D) (Q : D → Hp → Prop) (y : D) (h : Hp) : Prop := oW (walkV k x y h) (kCp3 C own t c el ρ (refs x ++ refs y) Q h)
def kCp1 (C : Ctx) (own : List Nat) (t : Tg) (k : IK) (b c el : E) (ρ : Env) (E' : String → Hp → Prop) (Q : D → Hp → Prop) (x : D) (h : Hp) : Prop := (evN b (ev C b) ρ h).wp E' (kCp2 C own t k c el ρ x Q)
theorem kCp3_ {as : List Nat} {ds : List D} : kCp3 C own t c el ρ as Q h ds = CompW C own t c el ρ as h ds Q := rfl
theorem kCp2_ {x y : D} : kCp2 C own t k c el ρ x Q y h = oW (walkV k x y h) (kCp3 C own t c el ρ (refs x ++ refs y) Q h) := rfl
theorem kCp1_ {x : D} : kCp1 C own t k b c el ρ E' Q x h = (evN b (ev C b) ρ h).wp E' (kCp2 C own t k c el ρ x Q) := rfl
theorem w_comp : (ev C (.comp own t k a b c el) ρ h).wp E' Q = (ev C a ρ h).wp E' (kCp1 C own t k b c el ρ E' Q) := by
  rw [ev, wp_bd]
  exact wp_cg fun x h1 => by
    rw [wp_bd]
    exact wp_cg fun y h2 => by
      rw [kCp2_]
      cases walkV k x y h2 with
      | none => rw [oW_none] <;> rfl
      | some ds =>
        rw [oW_some]
        exact calm_wp
theorem same_self {as : List Nat} : same as h h = true := by simp [same]
/-- item by item -/
inductive All2 {α β : Type} (R : α → β → Prop) : List α → List β → Prop
  | nil : All2 R [] []
  | cons {x : α} {y : β} {xs : List α} {ys : List β} : R x y → All2 R xs ys → All2 R (x :: xs) (y :: ys)
theorem All2.map_eq {α β : Type} {f : α → β} : ∀ {xs : List α} {ys : List β}, All2 (fun x y => y = f x) xs ys → ys = xs.map f
  | _, _, .nil => rfl
  | _, _, .cons e r => by rw [e, r.map_eq]; rfl
theorem All2.of_map {α β γ : Type} {R : β → γ → Prop} {f : α → β} : ∀ {xs : List α} {ys : List γ}, All2 R (xs.map f) ys → All2 (fun x y => R (f x) y) xs ys
  | [], _, .nil => .nil
  | _ :: _, _, .cons e r => .cons e r.of_map
theorem All2.imp {α β : Type} {R R' : α → β → Prop} (f : ∀ x y, R x y → R' x y) : ∀ {xs : List α} {ys : List β}, All2 R xs ys → All2 R' xs ys
  | _, _, .nil => .nil
  | _, _, .cons e r => .cons (f _ _ e) (r.imp f)
theorem All2.length {α β : Type} {R : α → β → Prop} : ∀ {xs : List α} {ys : List β}, All2 R xs ys → xs.length = ys.length
  | _, _, .nil => rfl
  | _, _, .cons _ r => by rw [List.length_cons, List.length_cons, r.length]
theorem All2.right {α β : Type} {R : α → β → Prop} {S : β → Prop} (f : ∀ x y, R x y → S y) : ∀ {xs : List α} {ys : List β}, All2 R xs ys → ∀ y ∈ ys, S y
  | _, _, .nil, _, h => nomatch h
  | _, _, .cons e r, y, h => by
    rcases List.mem_cons.mp h with rfl | h
    · exact f _ _ e
    · exact r.right f y h
/-! a turn that leaves the heap -/
def kTn5 (h : Hp) (R : Option D → Prop) (x : D) (h2 : Hp) : Prop := (sto x h2).2 = h ∧ R (some (sto x h2).1)
def kTn4 (h : Hp) (R : Option D → Prop) (h1 : Hp) : Prop := h1 = h ∧ R none
def kTn3 (C : Ctx) (el : E) (ρ1 : Env) (h : Hp) (R : Option D → Prop) (h1 : Hp) : Prop := (ev C el ρ1 h1).wp noX (kTn5 h R)
def kTn2 (C : Ctx) (el : E) (ρ1 : Env) (h : Hp) (R : Option D → Prop) (b : D) (h1 : Hp) : Prop := oW (truth b h1) (kC (kTn3 C el ρ1 h R) (kTn4 h R) h1)
def kTn1 (C : Ctx) (c el : E) (h : Hp) (R : Option D → Prop) (ρ1 : Env) : Prop := (ev C c ρ1 h).wp noX (kTn2 C el ρ1 h R)
def TurnW (C : Ctx) (own : List Nat) (t : Tg) (c el : E) (ρ : Env) (h : Hp) (d : D) (R : Option D → Prop) : Prop := oW (bindT t d (wipe own ρ) h) (kTn1 C c el h R)
theorem turn_ {d : D} {R : Option D → Prop} : TurnW C own t c el ρ h d R = oW (bindT t d (wipe own ρ) h) (kTn1 C c el h R) := rfl
theorem kTn1_ {R : Option D → Prop} : kTn1 C c el h R ρ = (ev C c ρ h).wp noX (kTn2 C el ρ h R) := rfl
theorem kTn2_ {R : Option D → Prop} {x : D} {h1 : Hp} : kTn2 C el ρ h R x h1 = oW (truth x h1) (kC (kTn3 C el ρ h R) (kTn4 h R) h1) := rfl
theorem kTn3_ {R : Option D → Prop} {h1 : Hp} : kTn3 C el ρ h R h1 = (ev C el ρ h1).wp noX (kTn5 h R) := rfl
theorem kTn4_ {R : Option D → Prop} {h1 : Hp} : kTn4 h R h1 = (h1 = h ∧ R none) := rfl
theorem kTn5_ {R : Option D → Prop} {x : D} {h1 : Hp} : kTn5 h R x h1 = ((sto x h1).2 = h ∧ R (some (sto x h1).1)) := rfl
theorem compL_of {R : D → Option D → Prop} {as : List Nat} : ∀ {ds : List D}, (∀ d ∈ ds, TurnW C own t c el ρ h d (R d)) →
    ∃ rs, All2 R ds rs ∧ compL (compT t (wipe own ρ) h as (fun ρ1 h => ev C c ρ1 h) (fun ρ1 h => ev C el ρ1 h)) ds h = .ok (rs.filterMap id) h
  | [], _ => ⟨[], .nil, rfl⟩
  | d :: ds, H => by
    obtain ⟨rs, r1, r2⟩ := compL_of (as := as) (ds := ds) fun d hd => H d (List.mem_cons_of_mem _ hd)
    obtain ⟨ρ1, e1, w⟩ := H d List.mem_cons_self
    rw [kTn1_] at w
    have key : ∃ r, R d r ∧ compT t (wipe own ρ) h as (fun ρ1 h => ev C c ρ1 h) (fun ρ1 h => ev C el ρ1 h) d h = .ok r h := by
      unfold compT
      rw [if_pos same_self, e1]
      cases o1 : ev C c ρ1 h with
      | exc k h1 => rw [o1] at w; exact w.elim
      | bad => rw [o1] at w; exact w.elim
      | ok b h1 =>
        rw [o1] at w
        obtain ⟨k, e2, w⟩ := (show oW (truth b h1) (kC (kTn3 C el ρ1 h (R d)) (kTn4 h (R d)) h1) from w)
        cases k with
        | false =>
          rw [kC_f] at w
          obtain ⟨q1, w1⟩ := w
          subst q1
          exact ⟨none, w1, by simp only [o1, Out.bd, e2]⟩
        | true =>
          rw [kC_t, kTn3_] at w
          cases o2 : ev C el ρ1 h1 with
          | exc k h2 => rw [o2] at w; exact w.elim
          | bad => rw [o2] at w; exact w.elim
          | ok x h2 =>
            rw [o2] at w
            obtain ⟨e3, w1⟩ := (show (sto x h2).2 = h ∧ R d (some (sto x h2).1) from w)
            exact ⟨_, w1, by simp only [o1, Out.bd, e2, o2, e3]⟩
    obtain ⟨r, k1, k2⟩ := key
    refine ⟨r :: rs, .cons k1 r1, ?_⟩
    rw [compL, k2]
    simp only [Out.bd, r2]
    cases r <;> rfl
theorem compW_of {R : D → Option D → Prop} {as : List Nat} {ds : List D} (H : ∀ d ∈ ds, TurnW C own t c el ρ h d (R d)) (q : ∀ rs, All2 R ds rs → Q (.lst (rs.filterMap id)) h) : CompW C own t c el ρ as h ds Q := by
  obtain ⟨rs, r1, r2⟩ := compL_of (as := as) H
  unfold CompW
  rw [r2]
  show Out.wp (if same as h h = true then _ else _) _ Q
  rw [if_pos same_self]
  exact q rs r1
/-- each item gives one -/
theorem compW_map {as : List Nat} {ds : List D} {f : D → D} (H : ∀ d ∈ ds, TurnW C own t c el ρ h d fun r => r = some (f d)) (q : Q (.lst (ds.map f)) h) : CompW C own t c el ρ as h ds Q :=
  compW_of (R := fun d r => r = some (f d)) H fun rs r => by
    rw [r.map_eq]
    have : (ds.map fun d => some (f d)).filterMap id = ds.map f := by
      rw [List.filterMap_map]
      exact List.filterMap_eq_map' (f := f) ▸ rfl
    rw [this]
    exact q
theorem compW_filter {as : List Nat} {ds : List D} {f : D → Option D} (H : ∀ d ∈ ds, TurnW C own t c el ρ h d fun r => r = f d) (q : Q (.lst (ds.filterMap f)) h) : CompW C own t c el ρ as h ds Q :=
  compW_of (R := fun d r => r = f d) H fun rs r => by
    rw [r.map_eq, List.filterMap_map]
    exact q
/-- for -/
def ForW (C : Ctx) (t : Tg) (body : List S) (as : List Nat) (h0 : Hp) (ds : List D) (ρ : Env) (h : Hp) (P : Po) : Prop :=
  (forL (fun d ρ1 h3 => (match bindT t d ρ1 h3 with
    | some ρ2 => exs C body ρ2 h3
    | none => .bad)) (same as h0) ds ρ h).wp P
def kFr3 (C : Ctx) (t : Tg) (body : List S) (as : List Nat) (ρ : Env) (P : Po) (h : Hp) (ds : List D) : Prop := ForW C t body as h ds ρ h P
def kFr2 (C : Ctx) (t : Tg) (k : IK) (body : List S) (ρ : Env) (P : Po) (x y : D) (h : Hp) : Prop := oW (walkV k x y h) (kFr3 C t body (refs x ++ refs y) ρ P h)
def kFr1 (C : Ctx) (t : Tg) (k : IK) (b : E) (body : List S) (ρ : Env) (P : Po) (x : D) (h : Hp) : Prop := (evN b (ev C b) ρ h).wp (xE P ρ) (kFr2 C t k body ρ P x)
theorem kFr3_ {as : List Nat} {ds : List D} : kFr3 C t body as ρ P h ds = ForW C t body as h ds ρ h P := rfl
theorem kFr2_ {x y : D} : kFr2 C t k body ρ P x y h = oW (walkV k x y h) (kFr3 C t body (refs x ++ refs y) ρ P h) := rfl
theorem kFr1_ {x : D} : kFr1 C t k b body ρ P x h = (evN b (ev C b) ρ h).wp (xE P ρ) (kFr2 C t k body ρ P x) := rfl
theorem x_for : (ex C (.forr t k a b body) ρ h).wp P = (ev C a ρ h).wp (xE P ρ) (kFr1 C t k b body ρ P) := by
  rw [ex, wp_fl]
  exact wp_cg fun x h1 => by
    rw [wp_fl]
    exact wp_cg fun y h2 => by
      rw [kFr2_]
      cases walkV k x y h2 with
      | none => rw [oW_none] <;> rfl
      | some ds => rw [oW_some]; rfl
/-- the end of a turn -/
def tnP (I : Env → Hp → Prop) (P : Po) : Po := ⟨I, P.rt, P.nx, I, P.ex⟩
theorem tn_nx {I : Env → Hp → Prop} : (tnP I P).nx ρ h = I ρ h := rfl
theorem tn_ct {I : Env → Hp → Prop} : (tnP I P).ct ρ h = I ρ h := rfl
theorem tn_bk {I : Env → Hp → Prop} : (tnP I P).bk ρ h = P.nx ρ h := rfl
theorem tn_rt {I : Env → Hp → Prop} : (tnP I P).rt = P.rt := rfl
theorem tn_ex {I : Env → Hp → Prop} : (tnP I P).ex = P.ex := rfl
/-- a turn -/
def kFT (C : Ctx) (body : List S) (I : Env → Hp → Prop) (P : Po) (h : Hp) (ρ : Env) : Prop := (exs C body ρ h).wp (tnP I P)
theorem kFT_ {I : Env → Hp → Prop} : kFT C body I P h ρ = (exs C body ρ h).wp (tnP I P) := rfl
/-- with an invariant over the items that went before -/
theorem forW_inv {as : List Nat} {h0 : Hp} {ds : List D} (I : List D → Env → Hp → Prop) (i0 : I [] ρ h) (hs : ∀ pre ρ h, I pre ρ h → same as h0 h = true)
    (step : ∀ pre d rest ρ h, ds = pre ++ d :: rest → I pre ρ h → oW (bindT t d ρ h) (kFT C body (I (pre ++ [d])) P h)) (fin : ∀ ρ h, I ds ρ h → P.nx ρ h) : ForW C t body as h0 ds ρ h P := by
  have go : ∀ (rest pre : List D) (ρ : Env) (h : Hp), ds = pre ++ rest → I pre ρ h → ForW C t body as h0 rest ρ h P := by
    intro rest
    induction rest with
    | nil =>
      intro pre ρ h e i
      rw [List.append_nil] at e
      subst e
      unfold ForW forL
      rw [if_pos (hs _ _ _ i)]
      exact fin ρ h i
    | cons d rest ih =>
      intro pre ρ h e i
      obtain ⟨ρ2, e2, w⟩ := step pre d rest ρ h e i
      rw [kFT_] at w
      have nxt : ∀ ρ3 h3, I (pre ++ [d]) ρ3 h3 → ForW C t body as h0 rest ρ3 h3 P := fun ρ3 h3 i3 => ih (pre ++ [d]) ρ3 h3 (by rw [e, List.append_assoc]; rfl) i3
      unfold ForW forL
      rw [if_pos (hs _ _ _ i), e2]
      show Fl.wp (match exs C body ρ2 h with
        | .nx ρ1 h1 => forL _ _ rest ρ1 h1
        | .ct ρ1 h1 => forL _ _ rest ρ1 h1
        | .bk ρ1 h1 => .nx ρ1 h1
        | r => r) P
      cases o : exs C body ρ2 h with
      | nx ρ3 h3 => rw [o] at w; exact nxt ρ3 h3 w
      | ct ρ3 h3 => rw [o] at w; exact nxt ρ3 h3 w
      | bk ρ3 h3 => rw [o] at w; exact w
      | rt d3 h3 => rw [o] at w; exact w
      | ex k3 ρ3 h3 => rw [o] at w; exact w
      | bad => rw [o] at w; exact w
  exact go ds [] ρ h rfl i0
theorem same_nil {h0 : Hp} : same [] h0 h = true := rfl
end
end Mi

/-! rules for values; the script -/
namespace Mi
section
variable {P : Prog} {n : Nat} {h : Hp} {i j : Int} {Q : D → Prop} {Qb : Bool → Prop} {s t : List Nat} {xs ys : List D}
theorem ctx_fn : (ctx P n).fn = call P n := rfl
theorem ctx_glo : (ctx P n).glo = P.glo := rfl
theorem sto_int : sto (.int i) h = (.int i, h) := rfl
theorem sto_str : sto (.str s) h = (.str s, h) := rfl
theorem sto_tup : sto (.tup xs) h = (.tup xs, h) := rfl
theorem sto_bl {b : Bool} : sto (.bl b) h = (.bl b, h) := rfl
theorem sto_non : sto .non h = (.non, h) := rfl
theorem sto_ref {a : Nat} : sto (.ref a) h = (.ref a, h) := rfl
theorem sto_cst : sto (.cst xs) h = (.cst xs, h) := rfl
theorem sto_lst : sto (.lst xs) h = (.ref h.length, .lst xs :: h) := rfl
theorem tr_bl {b : Bool} : truth (.bl b) h = some b := rfl
theorem tr_int : truth (.int i) h = some (i != 0) := rfl
theorem tr_str : truth (.str s) h = some (!s.isEmpty) := rfl
theorem tr_tup : truth (.tup xs) h = some (!xs.isEmpty) := rfl
theorem tr_lst : truth (.lst xs) h = some (!xs.isEmpty) := rfl
theorem tr_non : truth .non h = some false := rfl
theorem c_lt : cmpV .lt (.int i) (.int j) h = some (decide (i < j)) := rfl
theorem c_le : cmpV .le (.int i) (.int j) h = some (decide (i ≤ j)) := rfl
theorem c_gt : cmpV .gt (.int i) (.int j) h = some (decide (j < i)) := rfl
theorem c_ge : cmpV .ge (.int i) (.int j) h = some (decide (j ≤ i)) := rfl
theorem plain_int {m : Nat} : plainD h m (.int i) = some (.int i) := by rw [plainD]
theorem plain_str {m : Nat} : plainD h m (.str s) = some (.str s) := by rw [plainD]
theorem plain_non {m : Nat} : plainD h m .non = some .non := by rw [plainD]
theorem plain_bl {m : Nat} {b : Bool} : plainD h m (.bl b) = some (.bl b) := by rw [plainD]
theorem c_eqI : cmpV .eq (.int i) (.int j) h = some (decide (i = j)) := by
  show eqV _ _ h = _
  unfold eqV
  rw [plain_int, Option.bind_some, plain_int, Option.map_some]
  rfl
theorem c_neI : cmpV .ne (.int i) (.int j) h = some (!decide (i = j)) := by
  show (cmpV .eq (.int i) (.int j) h).map (!·) = _
  rw [c_eqI] <;> rfl
theorem c_eqS : cmpV .eq (.str s) (.str t) h = some (decide (s = t)) := by
  show eqV _ _ h = _
  unfold eqV
  rw [plain_str, Option.bind_some, plain_str, Option.map_some]
  congr 1
  show (s == t) = _
  rw [Bool.eq_iff_iff]
  simp
theorem c_neS : cmpV .ne (.str s) (.str t) h = some (!decide (s = t)) := by
  show (cmpV .eq (.str s) (.str t) h).map (!·) = _
  rw [c_eqS] <;> rfl
theorem b_add : binV .add (.int i) (.int j) h = some (.int (i + j)) := rfl
theorem b_sub : binV .sub (.int i) (.int j) h = some (.int (i - j)) := rfl
theorem b_mul : oW (binV .mul (.int i) (.int j) h) Q = ((smallI i || smallI j) = true ∧ Q (.int (i * j))) := oW_if
theorem b_mod : oW (binV .mod (.int i) (.int j) h) Q = (0 < j ∧ Q (.int (i % j))) := oW_if
theorem b_fdv : oW (binV .fdv (.int i) (.int j) h) Q = ((0 < j ∧ j < 1073741824) ∧ Q (.int (i / j))) := oW_if
theorem b_pow : oW (binV .pow (.int i) (.int j) h) Q = ((0 ≤ j ∧ j ≤ 1000000 ∧ smallI i = true) ∧ Q (.int (i ^ j.toNat))) := oW_if
theorem b_band : oW (binV .band (.int i) (.int j) h) Q = ((0 ≤ i ∧ 0 ≤ j) ∧ Q (.int ((i.toNat &&& j.toNat : Nat) : Int))) := oW_if
theorem b_cat : oW (binV .add (.str s) (.str t) h) Q = (okLen (s.length + t.length) = true ∧ Q (.str (s ++ t))) := oW_if
theorem b_catT : oW (binV .add (.tup xs) (.tup ys) h) Q = (okLen (xs.length + ys.length) = true ∧ Q (.tup (xs ++ ys))) := oW_if
theorem b_catL : oW (binV .add (.lst xs) (.lst ys) h) Q = (okLen (xs.length + ys.length) = true ∧ Q (.lst (xs ++ ys))) := oW_if
theorem i_tup : idxV (.tup xs) (.int i) h = atI xs i := rfl
theorem i_lst : idxV (.lst xs) (.int i) h = atI xs i := rfl
def kCh (Q : D → Prop) (c : Nat) : Prop := Q (.str [c])
theorem kCh_ {c : Nat} : kCh Q c = Q (.str [c]) := rfl
theorem i_str : oW (idxV (.str s) (.int i) h) Q = oW (atI s i) (kCh Q) := oW_map
theorem c_cmp {p : CO} {x y : D} : oW (cmpD p x y h) Q = oW (cmpV p x y h) fun b => Q (.bl b) := oW_map
theorem n_not {x : D} : oW (notV x h) Q = oW (truth x h) fun b => Q (.bl (!b)) := oW_map
theorem n_neg : negV (.int i) h = some (.int (-i)) := rfl
theorem n_isi {k : Ty} {f : String → String → Option Bool} {x : D} : oW (isiV k f x h) Q = oW (tyV x k h f) fun b => Q (.bl b) := oW_map
theorem at_nat {α : Type} {l : List α} {k : Nat} : atI l (k : Int) = l[k]? := by
  unfold atI
  rw [if_pos (Int.natCast_nonneg k), Int.toNat_natCast]
theorem at_0 {α : Type} {x : α} {l : List α} : atI (x :: l) 0 = some x := rfl
theorem at_1 {α : Type} {x y : α} {l : List α} : atI (x :: y :: l) 1 = some y := rfl
theorem at_2 {α : Type} {x y z : α} {l : List α} : atI (x :: y :: z :: l) 2 = some z := rfl
theorem at_3 {α : Type} {x y z u : α} {l : List α} : atI (x :: y :: z :: u :: l) 3 = some u := rfl
theorem at_in {α : Type} {l : List α} {i : Int} (h0 : 0 ≤ i) (h1 : i < l.length) : ∃ v ∈ l, atI l i = some v := by
  unfold atI
  rw [if_pos h0]
  have : i.toNat < l.length := by omega
  exact ⟨l[i.toNat], List.getElem_mem this, List.getElem?_eq_getElem this⟩
theorem l_str : biV .len [.str s] h = .ok (.int s.length) h := rfl
theorem l_tup : biV .len [.tup xs] h = .ok (.int xs.length) h := rfl
theorem l_lst : biV .len [.lst xs] h = .ok (.int xs.length) h := rfl
theorem bi_tupL : biV .tuple [.lst xs] h = .ok (.tup xs) h := rfl
theorem bi_tupT : biV .tuple [.tup xs] h = .ok (.tup xs) h := rfl
end
/-- the script, as it stands -/
structure Scr (s : D) (ns : List Int) (h : Hp) : Prop where
  l : listOf s h = some (ns.map .int)
  sto : ∀ h, sto s h = (s, h)
section
variable {s : D} {ns : List Int} {h : Hp}
theorem dic_none {d : D} {xs : List D} (e : listOf d h = some xs) : dicOf d h = none := by
  cases d with
  | ref a =>
    have e : (match get h a with
      | some (.lst xs) => some xs
      | some (.frz xs) => some xs
      | _ => none) = some xs := e
    show (match get h a with
      | some (.dic t kvs) => some (t, kvs)
      | _ => none) = none
    cases g : get h a with
    | none => rfl
    | some o =>
      rw [g] at e
      cases o with
      | dic t kvs => cases e
      | _ => rfl
  | _ => rfl
theorem Scr.len (x : Scr s ns h) : biV .len [s] h = .ok (.int ns.length) h := by
  have e := x.l
  cases s with
  | lst xs => have := x.sto []; cases this
  | ref a =>
    show (match dicOf (.ref a) h with
      | some p => Out.ok (D.int p.2.length) h
      | none => ofO ((listOf (.ref a) h).map fun (xs : List D) => D.int xs.length) h) = _
    rw [dic_none e, e]; simp [ofO]
  | cst xs =>
    show ofO ((listOf (.cst xs) h).map fun xs => D.int xs.length) h = _
    rw [e]; simp [ofO]
  | _ => cases e
theorem atI_map {k : Int} (h0 : 0 ≤ k) (h1 : k < ns.length) : ∃ v, atI (ns.map D.int) k = some (.int v) := by
  unfold atI
  rw [if_pos h0, List.getElem?_map]
  have : k.toNat < ns.length := by omega
  rw [List.getElem?_eq_getElem this]
  exact ⟨_, rfl⟩
theorem dic_seq {d : D} {xs : List D} (e : seqOf d h = some xs) : dicOf d h = none := by
  cases d with
  | ref a => exact dic_none (xs := xs) e
  | _ => rfl
theorem idx_at {a : Nat} {xs : List D} {k : Int} (e : listOf (.ref a) h = some xs) : idxV (.ref a) (.int k) h = atI xs k := by
  unfold idxV
  simp only [dic_none e, e]
  rfl
theorem Scr.idx (x : Scr s ns h) {k : Int} (h0 : 0 ≤ k) (h1 : k < ns.length) : ∃ v, idxV s (.int k) h = some (.int v) := by
  have e := x.l
  cases s with
  | lst xs => have := x.sto []; cases this
  | ref a =>
    obtain ⟨v, q⟩ := atI_map h0 h1
    refine ⟨v, ?_⟩
    rw [idx_at e]; exact q
  | cst xs =>
    obtain ⟨v, q⟩ := atI_map h0 h1
    refine ⟨v, ?_⟩
    show ((listOf (.cst xs) h).bind fun xs => atI xs k) = _
    rw [e]; exact q
  | _ => cases e
theorem plain_ints {n : Nat} : ∀ ns : List Int, plainDs h n (ns.map D.int) = some (ns.map D.int)
  | [] => by rw [List.map_nil, plainDs]
  | k :: ns => by rw [List.map_cons, plainDs, plainD, plain_ints ns]; rfl
theorem Scr.eq (x : Scr s ns h) : cmpV .eq s (.lst []) h = some (decide (ns = [])) := by
  have e := x.l
  have key : plainD h deep s = some (.lst (ns.map D.int)) := by
    cases s with
    | lst xs => have := x.sto []; cases this
    | ref a =>
      unfold deep
      rw [plainD]
      have e : (match get h a with
        | some (.lst xs) => some xs
        | some (.frz xs) => some xs
        | _ => none) = some (ns.map D.int) := e
      cases g : get h a with
      | none => rw [g] at e; cases e
      | some o =>
        rw [g] at e
        cases o with
        | lst xs => cases e; simp only [plain_ints]; rfl
        | frz xs => cases e; simp only [plain_ints]; rfl
        | _ => cases e
    | cst xs =>
      cases e
      unfold deep
      rw [plainD, plain_ints] <;> rfl
    | _ => cases e
  show eqV s (.lst []) h = _
  unfold eqV
  rw [key]
  have e2 : plainD h deep (.lst []) = some (.lst []) := by
    unfold deep
    rw [plainD, plainDs] <;> rfl
  rw [Option.bind_some, e2, Option.map_some]
  cases ns with
  | nil => rfl
  | cons _ _ => rfl
/-- where new objects stand before, it stands -/
theorem Scr.more (x : Scr s ns h) (o : Ob) : Scr s ns (o :: h) := by
  have e := x.l
  refine ⟨?_, x.sto⟩
  cases s with
  | ref a =>
    have e : (match get h a with
      | some (.lst xs) => some xs
      | some (.frz xs) => some xs
      | _ => none) = some (ns.map D.int) := e
    show (match get (o :: h) a with
      | some (.lst xs) => some xs
      | some (.frz xs) => some xs
      | _ => none) = some (ns.map D.int)
    cases g : get h a with
    | none => rw [g] at e; cases e
    | some u =>
      rw [show get (o :: h) a = some u by
        show (if a = h.length then some o else get h a) = _
        rw [if_neg (Nat.ne_of_lt (get_lt g)), g]]
      rw [g] at e
      exact e
  | _ => exact e
end
end Mi
namespace Mi
section
variable {n : Nat} {h h0 : Hp} {i j : Int} {Q : List D → Prop} {s t : List Nat} {xs ys : List D} {ρ : Env} {d y : D}
theorem wk_str : walkV .e (.str s) y h = some (s.map fun c => .str [c]) := rfl
theorem wk_tup : walkV .e (.tup xs) y h = some xs := rfl
theorem wk_lst : walkV .e (.lst xs) y h = some xs := rfl
theorem wk_rng : oW (walkV .rng (.int i) y h) Q = ((-4611686018427387904 ≤ i ∧ i ≤ 16777216) ∧ Q ((List.range i.toNat).map fun (i : Nat) => .int (i : Int))) := oW_if
theorem bT_v {i : Nat} : bindT (.v i) d ρ h = some (st i d ρ) := by rw [bindT, st_eq]
theorem bT_t {is : List Nat} : bindT (.t is) (.tup xs) ρ h = bind1 is xs ρ := rfl
theorem same_0 : same [] h0 h = true := rfl
theorem wipe_nil : wipe [] ρ = ρ := rfl
/-- slots are emptied -/
def un : Nat → Env → Env
  | _, [] => []
  | 0, _ :: r => none :: r
  | n + 1, x :: r => x :: un n r
theorem un_eq : ∀ (i : Nat) (ρ : Env), ρ.set i none = un i ρ
  | _, [] => by simp [un]
  | 0, _ :: _ => by simp [un]
  | n + 1, x :: r => by simp [un, un_eq n r]
theorem un_0 {x : Option D} {r : Env} : un 0 (x :: r) = none :: r := by simp [un]
theorem un_s {n : Nat} {x : Option D} {r : Env} : un (n + 1) (x :: r) = x :: un n r := by simp [un]
theorem wipe_cons {i : Nat} {is : List Nat} : wipe (i :: is) ρ = wipe is (un i ρ) := by
  show wipe is (ρ.set i none) = _
  rw [un_eq]
end
theorem small_of {i : Int} (h0 : -18446744073709551616 < i) (h1 : i < 18446744073709551616) : smallI i = true := by simp [smallI, h0, h1]
end Mi
namespace Mi
section
variable {n : Nat} {h h0 : Hp} {i j : Int} {Q : D → Hp → Prop} {s t : List Nat} {xs ys : List D} {d y : D} {E' : String → Hp → Prop}
theorem get_0 {o : Ob} : get (o :: h) h.length = some o := get_cons_self
theorem listOf_0 : listOf (.ref h.length) (.lst xs :: h) = some xs := by
  unfold listOf
  simp only [get_0]
theorem strsOf_map : ∀ zs : List (List Nat), strsOf (zs.map D.str) = some zs
  | [] => rfl
  | z :: zs => by
    show (strsOf (zs.map D.str)).map (z :: ·) = _
    rw [strsOf_map zs] <;> rfl
theorem set_lst {zs : List (List Nat)} {d : D} (e : itemsOf d h = some (zs.map D.str)) (hl : zs.length ≤ 4000) : biV .sortedSet [d] h = .ok (.lst ((setT zs).map .str)) h := by
  show ofO (((itemsOf d h).bind strsOf).bind fun zs => if zs.length ≤ 4000 then some (D.lst ((setT zs).map .str)) else none) h = _
  rw [e, Option.bind_some, strsOf_map, Option.bind_some, if_pos hl] <;> rfl
/-- join -/
theorem s_join {zs : List (List Nat)} {d : D} (e : (listOf d h).bind strsOf = some zs) (hl : (zs.map List.length).sum + zs.length * s.length ≤ 16777216) : strM "join" s [d] h = .ok (.str (joinS s zs)) h := by
  unfold strM
  rw [if_pos rfl]
  show (match (listOf d h).bind strsOf with
    | some xs => if (xs.map List.length).sum + xs.length * s.length ≤ 16777216 then Out.ok (D.str (joinS s xs)) h else .bad
    | none => .bad) = _
  rw [e]
  exact if_pos hl
theorem joinE : ∀ zs : List (List Nat), joinS [] zs = zs.flatten
  | [] => rfl
  | [z] => by simp [joinS]
  | x :: y :: r => by
    rw [joinS, joinE (y :: r)]
    · simp
    · simp
end
end Mi

/-! more rules -/
namespace Mi
section
variable {n : Nat} {h : Hp} {i j : Int} {c : Nat} {Q : D → Prop} {s t u v w : List Nat} {xs ys : List D} {f : String → String → Option Bool} {x y d : D}
theorem c_inS : cmpV .inn (.str [c]) (.str t) h = some (decide (c ∈ t)) := by
  show some (t.contains c) = _
  congr 1
  rw [Bool.eq_iff_iff]
  simp
theorem c_niS : cmpV .nin (.str [c]) (.str t) h = some (!decide (c ∈ t)) := by
  show (cmpV .inn (.str [c]) (.str t) h).map (!·) = _
  rw [c_inS] <;> rfl
theorem plain_strs {m : Nat} : ∀ zs : List (List Nat), plainDs h m (zs.map D.str) = some (zs.map D.str)
  | [] => by rw [List.map_nil, plainDs]
  | k :: zs => by rw [List.map_cons, plainDs, plain_str, plain_strs zs]; rfl
theorem any_str (zs : List (List Nat)) : (zs.map D.str).any (fun b => eqD b (.str s)) = decide (s ∈ zs) := by
  rw [Bool.eq_iff_iff]
  simp only [List.any_map, List.any_eq_true, Function.comp_apply, decide_eq_true_eq]
  constructor
  · rintro ⟨z, hz, e⟩
    have e : (z == s) = true := e
    rw [← eq_of_beq e]; exact hz
  · intro hz
    exact ⟨s, hz, (show (s == s) = true from beq_self_eq_true s)⟩
theorem c_inL (zs : List (List Nat)) (e : seqOf d h = some (zs.map .str)) (hs : ∀ z, d ≠ .str z) : cmpV .inn (.str s) d h = some (decide (s ∈ zs)) := by
  show inV (.str s) d h = _
  have : inV (.str s) d h = (plainD h deep (.str s)).bind fun a => (seqOf d h).bind fun ys => (plainDs h deep ys).map fun bs => bs.any fun b => eqD b a := by
    cases d <;> first | rfl | (exact absurd rfl (hs _); done) | (unfold inV; simp only [dic_seq e]; done)
  rw [this, plain_str, e, Option.bind_some, Option.bind_some, plain_strs, Option.map_some, any_str]
theorem c_inT (zs : List (List Nat)) : cmpV .inn (.str s) (.tup (zs.map .str)) h = some (decide (s ∈ zs)) := c_inL zs rfl (fun z q => nomatch q)
theorem c_in1 : cmpV .inn (.str s) (.tup [.str t]) h = some (decide (s = t)) := by
  rw [show [D.str t] = [t].map .str from rfl, c_inT]; simp
theorem c_in2 : cmpV .inn (.str s) (.tup [.str t, .str u]) h = some (decide (s = t ∨ s = u)) := by
  rw [show [D.str t, .str u] = [t, u].map .str from rfl, c_inT]; simp
theorem c_in3 : cmpV .inn (.str s) (.tup [.str t, .str u, .str v]) h = some (decide (s = t ∨ s = u ∨ s = v)) := by
  rw [show [D.str t, .str u, .str v] = [t, u, v].map .str from rfl, c_inT]; simp
theorem c_in4 : cmpV .inn (.str s) (.tup [.str t, .str u, .str v, .str w]) h = some (decide (s = t ∨ s = u ∨ s = v ∨ s = w)) := by
  rw [show [D.str t, .str u, .str v, .str w] = [t, u, v, w].map .str from rfl, c_inT]; simp
theorem bi_ordS : biV .ord [.str [c]] h = .ok (.int c) h := rfl
theorem ty_ii : tyV (.int i) .int h f = some true := rfl
theorem ty_is : tyV (.int i) .str h f = some false := rfl
theorem ty_it : tyV (.int i) .tuple h f = some false := rfl
theorem ty_il : tyV (.int i) .list h f = some false := rfl
theorem ty_ib : tyV (.int i) .bool h f = some false := rfl
theorem ty_si : tyV (.str s) .int h f = some false := rfl
theorem ty_ss : tyV (.str s) .str h f = some true := rfl
theorem ty_st : tyV (.str s) .tuple h f = some false := rfl
theorem ty_sl : tyV (.str s) .list h f = some false := rfl
theorem ty_sb : tyV (.str s) .bool h f = some false := rfl
theorem ty_ti : tyV (.tup xs) .int h f = some false := rfl
theorem ty_ts : tyV (.tup xs) .str h f = some false := rfl
theorem ty_tt : tyV (.tup xs) .tuple h f = some true := rfl
theorem ty_tl : tyV (.tup xs) .list h f = some false := rfl
theorem ty_tb : tyV (.tup xs) .bool h f = some false := rfl
theorem sl_str {a b : Option Int} : slcV (.str s) a b h = some (.str (cut s a b)) := rfl
theorem sl_tup {a b : Option Int} : slcV (.tup xs) a b h = some (.tup (cut xs a b)) := rfl
theorem sl_lst {a b : Option Int} : slcV (.lst xs) a b h = some (.lst (cut xs a b)) := rfl
theorem cut_1 {α : Type} {x : α} {xs : List α} : cut (x :: xs) (some 1) none = xs := by
  show ((x :: xs).drop (min 1 (xs.length + 1))).take (xs.length + 1 - min 1 (xs.length + 1)) = xs
  rw [show min 1 (xs.length + 1) = 1 by omega, List.drop_one, List.tail_cons]
  exact List.take_of_length_le (by omega)
theorem cut_0 {α : Type} {xs : List α} : cut xs none none = xs := by
  show (xs.drop 0).take (xs.length - 0) = xs
  simp
end
theorem Scr.rev {s : D} {ns : List Int} {h : Hp} (x : Scr s ns h) : revV s h = some (.lst (ns.reverse.map .int)) := by
  unfold revV
  rw [x.l, Option.map_some, List.map_reverse]
end Mi

/-! lists in the heap -/
namespace Mi
section
variable {h o : Hp} {u x : Ob} {a : Nat} {xs ys : List D} {d : D}
theorem get_app (e : a = h.length) : ∀ o : Hp, get (o ++ x :: h) a = some x
  | [] => by rw [e]; exact get_0
  | y :: o => by
    show (if a = (o ++ x :: h).length then some y else get (o ++ x :: h) a) = _
    rw [if_neg (by simp; omega), get_app e o]
theorem put_app (e : a = h.length) : ∀ o : Hp, put (o ++ x :: h) a u = o ++ u :: h
  | [] => by
    show (if a = h.length then u :: h else x :: put h a u) = u :: h
    rw [if_pos e]
  | y :: o => by
    show (if a = (o ++ x :: h).length then u :: (o ++ x :: h) else y :: put (o ++ x :: h) a u) = y :: (o ++ u :: h)
    rw [if_neg (by simp; omega), put_app e o]
theorem ref_app (e : a = h.length) (o : Hp) {zs : List D} : listOf (.ref a) (o ++ .lst zs :: h) = some zs := by
  unfold listOf
  simp only [get_app e o]
theorem tup_ref {a : Nat} (e : listOf (.ref a) h = some xs) : biV .tuple [.ref a] h = .ok (.tup xs) h := by
  show ofO ((listOf (.ref a) h).map D.tup) h = _
  rw [e] <;> rfl
theorem len_ref {a : Nat} (e : listOf (.ref a) h = some xs) : biV .len [.ref a] h = .ok (.int xs.length) h := by
  show (match dicOf (.ref a) h with
    | some p => Out.ok (D.int p.2.length) h
    | none => ofO ((listOf (.ref a) h).map fun (xs : List D) => D.int xs.length) h) = _
  rw [dic_none e, e] <;> rfl
theorem tup_0 : biV .tuple [.ref h.length] (.lst xs :: h) = .ok (.tup xs) (.lst xs :: h) := tup_ref listOf_0
theorem len_0 : biV .len [.ref h.length] (.lst xs :: h) = .ok (.int xs.length) (.lst xs :: h) := len_ref listOf_0
theorem wk_ref {a : Nat} {y : D} (e : listOf (.ref a) h = some xs) : walkV .e (.ref a) y h = some xs := e
theorem wk_0 {y : D} : walkV .e (.ref h.length) y (.lst xs :: h) = some xs := listOf_0
theorem mutOf_0 : mutOf (.ref h.length) (.lst xs :: h) = some xs := by
  unfold mutOf
  simp only [get_0]
theorem l_ext (e : mutOf d h = some ys) (l : okLen (xs.length + ys.length) = true) : lstM "extend" a xs [d] h = .ok .non (put h a (.lst (xs ++ ys))) := by
  unfold lstM
  rw [if_neg (by decide), if_pos rfl]
  show (match mutOf d h with
    | some ys => if okLen (xs.length + ys.length) = true then Out.ok D.non (put h a (.lst (xs ++ ys))) else .bad
    | none => .bad) = _
  rw [e]
  exact if_pos l
theorem l_app (l : xs.length < 16777216) : lstM "append" a xs [d] h = .ok .non (put h a (.lst (xs ++ [d]))) := by
  unfold lstM
  rw [if_pos rfl]
  exact if_pos l
end
theorem pickf {α β : Type} [Nonempty β] {S : α → Prop} {P : α → β → Prop} (H : ∀ a, S a → ∃ b, P a b) : ∃ f : α → β, ∀ a, S a → P a (f a) := by
  have : ∀ a, ∃ b, S a → P a b := fun a => by
    by_cases s : S a
    · obtain ⟨b, p⟩ := H a s; exact ⟨b, fun _ => p⟩
    · exact ⟨Classical.choice ‹_›, fun z => absurd z s⟩
  exact ⟨fun a => Classical.choose (this a), fun a => Classical.choose_spec (this a)⟩
/-- a text's signs, each a text -/
def sgs (t : List Nat) : List D := t.map fun c => .str [c]
theorem sgs_app {s t : List Nat} : sgs (s ++ t) = sgs s ++ sgs t := List.map_append
theorem sgs_len {t : List Nat} : (sgs t).length = t.length := List.length_map ..
theorem sgs_below {n : Nat} : ∀ t : List Nat, belows n (sgs t) = true
  | [] => by rw [show sgs [] = [] from rfl, belows]
  | c :: t => by
    rw [show sgs (c :: t) = .str [c] :: sgs t from rfl, belows, sgs_below t]
    simp [below]
theorem belows_of {n : Nat} : ∀ {xs : List D}, (∀ x ∈ xs, below n x = true) → belows n xs = true
  | [], _ => by rw [belows]
  | x :: xs, H => by
    rw [belows, H x List.mem_cons_self, belows_of fun y hy => H y (List.mem_cons_of_mem _ hy)]
    rfl
theorem below_tup {n : Nat} {xs : List D} (H : ∀ x ∈ xs, below n x = true) : below n (.tup xs) = true := by
  rw [below]; exact belows_of H
theorem below_str {n : Nat} {s : List Nat} : below n (.str s) = true := rfl
theorem below_int {n : Nat} {i : Int} : below n (.int i) = true := rfl
theorem belows_str {n : Nat} (zs : List (List Nat)) : belows n (zs.map .str) = true := belows_of fun x hx => by
  obtain ⟨z, _, rfl⟩ := List.mem_map.mp hx
  rfl
theorem okLen_of {n : Nat} (h : n ≤ 16777216) : okLen n = true := by simpa [okLen] using h
end Mi
namespace Mi
theorem close_1 {h : Hp} {d : D} {x : Ob} (hb : below h.length d = true) : closeD h d (x :: h) = .ok d h := close_app [x] hb
theorem close_2 {h : Hp} {d : D} {x y : Ob} (hb : below h.length d = true) : closeD h d (x :: y :: h) = .ok d h := close_app [x, y] hb
theorem close_3 {h : Hp} {d : D} {x y z : Ob} (hb : below h.length d = true) : closeD h d (x :: y :: z :: h) = .ok d h := close_app [x, y, z] hb
end Mi
namespace Mi
theorem wp_is {α : Type} {x : Out α} {h : Hp} {v : α} (w : x.wp noX fun d h1 => h1 = h ∧ d = v) : x = .ok v h := by
  obtain ⟨d, rfl, e⟩ := wp_eq w
  exact e
theorem close_r {h : Hp} {xs : List D} (o : Hp) {a : Nat} (e : a = h.length) (hb : belows h.length xs = true) : closeD h (.ref a) (o ++ .lst xs :: h) = .ok (.lst xs) h := by
  have := close_lst (h := h) (n := a) (xs := xs) (o ++ [.lst xs]) (by rw [List.append_assoc]; exact get_app e o) (by omega) hb
  rw [List.append_assoc] at this
  exact this
end Mi
namespace Mi
section
variable {h o : Hp} {u x y z : Ob} {a : Nat}
theorem get_app1 (e : a = h.length) (o : Hp) : get (y :: (o ++ x :: h)) a = some x := get_app e (y :: o)
theorem put_app1 (e : a = h.length) (o : Hp) : put (y :: (o ++ x :: h)) a u = y :: (o ++ u :: h) := put_app e (y :: o)
end
end Mi
namespace Mi
section
variable {C : Ctx} {ρ : Env} {h : Hp} {E' : String → Hp → Prop} {Q : D → Hp → Prop} {es : List E} {s : List Nat} {ds : List D} {zs : List (List Nat)} {d : D}
theorem mt_join : (mtV C "join" es ρ (.str s) h).wp E' Q = (evs C es ρ h).wp E' (kMt2 "join" (.str s) 1 E' Q) := mt_str rfl
/-- joined without a sign between -/
theorem join_of (e : listOf d h = some (zs.map .str)) (hl : zs.flatten.length ≤ 16777216) : strM "join" [] [d] h = .ok (.str zs.flatten) h := by
  rw [s_join (zs := zs) (by rw [e, Option.bind_some, strsOf_map]) (by
    rw [List.length_nil, Nat.mul_zero, Nat.add_zero]
    rw [List.length_flatten] at hl
    exact hl), joinE]
theorem join_0 (hl : zs.flatten.length ≤ 16777216) : strM "join" [] [.ref h.length] (.lst (zs.map .str) :: h) = .ok (.str zs.flatten) (.lst (zs.map .str) :: h) := join_of listOf_0 hl
end
end Mi
namespace Mi
section
variable {h : Hp} {s : List Nat} {b : Bool} {i : Int} {x y : Ob}
theorem clo_s1 : closeD h (.str s) (x :: h) = .ok (.str s) h := close_1 rfl
theorem clo_b1 : closeD h (.bl b) (x :: h) = .ok (.bl b) h := close_1 rfl
theorem clo_i1 : closeD h (.int i) (x :: h) = .ok (.int i) h := close_1 rfl
theorem clo_s2 : closeD h (.str s) (x :: y :: h) = .ok (.str s) h := close_2 rfl
theorem clo_b2 : closeD h (.bl b) (x :: y :: h) = .ok (.bl b) h := close_2 rfl
theorem clo_i2 : closeD h (.int i) (x :: y :: h) = .ok (.int i) h := close_2 rfl
end
end Mi
namespace Mi
section
variable {h : Hp} {T F : Hp → Prop} {k : Bool}
theorem kC_y (e : k = true) (t : T h) : kC T F h k := by rw [e, kC_t]; exact t
theorem kC_n (e : k = false) (t : F h) : kC T F h k := by rw [e, kC_f]; exact t
end
section
variable {h o : Hp} {u x y z w : Ob} {a : Nat}
theorem a3_0 (e : a = h.length) (o : Hp) : get (o ++ x :: y :: z :: h) a = some z := by
  have := get_app (x := z) e (o ++ [x, y])
  rwa [List.append_assoc] at this
theorem a3_1 (e : a = h.length + 1) (o : Hp) : get (o ++ x :: y :: z :: h) a = some y := by
  have := get_app (h := z :: h) (x := y) e (o ++ [x])
  rwa [List.append_assoc] at this
theorem a3_2 (e : a = h.length + 2) (o : Hp) : get (o ++ x :: y :: z :: h) a = some x := get_app (h := y :: z :: h) e o
theorem p3_0 (e : a = h.length) (o : Hp) : put (o ++ x :: y :: z :: h) a u = o ++ x :: y :: u :: h := by
  have := put_app (u := u) (x := z) e (o ++ [x, y])
  rwa [List.append_assoc, List.append_assoc] at this
theorem p3_1 (e : a = h.length + 1) (o : Hp) : put (o ++ x :: y :: z :: h) a u = o ++ x :: u :: z :: h := by
  have := put_app (h := z :: h) (u := u) (x := y) e (o ++ [x])
  rwa [List.append_assoc, List.append_assoc] at this
theorem p3_2 (e : a = h.length + 2) (o : Hp) : put (o ++ x :: y :: z :: h) a u = o ++ u :: y :: z :: h := put_app (h := y :: z :: h) e o
theorem b3_0 (e : a = h.length) (o : Hp) : get (w :: (o ++ x :: y :: z :: h)) a = some z := a3_0 e (w :: o)
theorem q3_0 (e : a = h.length) (o : Hp) : put (w :: (o ++ x :: y :: z :: h)) a u = w :: (o ++ x :: y :: u :: h) := p3_0 e (w :: o)
end
end Mi

/-! sets of texts, in plain Lean -/
namespace Mi
theorem uniqT_nodup : ∀ zs : List (List Nat), (uniqT zs).Nodup ∧ ∀ z, z ∈ uniqT zs ↔ z ∈ zs
  | [] => ⟨List.nodup_nil, fun z => by simp [uniqT]⟩
  | y :: zs => by
    obtain ⟨h1, h2⟩ := uniqT_nodup zs
    unfold uniqT
    by_cases q : y ∈ zs
    · rw [if_pos q]
      refine ⟨h1, fun z => ?_⟩
      rw [h2, List.mem_cons]
      constructor
      · exact .inr
      · rintro (rfl | h)
        · exact q
        · exact h
    · rw [if_neg q]
      refine ⟨List.nodup_cons.mpr ⟨fun z => q ((h2 y).mp z), h1⟩, fun z => ?_⟩
      rw [List.mem_cons, List.mem_cons, h2]
theorem uniqT_len : ∀ zs : List (List Nat), (uniqT zs).length ≤ zs.length
  | [] => Nat.le_refl _
  | y :: zs => by
    have := uniqT_len zs
    unfold uniqT
    split
    · exact Nat.le_succ_of_le this
    · exact Nat.succ_le_succ this
theorem setT_len (zs : List (List Nat)) : (setT zs).length ≤ zs.length := by
  unfold setT
  rw [(List.mergeSort_perm _ _).length_eq]
  exact uniqT_len zs
theorem mem_setT {zs : List (List Nat)} {z : List Nat} : z ∈ setT zs ↔ z ∈ zs := by
  unfold setT
  rw [(List.mergeSort_perm _ _).mem_iff]
  exact (uniqT_nodup zs).2 z
theorem setT_nodup (zs : List (List Nat)) : (setT zs).Nodup := by
  unfold setT
  rw [(List.mergeSort_perm _ _).nodup_iff]
  exact (uniqT_nodup zs).1
theorem leT_tr (a b c : List Nat) (h1 : leT a b = true) (h2 : leT b c = true) : leT a c = true := leT_iff.mpr (List.le_trans (leT_iff.mp h1) (leT_iff.mp h2))
theorem leT_to (a b : List Nat) : (leT a b || leT b a) = true := by
  rw [Bool.or_eq_true]
  rcases List.le_total a b with h | h
  · exact .inl (leT_iff.mpr h)
  · exact .inr (leT_iff.mpr h)
theorem setT_sorted (zs : List (List Nat)) : (setT zs).Pairwise fun a b => a ≤ b := (List.pairwise_mergeSort leT_tr leT_to _).imp fun h => leT_iff.mp h
/-- a list in order with the same items is that set -/
theorem setT_eq {zs ys : List (List Nat)} (hs : ys.Pairwise fun a b => a ≤ b) (hn : ys.Nodup) (hm : ∀ z, z ∈ ys ↔ z ∈ zs) : setT zs = ys := by
  have p : (setT zs).Perm ys := by
    refine (List.perm_ext_iff_of_nodup (setT_nodup zs) hn).mpr fun z => ?_
    rw [mem_setT, hm]
  exact List.Perm.eq_of_pairwise (le := fun a b => a ≤ b) (fun a b _ _ h1 h2 => List.le_antisymm h1 h2) (setT_sorted zs) hs p
theorem setT_cong {zs ys : List (List Nat)} (hm : ∀ z, z ∈ ys ↔ z ∈ zs) : setT zs = setT ys := setT_eq (setT_sorted ys) (setT_nodup ys) fun z => by rw [mem_setT, hm]
/-- a text's signs, each once, in order -/
def tidy (t : List Nat) : List Nat := (setT (t.map fun c => [c])).flatten
theorem flat1 : ∀ t : List Nat, (t.map fun c => [c]).flatten = t
  | [] => rfl
  | c :: t => by rw [List.map_cons, List.flatten_cons, flat1 t]; rfl
theorem tidy_len (t : List Nat) : (tidy t).length ≤ t.length := by
  unfold tidy
  have h1 : ∀ zs : List (List Nat), (∀ z ∈ zs, z.length = 1) → zs.flatten.length = zs.length := fun zs => by
    induction zs with
    | nil => exact fun _ => rfl
    | cons z zs ih => 
      intro H
      rw [List.flatten_cons, List.length_append, ih fun y hy => H y (List.mem_cons_of_mem _ hy), H z List.mem_cons_self, List.length_cons, Nat.add_comm]
  rw [h1 _ fun z hz => by
    obtain ⟨c, _, rfl⟩ := List.mem_map.mp (mem_setT.mp hz)
    rfl]
  have := setT_len (t.map fun c => [c])
  rwa [List.length_map] at this
/-- out of an alphabet in order -/
theorem tidy_eq {t al : List Nat} (hs : al.Pairwise fun a b => a < b) (hm : ∀ c ∈ t, c ∈ al) : tidy t = al.filter fun c => decide (c ∈ t) := by
  have hf : (al.filter fun c => decide (c ∈ t)).Pairwise fun a b => a < b := hs.sublist List.filter_sublist
  unfold tidy
  rw [setT_eq (ys := (al.filter fun c => decide (c ∈ t)).map fun c => [c])]
  · exact flat1 _
  · rw [List.pairwise_map]
    exact hf.imp fun {a b} h => by
      show ¬ _
      intro q
      cases q with
      | rel h2 => exact absurd h (Nat.not_lt.mpr (Nat.le_of_lt h2))
      | cons h2 => exact absurd h (Nat.lt_irrefl _)
  · unfold List.Nodup
    rw [List.pairwise_map]
    exact hf.imp fun {a b} h q => by
      have : a = b := by simpa using q
      omega
  · intro z
    simp only [List.mem_map, List.mem_filter, decide_eq_true_eq]
    constructor
    · rintro ⟨c, ⟨_, h⟩, rfl⟩; exact ⟨c, h, rfl⟩
    · rintro ⟨c, h, rfl⟩; exact ⟨c, ⟨hm c h, h⟩, rfl⟩
theorem sgs_zs (t : List Nat) : sgs t = (t.map fun c => [c]).map D.str := by rw [List.map_map]; rfl
end Mi
namespace Mi
theorem set_sgs {h : Hp} {a : Nat} {t : List Nat} (e : get h a = some (.lst (sgs t))) (hl : t.length ≤ 4000) : biV .sortedSet [.ref a] h = .ok (.lst ((setT (t.map fun c => [c])).map .str)) h :=
  set_lst (by
    show listOf (.ref a) h = _
    unfold listOf
    simp only [e]
    rw [sgs_zs]) (by rw [List.length_map]; exact hl)
theorem join_set {h : Hp} {t : List Nat} (hl : t.length ≤ 4000) : strM "join" [] [.ref h.length] (.lst ((setT (t.map fun c => [c])).map .str) :: h) = .ok (.str (tidy t)) (.lst ((setT (t.map fun c => [c])).map .str) :: h) := join_0 (by
  have := tidy_len t
  unfold tidy at this
  omega)
section
variable {h o : Hp} {u x y z w v : Ob} {a : Nat}
theorem b3_1 (e : a = h.length + 1) (o : Hp) : get (w :: (o ++ x :: y :: z :: h)) a = some y := a3_1 e (w :: o)
theorem b3_2 (e : a = h.length + 2) (o : Hp) : get (w :: (o ++ x :: y :: z :: h)) a = some x := a3_2 e (w :: o)
theorem d3_2 (e : a = h.length + 2) (o : Hp) : get (v :: w :: (o ++ x :: y :: z :: h)) a = some x := a3_2 e (v :: w :: o)
end
end Mi
namespace Mi
theorem close_any {h H : Hp} {d : D} (e : ∃ o, H = o ++ h) (hb : below h.length d = true) : closeD h d H = .ok d h := by
  obtain ⟨o, rfl⟩ := e
  exact close_app o hb
end Mi

/-! comprehensions whose turns make objects -/
namespace Mi
section
variable {C : Ctx} {ρ : Env} {h h0 : Hp} {Q : D → Hp → Prop} {c el : E} {t : Tg} {own : List Nat}
def kGn5 (R : Option D → Hp → Prop) (x : D) (h2 : Hp) : Prop := R (some (sto x h2).1) (sto x h2).2
def kGn4 (R : Option D → Hp → Prop) (h1 : Hp) : Prop := R none h1
def kGn3 (C : Ctx) (el : E) (ρ1 : Env) (R : Option D → Hp → Prop) (h1 : Hp) : Prop := (ev C el ρ1 h1).wp noX (kGn5 R)
def kGn2 (C : Ctx) (el : E) (ρ1 : Env) (R : Option D → Hp → Prop) (b : D) (h1 : Hp) : Prop := oW (truth b h1) (kC (kGn3 C el ρ1 R) (kGn4 R) h1)
def kGn1 (C : Ctx) (c el : E) (h : Hp) (R : Option D → Hp → Prop) (ρ1 : Env) : Prop := (ev C c ρ1 h).wp noX (kGn2 C el ρ1 R)
def TurnG (C : Ctx) (own : List Nat) (t : Tg) (c el : E) (ρ : Env) (h : Hp) (d : D) (R : Option D → Hp → Prop) : Prop := oW (bindT t d (wipe own ρ) h) (kGn1 C c el h R)
theorem turnG_ {d : D} {R : Option D → Hp → Prop} : TurnG C own t c el ρ h d R = oW (bindT t d (wipe own ρ) h) (kGn1 C c el h R) := rfl
theorem kGn1_ {R : Option D → Hp → Prop} : kGn1 C c el h R ρ = (ev C c ρ h).wp noX (kGn2 C el ρ R) := rfl
theorem kGn2_ {R : Option D → Hp → Prop} {x : D} {h1 : Hp} : kGn2 C el ρ R x h1 = oW (truth x h1) (kC (kGn3 C el ρ R) (kGn4 R) h1) := rfl
theorem kGn3_ {R : Option D → Hp → Prop} {h1 : Hp} : kGn3 C el ρ R h1 = (ev C el ρ h1).wp noX (kGn5 R) := rfl
theorem kGn4_ {R : Option D → Hp → Prop} {h1 : Hp} : kGn4 R h1 = R none h1 := rfl
theorem kGn5_ {R : Option D → Hp → Prop} {x : D} {h1 : Hp} : kGn5 R x h1 = R (some (sto x h1).1) (sto x h1).2 := rfl
theorem compG_go {I : Hp → Prop} {R : D → Option D → Prop} {as : List Nat} (hs : ∀ h, I h → same as h0 h = true) : ∀ {ds : List D} {h : Hp}, I h → (∀ d ∈ ds, ∀ h, I h → TurnG C own t c el ρ h d fun r h2 => I h2 ∧ R d r) →
    ∃ rs h2, All2 R ds rs ∧ I h2 ∧ compL (compT t (wipe own ρ) h0 as (fun ρ1 h => ev C c ρ1 h) (fun ρ1 h => ev C el ρ1 h)) ds h = .ok (rs.filterMap id) h2
  | [], h, i, _ => ⟨[], h, .nil, i, rfl⟩
  | d :: ds, h, i, H => by
    obtain ⟨ρ1, e1, w⟩ := H d List.mem_cons_self h i
    rw [kGn1_] at w
    have key : ∃ r h2, I h2 ∧ R d r ∧ compT t (wipe own ρ) h0 as (fun ρ1 h => ev C c ρ1 h) (fun ρ1 h => ev C el ρ1 h) d h = .ok r h2 := by
      unfold compT
      rw [if_pos (hs h i), e1]
      cases o1 : ev C c ρ1 h with
      | exc k h1 => rw [o1] at w; exact w.elim
      | bad => rw [o1] at w; exact w.elim
      | ok b h1 =>
        rw [o1] at w
        obtain ⟨k, e2, w⟩ := (show oW (truth b h1) (kC (kGn3 C el ρ1 (fun r h2 => I h2 ∧ R d r)) (kGn4 fun r h2 => I h2 ∧ R d r) h1) from w)
        cases k with
        | false =>
          rw [kC_f] at w
          obtain ⟨q1, w1⟩ := w
          exact ⟨none, h1, q1, w1, by simp only [o1, Out.bd, e2]⟩
        | true =>
          rw [kC_t, kGn3_] at w
          cases o2 : ev C el ρ1 h1 with
          | exc k h2 => rw [o2] at w; exact w.elim
          | bad => rw [o2] at w; exact w.elim
          | ok x h2 =>
            rw [o2] at w
            obtain ⟨e3, w1⟩ := (show I (sto x h2).2 ∧ R d (some (sto x h2).1) from w)
            exact ⟨_, _, e3, w1, by simp only [o1, Out.bd, e2, o2]⟩
    obtain ⟨r, h2, k0, k1, k2⟩ := key
    obtain ⟨rs, h3, r1, r0, r2⟩ := compG_go hs (ds := ds) k0 fun d hd => H d (List.mem_cons_of_mem _ hd)
    refine ⟨r :: rs, h3, .cons k1 r1, r0, ?_⟩
    rw [compL, k2]
    simp only [Out.bd, r2]
    cases r <;> rfl
theorem compG_of (I : Hp → Prop) {R : D → Option D → Prop} {as : List Nat} {ds : List D} (i0 : I h) (hs : ∀ h2, I h2 → same as h h2 = true) (H : ∀ d ∈ ds, ∀ h, I h → TurnG C own t c el ρ h d fun r h2 => I h2 ∧ R d r)
    (q : ∀ rs h2, All2 R ds rs → I h2 → Q (.lst (rs.filterMap id)) h2) : CompW C own t c el ρ as h ds Q := by
  obtain ⟨rs, h2, r1, r0, r2⟩ := compG_go (h0 := h) (as := as) hs i0 H
  unfold CompW
  rw [r2]
  show Out.wp (if same as h h2 = true then _ else _) _ Q
  rw [if_pos (hs _ r0)]
  exact q rs h2 r1 r0
theorem compG_map (I : Hp → Prop) {as : List Nat} {ds : List D} {f : D → D} (i0 : I h) (hs : ∀ h2, I h2 → same as h h2 = true) (H : ∀ d ∈ ds, ∀ h, I h → TurnG C own t c el ρ h d fun r h2 => I h2 ∧ r = some (f d))
    (q : ∀ h2, I h2 → Q (.lst (ds.map f)) h2) : CompW C own t c el ρ as h ds Q :=
  compG_of I (R := fun d r => r = some (f d)) i0 hs H fun rs h2 r i => by
    rw [r.map_eq]
    have : (ds.map fun d => some (f d)).filterMap id = ds.map f := by
      rw [List.filterMap_map]
      exact List.filterMap_eq_map' (f := f) ▸ rfl
    rw [this]
    exact q h2 i
theorem same_app {as : List Nat} {o : Hp} (ha : ∀ a ∈ as, a < h.length) : same as h (o ++ h) = true := by
  unfold same
  rw [List.all_eq_true]
  intro a m
  rw [decide_eq_true_eq]
  have := ha a m
  induction o with
  | nil => rfl
  | cons x o ih =>
    show (if a = (o ++ h).length then some x else get (o ++ h) a) = _
    rw [if_neg (by simp; omega), ih]
end
end Mi
namespace Mi
theorem eqD_strs : ∀ zs : List (List Nat), eqDs (zs.map D.str) (zs.map D.str) = true
  | [] => rfl
  | z :: zs => by
    show ((z == z) && eqDs (zs.map D.str) (zs.map D.str)) = true
    rw [eqD_strs zs, beq_self_eq_true] <;> rfl
theorem c_eqTs (zs : List (List Nat)) {h : Hp} : cmpV .eq (.tup (zs.map .str)) (.tup (zs.map .str)) h = some true := by
  have e : plainD h deep (.tup (zs.map .str)) = some (.tup (zs.map .str)) := by
    unfold deep
    rw [plainD, plain_strs] <;> rfl
  show eqV _ _ h = _
  unfold eqV
  rw [e, Option.bind_some, Option.map_some]
  exact congrArg some (eqD_strs zs)
theorem scr_ref {xs : List Int} {h : Hp} : Scr (.ref h.length) xs (.lst (xs.map .int) :: h) := ⟨listOf_0, fun _ => rfl⟩
theorem scr_cst {xs : List Int} {h : Hp} : Scr (.cst (xs.map .int)) xs h := ⟨rfl, fun _ => rfl⟩
end Mi

/-! rules with side conditions, for stepping on its own -/
namespace Mi
mutual
/-- a value that holds no object and is no new list -/
def pl : D → Bool
  | .tup xs => pls xs
  | .cst xs => pls xs
  | .lst _ => false
  | .ref _ => false
  | .exc _ => false
  | _ => true
def pls : List D → Bool
  | [] => true
  | x :: xs => pl x && pls xs
end
theorem pls_all : ∀ xs : List D, pls xs = xs.all pl
  | [] => by rw [pls] <;> rfl
  | x :: xs => by rw [pls, pls_all xs] <;> rfl
theorem pl_tup {xs : List D} : pl (.tup xs) = xs.all pl := by rw [pl, pls_all]
theorem pl_cst {xs : List D} : pl (.cst xs) = xs.all pl := by rw [pl, pls_all]
theorem pl_int {i : Int} : pl (.int i) = true := by rw [pl] <;> simp
theorem pl_str {s : List Nat} : pl (.str s) = true := by rw [pl] <;> simp
theorem pl_bl {b : Bool} : pl (.bl b) = true := by rw [pl] <;> simp
theorem pl_non : pl .non = true := by rw [pl] <;> simp
theorem sto_pl {d : D} {h : Hp} (p : pl d = true) : sto d h = (d, h) := by
  cases d with
  | lst xs => rw [pl] at p; cases p
  | _ => rfl
theorem below_pl {n : Nat} : ∀ {d : D}, pl d = true → below n d = true
  | .tup xs, p => by
    rw [pl_tup, List.all_eq_true] at p
    exact below_tup fun x hx => below_pl (p x hx)
  | .cst xs, p => by
    rw [pl_cst, List.all_eq_true] at p
    rw [below]
    exact belows_of fun x hx => below_pl (p x hx)
  | .lst _, p => by rw [pl] at p; cases p
  | .ref _, p => by rw [pl] at p; cases p
  | .non, _ => rfl
  | .bl _, _ => rfl
  | .int _, _ => rfl
  | .str _, _ => rfl
  | .exc _, p => by rw [pl] at p; cases p
theorem pls_map {α : Type} {f : α → D} {xs : List α} (p : ∀ x, pl (f x) = true) : (xs.map f).all pl = true := by
  rw [List.all_map, List.all_eq_true]
  exact fun x _ => p x
theorem belows_pl {n : Nat} {xs : List D} (p : xs.all pl = true) : belows n xs = true := belows_of fun x hx => below_pl (List.all_eq_true.mp p x hx)
/-- the heap grew -/
inductive Ext (h : Hp) : Hp → Prop
  | refl : Ext h h
  | cons {x : Ob} {H : Hp} : Ext h H → Ext h (x :: H)
  | app {o H : Hp} : Ext h H → Ext h (o ++ H)
theorem Ext.is {h H : Hp} (e : Ext h H) : ∃ o, H = o ++ h := by
  induction e with
  | refl => exact ⟨[], rfl⟩
  | cons _ ih => obtain ⟨o, e⟩ := ih; exact ⟨_ :: o, by rw [e]; rfl⟩
  | app _ ih => obtain ⟨o, e⟩ := ih; exact ⟨_ ++ o, by rw [e, List.append_assoc]⟩
theorem Ext.len {h H : Hp} (e : Ext h H) : h.length ≤ H.length := by
  obtain ⟨o, rfl⟩ := e.is
  simp
theorem Ext.get {h H : Hp} (e : Ext h H) {a : Nat} (l : a < h.length) : get H a = get h a := by
  induction e with
  | refl => rfl
  | cons e ih => rw [get_cons_ne (Nat.ne_of_lt (Nat.lt_of_lt_of_le l e.len)), ih]
  | @app o H e ih =>
    rw [← ih]
    have := Nat.lt_of_lt_of_le l e.len
    clear ih
    induction o with
    | nil => rfl
    | cons x o ih => rw [List.cons_append, get_cons_ne (by simp; omega), ih]
section
variable {C : Ctx} {ρ : Env} {h H : Hp} {E' : String → Hp → Prop} {Q : D → Hp → Prop} {P : Po} {a b c e el : E} {t : Tg} {k : IK} {own : List Nat} {body : List S} {R : D → Prop} {d : D} {xs ys : List D} {s z : List Nat} {i j : Int} {n : Nat} {o x : Ob}
theorem close_pl (e : Ext h H) (p : pl d = true) : closeD h d H = .ok d h := close_any e.is (below_pl p)
theorem close_own {a : Nat} (e : Ext h H) (g : get H a = some (.lst xs)) (hn : h.length ≤ a) (p : xs.all pl = true) : closeD h (.ref a) H = .ok (.lst xs) h := by
  obtain ⟨o, rfl⟩ := e.is
  exact close_lst o g (Nat.not_lt.mpr hn) (belows_pl p)
theorem close_new (e : Ext h H) (p : xs.all pl = true) : closeD h (.lst xs) H = .ok (.lst xs) h := close_any e.is (by
  rw [below]
  exact belows_pl p)
theorem wp_exc {α : Type} {c : String} {Q : α → Hp → Prop} : (Out.exc c h).wp E' Q = E' c h := rfl
/-! the heap -/
theorem get_hd {a : Nat} (e : a = h.length) : get (x :: h) a = some x := by rw [e]; exact get_0
theorem get_tl {a : Nat} (e : a < h.length) : get (x :: h) a = get h a := get_cons_ne (Nat.ne_of_lt e)
theorem get_bk {o : Hp} {a : Nat} (e : a < h.length) : get (o ++ h) a = get h a := (Ext.app (o := o) .refl).get e
theorem put_hd {a : Nat} (e : a = h.length) : put (x :: h) a o = o :: h := by
  unfold put
  rw [if_pos e]
theorem put_tl {a : Nat} (e : a < h.length) : put (x :: h) a o = x :: put h a o := by
  show (if a = h.length then o :: h else x :: put h a o) = _
  rw [if_neg (by omega)]
theorem put_bk {a : Nat} (e : a < h.length) : ∀ u : Hp, put (u ++ h) a o = u ++ put h a o
  | [] => rfl
  | y :: u => by
    rw [List.cons_append, put_tl (by simp; omega), put_bk e u] <;> rfl
/-! operations -/
theorem r_mul (c : (smallI i || smallI j) = true) : binV .mul (.int i) (.int j) h = some (.int (i * j)) := if_pos c
theorem r_mod (c : 0 < j) : binV .mod (.int i) (.int j) h = some (.int (i % j)) := if_pos c
theorem r_fdv (c : 0 < j ∧ j < 1073741824) : binV .fdv (.int i) (.int j) h = some (.int (i / j)) := if_pos c
theorem r_pow (c : 0 ≤ j ∧ j ≤ 1000000 ∧ smallI i = true) : binV .pow (.int i) (.int j) h = some (.int (i ^ j.toNat)) := if_pos c
theorem r_band (c : 0 ≤ i ∧ 0 ≤ j) : binV .band (.int i) (.int j) h = some (.int ((i.toNat &&& j.toNat : Nat) : Int)) := if_pos c
theorem r_cat (c : s.length + z.length ≤ 16777216) : binV .add (.str s) (.str z) h = some (.str (s ++ z)) := if_pos (okLen_of c)
theorem r_catT (c : xs.length + ys.length ≤ 16777216) : binV .add (.tup xs) (.tup ys) h = some (.tup (xs ++ ys)) := if_pos (okLen_of c)
theorem r_catL (c : xs.length + ys.length ≤ 16777216) : binV .add (.lst xs) (.lst ys) h = some (.lst (xs ++ ys)) := if_pos (okLen_of c)
theorem r_rep (c : okLen j.toNat = true ∧ -9223372036854775808 ≤ j) : binV .mul (.lst [d]) (.int j) h = some (.lst (List.replicate j.toNat d)) := if_pos c
theorem r_rng {y : D} (c : i ≤ 16777216) (c0 : -4611686018427387904 ≤ i) : walkV .rng (.int i) y h = some ((List.range i.toNat).map fun (i : Nat) => .int (i : Int)) := if_pos ⟨c0, c⟩
theorem r_rng2 (c : (-4611686018427387904 ≤ i ∧ i ≤ 16777216) ∧ (-4611686018427387904 ≤ j ∧ j ≤ 16777216) ∧ j - i ≤ 16777216) : walkV .rng2 (.int i) (.int j) h = some ((List.range (j - i).toNat).map fun (k : Nat) => .int (i + (k : Int))) := if_pos c
theorem small_l (c : smallI i = true) : (smallI i || smallI j) = true := by rw [c]; rfl
theorem small_r (c : smallI j = true) : (smallI i || smallI j) = true := by rw [c]; simp
theorem r_join {zs : List (List Nat)} (l : zs.flatten.length ≤ 16777216) : strM "join" [] [.lst (zs.map .str)] h = .ok (.str zs.flatten) h := join_of rfl l
theorem listOf_ref {a : Nat} (g : get h a = some (.lst xs)) : listOf (.ref a) h = some xs := by
  unfold listOf
  simp only [g]
theorem r_joinR {zs : List (List Nat)} {a : Nat} (g : get h a = some (.lst (zs.map .str))) (l : zs.flatten.length ≤ 16777216) : strM "join" [] [.ref a] h = .ok (.str zs.flatten) h := join_of (listOf_ref g) l
theorem boolsOf_map {α : Type} {p : α → Bool} : ∀ l : List α, boolsOf (l.map fun x => D.bl (p x)) = some (l.map p)
  | [] => rfl
  | x :: l => by
    show (boolsOf (l.map fun x => D.bl (p x))).map (p x :: ·) = _
    rw [boolsOf_map l] <;> rfl
theorem r_all {α : Type} {p : α → Bool} {l : List α} : biV .all [D.lst (l.map fun x => D.bl (p x))] h = .ok (.bl (l.all p)) h := by
  show ofO (((some (l.map fun x => D.bl (p x))).bind boolsOf).map fun bs => D.bl (bs.all id)) h = _
  rw [Option.bind_some, boolsOf_map, Option.map_some, List.all_map] <;> rfl
theorem r_any {α : Type} {p : α → Bool} {l : List α} : biV .any [D.lst (l.map fun x => D.bl (p x))] h = .ok (.bl (l.any p)) h := by
  show ofO (((some (l.map fun x => D.bl (p x))).bind boolsOf).map fun bs => D.bl (bs.any id)) h = _
  rw [Option.bind_some, boolsOf_map, Option.map_some, List.any_map] <;> rfl
theorem r_listS : biV .list [.str s] h = .ok (.lst (s.map fun c => .str [c])) h := rfl
theorem r_listT : biV .list [.tup xs] h = .ok (.lst xs) h := rfl
theorem r_listL : biV .list [.lst xs] h = .ok (.lst xs) h := rfl
theorem r_setL {zs : List (List Nat)} (l : zs.length ≤ 4000) : biV .sortedSet [.lst (zs.map .str)] h = .ok (.lst ((setT zs).map .str)) h := set_lst rfl l
theorem r_setT {zs : List (List Nat)} (l : zs.length ≤ 4000) : biV .sortedSet [.tup (zs.map .str)] h = .ok (.lst ((setT zs).map .str)) h := set_lst rfl l
theorem r_setS (l : s.length ≤ 4000) : biV .sortedSet [.str s] h = .ok (.lst ((setT (s.map fun c => [c])).map .str)) h := set_lst (zs := s.map fun c => [c]) (by rw [List.map_map]; rfl) (by rw [List.length_map]; exact l)
theorem r_setR {zs : List (List Nat)} {a : Nat} (g : get h a = some (.lst (zs.map .str))) (l : zs.length ≤ 4000) : biV .sortedSet [.ref a] h = .ok (.lst ((setT zs).map .str)) h := set_lst (listOf_ref g) l
theorem r_tupR {a : Nat} (g : get h a = some (.lst xs)) : biV .tuple [.ref a] h = .ok (.tup xs) h := tup_ref (listOf_ref g)
theorem r_lenR {a : Nat} (g : get h a = some (.lst xs)) : biV .len [.ref a] h = .ok (.int xs.length) h := len_ref (listOf_ref g)
theorem r_wkR {a : Nat} {y : D} (g : get h a = some (.lst xs)) : walkV .e (.ref a) y h = some xs := listOf_ref g
theorem r_idxR {a : Nat} (g : get h a = some (.lst xs)) : idxV (.ref a) (.int i) h = atI xs i := by
  exact idx_at (listOf_ref g)
theorem r_trR {a : Nat} (g : get h a = some (.lst xs)) : truth (.ref a) h = some (!xs.isEmpty) := by
  unfold truth
  simp only [g]
theorem r_tyR {a : Nat} {ty : Ty} {f : String → String → Option Bool} (ho : ∀ c, ty ≠ .own c) (g : get h a = some (.lst xs)) : tyV (.ref a) ty h f = some (decide (ty = .list)) := by
  cases ty with
  | own c => exact absurd rfl (ho c)
  | _ => simp only [tyV, tyB, g]
theorem r_app {a : Nat} (l : xs.length < 16777216) : lstM "append" a xs [d] h = .ok .non (put h a (.lst (xs ++ [d]))) := l_app l
theorem r_extL {a : Nat} (l : xs.length + ys.length ≤ 16777216) : lstM "extend" a xs [.lst ys] h = .ok .non (put h a (.lst (xs ++ ys))) := l_ext rfl (okLen_of l)
theorem r_extR {a b : Nat} (g : get h b = some (.lst ys)) (l : xs.length + ys.length ≤ 16777216) : lstM "extend" a xs [.ref b] h = .ok .non (put h a (.lst (xs ++ ys))) := l_ext (by
  unfold mutOf
  simp only [g]) (okLen_of l)
theorem at_lt {α : Type} {l : List α} {i : Int} (h0 : 0 ≤ i) (h1 : i.toNat < l.length) : atI l i = some (l[i.toNat]'h1) := by
  unfold atI
  rw [if_pos h0, List.getElem?_eq_getElem h1]
/-! comprehensions over typed items -/
theorem compW_mapf {α : Type} {as : List Nat} {f g : α → D} {l : List α} (H : ∀ x ∈ l, TurnW C own t c el ρ h (f x) fun r => r = some (g x)) (q : Q (.lst (l.map g)) h) : CompW C own t c el ρ as h (l.map f) Q := by
  have : ∀ m : List α, (∀ x ∈ m, x ∈ l) → ∃ rs, All2 (fun x r => r = some (g x)) m rs ∧ compL (compT t (wipe own ρ) h as (fun ρ1 h => ev C c ρ1 h) (fun ρ1 h => ev C el ρ1 h)) (m.map f) h = .ok (rs.filterMap id) h := fun m hm => by
    induction m with
    | nil => exact ⟨[], .nil, rfl⟩
    | cons x m ih =>
      obtain ⟨rs, r1, r2⟩ := ih fun y hy => hm y (List.mem_cons_of_mem _ hy)
      obtain ⟨r1', a1, a2⟩ := compL_of (R := fun _ r => r = some (g x)) (as := as) (ds := [f x]) (fun d hd => by
        rw [List.mem_singleton.mp hd]
        exact H x (hm x List.mem_cons_self))
      refine ⟨some (g x) :: rs, .cons rfl r1, ?_⟩
      have e1 : r1' = [some (g x)] := by
        cases a1 with
        | cons e r => cases r; rw [e]
      subst e1
      rw [List.map_cons, compL]
      have a3 : (compT t (wipe own ρ) h as (fun ρ1 h => ev C c ρ1 h) (fun ρ1 h => ev C el ρ1 h)) (f x) h = .ok (some (g x)) h := by
        rw [compL] at a2
        cases o1 : compT t (wipe own ρ) h as (fun ρ1 h => ev C c ρ1 h) (fun ρ1 h => ev C el ρ1 h) (f x) h with
        | ok v h2 =>
          rw [o1] at a2
          simp only [Out.bd, compL] at a2
          cases v with
          | none => simp at a2
          | some v =>
            simp at a2
            obtain ⟨rfl, rfl⟩ := a2
            rfl
        | exc k h2 => rw [o1] at a2; cases a2
        | bad => rw [o1] at a2; cases a2
      rw [a3]
      simp only [Out.bd, r2]
      rfl
  obtain ⟨rs, r1, r2⟩ := this l fun _ h => h
  unfold CompW
  rw [r2]
  show Out.wp (if same as h h = true then _ else _) _ Q
  rw [if_pos same_self]
  rw [r1.map_eq]
  have : (l.map fun d => some (g d)).filterMap id = l.map g := by
    rw [List.filterMap_map]
    exact List.filterMap_eq_map' (f := g) ▸ rfl
  rw [this]
  exact q
/-! a list of the heap reads as a new list -/
/-- a built-in of a dict -/
def biD (f : Bi) (t : Bool) (kvs : List (D × D)) (h : Hp) : Out D := match f with
  | .len => .ok (.int kvs.length) h
  | .list => .ok (.lst (kvs.map (·.1))) h
  | .dict => if t = false then .ok (.ref h.length) (.dic false kvs :: h) else .bad
  | .sortedItems => if t = false ∧ sortable (itD kvs) = true then .ok (.lst (srt (itD kvs))) h else .bad
  | .valuesL => .ok (.lst (kvs.map (·.2))) h
  | _ => .bad
def biO (f : Bi) (a : Nat) (h : Hp) (o : Option Ob) : Out D := match o with
  | some (.lst xs) => biV f [.lst xs] h
  | some (.dic t kvs) => biD f t kvs h
  | _ => biV f [.ref a] h
theorem u_bi {f : Bi} {a : Nat} : biV f [.ref a] h = biO f a h (get h a) := by
  unfold biO
  split
  · rename_i xs g
    cases f <;> first | rfl | (simp only [biV, seqOf, listOf, itemsOf, dicOf, g]; done)
  · rename_i t kvs g
    cases f <;> unfold biD <;> first | (simp only [biV, seqOf, listOf, itemsOf, dicOf, g]; done) | (simp only [biV, seqOf, listOf, itemsOf, dicOf, g]; rfl) | (cases t <;> simp [biV, seqOf, listOf, itemsOf, dicOf, g])
  · rfl
theorem biO_d {f : Bi} {a : Nat} {t : Bool} {kvs : List (D × D)} : biO f a h (some (.dic t kvs)) = biD f t kvs h := rfl
theorem biO_l {f : Bi} {a : Nat} : biO f a h (some (.lst xs)) = biV f [.lst xs] h := rfl
def trO (a : Nat) (h : Hp) (o : Option Ob) : Option Bool := match o with
  | some (.lst xs) => some (!xs.isEmpty)
  | _ => truth (.ref a) h
theorem u_tr {a : Nat} : truth (.ref a) h = trO a h (get h a) := by
  unfold trO
  split
  · rename_i xs g
    simp only [truth, g]
  · rfl
theorem trO_l {a : Nat} : trO a h (some (.lst xs)) = some (!xs.isEmpty) := rfl
def tyO (a : Nat) (t : Ty) (f : String → String → Option Bool) (h : Hp) (o : Option Ob) : Option Bool := match o with
  | some (.lst xs) => tyV (.lst xs) t h f
  | _ => tyV (.ref a) t h f
theorem u_ty {a : Nat} {t : Ty} {f : String → String → Option Bool} : tyV (.ref a) t h f = tyO a t f h (get h a) := by
  unfold tyO
  split
  · rename_i xs g
    cases t <;> simp only [tyV, tyB, g]
  · rfl
theorem tyO_l {a : Nat} {t : Ty} {f : String → String → Option Bool} : tyO a t f h (some (.lst xs)) = tyV (.lst xs) t h f := rfl
def dixV (t : Bool) (kvs : List (D × D)) (y : D) : Option D := if keyB t y = true then lookD y kvs else none
def ixO (a : Nat) (y : D) (h : Hp) (o : Option Ob) : Option D := match o with
  | some (.lst xs) => idxV (.lst xs) y h
  | some (.dic t kvs) => dixV t kvs y
  | _ => idxV (.ref a) y h
theorem ixO_d {a : Nat} {y : D} {t : Bool} {kvs : List (D × D)} : ixO a y h (some (.dic t kvs)) = dixV t kvs y := rfl
theorem u_ix {a : Nat} {y : D} : idxV (.ref a) y h = ixO a y h (get h a) := by
  unfold ixO
  split
  · rename_i xs g
    have e1 : dicOf (.ref a) h = none := dic_none (xs := xs) (by simp only [listOf, g])
    simp only [idxV, listOf, g, e1]
    rfl
  · rename_i t kvs g
    simp only [idxV, dicOf, g]
    rfl
  · rfl
theorem ixO_l {a : Nat} {y : D} : ixO a y h (some (.lst xs)) = idxV (.lst xs) y h := rfl
def lsO (a : Nat) (h : Hp) (o : Option Ob) : Option (List D) := match o with
  | some (.lst xs) => some xs
  | _ => listOf (.ref a) h
theorem u_ls {a : Nat} : listOf (.ref a) h = lsO a h (get h a) := by
  unfold lsO
  split
  · rename_i xs g
    simp only [listOf, g]
  · rfl
theorem lsO_l {a : Nat} : lsO a h (some (.lst xs)) = some xs := rfl
theorem u_sq {a : Nat} : seqOf (.ref a) h = lsO a h (get h a) := u_ls
theorem u_it {a : Nat} : itemsOf (.ref a) h = lsO a h (get h a) := u_ls
theorem u_wk {a : Nat} {y : D} : walkV .e (.ref a) y h = lsO a h (get h a) := u_ls
def slO (a : Nat) (h : Hp) (l u : Option Int) (o : Option Ob) : Option D := match o with
  | some (.lst xs) => slcV (.lst xs) l u h
  | _ => slcV (.ref a) l u h
theorem u_sl {a : Nat} {l u : Option Int} : slcV (.ref a) l u h = slO a h l u (get h a) := by
  unfold slO
  split
  · rename_i xs g
    simp only [slcV, listOf, g]
  · rfl
theorem slO_l {a : Nat} {l u : Option Int} : slO a h l u (some (.lst xs)) = slcV (.lst xs) l u h := rfl
def rvO (a : Nat) (h : Hp) (o : Option Ob) : Option D := match o with
  | some (.lst xs) => some (.lst xs.reverse)
  | _ => revV (.ref a) h
theorem u_rv {a : Nat} : revV (.ref a) h = rvO a h (get h a) := by
  unfold rvO
  split
  · rename_i xs g
    simp only [revV, listOf, g] <;> rfl
  · rfl
theorem rvO_l {a : Nat} : rvO a h (some (.lst xs)) = some (.lst xs.reverse) := rfl
theorem r_rev : revV (.lst xs) h = some (.lst xs.reverse) := rfl
def jnO (a : Nat) (s : List Nat) (h : Hp) (o : Option Ob) : Out D := match o with
  | some (.lst xs) => strM "join" s [.lst xs] h
  | _ => strM "join" s [.ref a] h
theorem u_jn {a : Nat} : strM "join" s [.ref a] h = jnO a s h (get h a) := by
  unfold jnO
  split
  · rename_i xs g
    unfold strM
    rw [if_pos rfl, if_pos rfl]
    simp only [listOf, g]
  · rfl
theorem jnO_l {a : Nat} : jnO a s h (some (.lst xs)) = strM "join" s [.lst xs] h := rfl
def adO (a : Nat) (y : D) (h : Hp) (o : Option Ob) : Option D := match o with
  | some (.lst xs) => binV .add (.lst xs) y h
  | _ => binV .add (.ref a) y h
theorem u_ad {a : Nat} {y : D} : binV .add (.ref a) y h = adO a y h (get h a) := by
  unfold adO
  split
  · rename_i xs g
    cases y <;> simp only [binV, mutOf, g]
  · rfl
theorem adO_l {a : Nat} {y : D} : adO a y h (some (.lst xs)) = binV .add (.lst xs) y h := rfl
def aqO (a : Nat) (xs : List D) (h : Hp) (o : Option Ob) : Option D := match o with
  | some (.lst ys) => binV .add (.lst xs) (.lst ys) h
  | _ => binV .add (.lst xs) (.ref a) h
theorem u_aq {a : Nat} : binV .add (.lst xs) (.ref a) h = aqO a xs h (get h a) := by
  unfold aqO
  split
  · rename_i xs g
    simp only [binV, mutOf, g]
  · rfl
theorem aqO_l {a : Nat} : aqO a xs h (some (.lst ys)) = binV .add (.lst xs) (.lst ys) h := rfl
/-! methods of lists -/
def mtO (C : Ctx) (m : String) (es : List E) (ρ : Env) (E' : String → Hp → Prop) (Q : D → Hp → Prop) (a : Nat) (h : Hp) (o : Option Ob) : Prop := match o with
  | some (.lst _) => mok m 2 = true ∧ (evs C es ρ h).wp E' (kMt2 m (.ref a) 2 E' Q)
  | some (.dic _ _) => mok m 3 = true ∧ (evs C es ρ h).wp E' (kMt2 m (.ref a) 3 E' Q)
  | some (.ins c fs) => (C.hm (c, m) = true ∧ (lookF m fs).isNone = true) ∧ (evs C es ρ h).wp E' (kMi C c m a E' Q)
  | _ => (mtV C m es ρ (.ref a) h).wp E' Q
theorem mt_no {m : String} {y : D} {es : List E} (hi : insOf y h = none) (hm : mok m (kindD y h) = false) : (mtV C m es ρ y h).wp E' Q = False := by
  unfold mtV
  rw [hi]
  show Out.wp (if mok m (kindD y h) = true then _ else _) E' Q = _
  rw [hm, if_neg Bool.false_ne_true]
  rfl
theorem u_mt {m : String} {a : Nat} {es : List E} : (mtV C m es ρ (.ref a) h).wp E' Q = mtO C m es ρ E' Q a h (get h a) := by
  unfold mtO
  split
  · rename_i xs g
    have hi : insOf (.ref a) h = none := by simp only [insOf, g]
    have hk : kindD (.ref a) h = 2 := by simp only [kindD, g]
    cases hm : mok m 2 with
    | true => rw [mt_lst g hm]; simp
    | false => rw [mt_no hi (by rw [hk]; exact hm)]; simp
  · rename_i t kvs g
    have hi : insOf (.ref a) h = none := by simp only [insOf, g]
    have hk : kindD (.ref a) h = 3 := by simp only [kindD, g]
    cases hm : mok m 3 with
    | true =>
      have := mt_go (C := C) (es := es) (ρ := ρ) (E' := E') (Q := Q) hi (by rw [hk]; exact hm)
      rw [hk] at this
      rw [this]; simp
    | false => rw [mt_no hi (by rw [hk]; exact hm)]; simp
  · rename_i c fs g
    have hi : insOf (.ref a) h = some (c, fs) := by simp only [insOf, g]
    unfold mtV
    rw [hi]
    show Out.wp (if C.hm (c, m) = true ∧ (lookF m fs).isNone = true then _ else _) E' Q = _
    by_cases q : C.hm (c, m) = true ∧ (lookF m fs).isNone = true
    · rw [if_pos q, wp_bd]
      exact propext ⟨fun z => ⟨q, z⟩, fun z => z.2⟩
    · rw [if_neg q]
      exact propext ⟨fun z => z.elim, fun z => q z.1⟩
  · rfl
theorem mtO_l {m : String} {a : Nat} {es : List E} (hm : mok m 2 = true) : mtO C m es ρ E' Q a h (some (.lst xs)) = (evs C es ρ h).wp E' (kMt2 m (.ref a) 2 E' Q) := by
  simp [mtO, hm]
theorem mtO_d {m : String} {a : Nat} {es : List E} {t : Bool} {kvs : List (D × D)} (hm : mok m 3 = true) : mtO C m es ρ E' Q a h (some (.dic t kvs)) = (evs C es ρ h).wp E' (kMt2 m (.ref a) 3 E' Q) := by
  simp [mtO, hm]
theorem mtO_i {m c : String} {a : Nat} {es : List E} {fs : List (String × D)} : mtO C m es ρ E' Q a h (some (.ins c fs)) = ((C.hm (c, m) = true ∧ (lookF m fs).isNone = true) ∧ (evs C es ρ h).wp E' (kMi C c m a E' Q)) := rfl
def mt2O (m : String) (k : Nat) (E' : String → Hp → Prop) (Q : D → Hp → Prop) (ds : List D) (a : Nat) (h : Hp) (o : Option Ob) : Prop := match o with
  | some (.lst xs) => k = 2 ∧ (lstM m a xs ds h).wp E' Q
  | some (.dic t kvs) => k = 3 ∧ (dicM m a t kvs ds h).wp E' Q
  | _ => kMt2 m (.ref a) k E' Q ds h
theorem u_mt2 {m : String} {a k : Nat} {ds : List D} : kMt2 m (.ref a) k E' Q ds h = mt2O m k E' Q ds a h (get h a) := by
  unfold mt2O
  split
  · rename_i xs g
    have hk : kindD (.ref a) h = 2 := by simp only [kindD, g]
    by_cases q : k = 2
    · subst q
      rw [mt_lst2 g]; simp
    · unfold kMt2
      rw [hk, if_neg (fun z => q z.symm)]
      exact propext ⟨fun z => z.elim, fun z => q z.1⟩
  · rename_i t kvs g
    have hk : kindD (.ref a) h = 3 := by simp only [kindD, g]
    by_cases q : k = 3
    · subst q
      rw [kMt2_ hk]
      unfold mthV
      simp [g]
    · unfold kMt2
      rw [hk, if_neg (fun z => q z.symm)]
      exact propext ⟨fun z => z.elim, fun z => q z.1⟩
  · rfl
theorem mt2O_l {m : String} {a : Nat} {ds : List D} : mt2O m 2 E' Q ds a h (some (.lst xs)) = (lstM m a xs ds h).wp E' Q := by simp [mt2O]
theorem mt2O_d {m : String} {a : Nat} {ds : List D} {t : Bool} {kvs : List (D × D)} : mt2O m 3 E' Q ds a h (some (.dic t kvs)) = (dicM m a t kvs ds h).wp E' Q := by simp [mt2O]
def exO (a : Nat) (xs : List D) (b : Nat) (h : Hp) (o : Option Ob) : Out D := match o with
  | some (.lst ys) => lstM "extend" a xs [.lst ys] h
  | _ => lstM "extend" a xs [.ref b] h
theorem u_ex {a b : Nat} : lstM "extend" a xs [.ref b] h = exO a xs b h (get h b) := by
  unfold exO
  split
  · rename_i ys g
    unfold lstM
    rw [if_neg (by decide), if_pos rfl, if_neg (by decide), if_pos rfl]
    simp only [mutOf, g]
  · rfl
theorem exO_l {a b : Nat} : exO a xs b h (some (.lst ys)) = lstM "extend" a xs [.lst ys] h := rfl
/-! the end of a call -/
def clO (h H : Hp) (a : Nat) (o : Option Ob) : Out D := match o with
  | some (.lst xs) => if h.length < H.length ∧ h.length ≤ a ∧ gcOk h (trunc h.length H) = true ∧ belows h.length xs = true then .ok (.lst xs) (trunc h.length H) else closeD h (.ref a) H
  | some (.dic _ _) => if h.length ≤ a then .ok (.ref a) H else closeD h (.ref a) H
  | some (.ins _ _) => if h.length ≤ a then .ok (.ref a) H else closeD h (.ref a) H
  | _ => closeD h (.ref a) H
theorem close_oth {a : Nat} (hn : h.length ≤ a) (g : ∀ xs, get H a ≠ some (.lst xs)) : closeD h (.ref a) H = .ok (.ref a) H := by
  unfold closeD
  split
  · rfl
  · split
    · rw [if_neg (by simp [below]; omega)]
      cases e : get H a with
      | none => simp only [e]
      | some o => cases o <;> first | exact absurd e (g _) | simp only [e]
    · rfl
theorem u_cl {a : Nat} : closeD h (.ref a) H = clO h H a (get H a) := by
  unfold clO
  split
  · rename_i xs g
    split
    · rename_i q
      obtain ⟨q1, q2, q3, q4⟩ := q
      unfold closeD
      rw [if_neg (by omega), if_pos q3, if_neg (by simpa [below] using q2)]
      simp only [g, q4, if_true]
    · rfl
  · rename_i g
    split
    · rename_i q
      exact close_oth q fun xs z => by rw [g] at z; cases z
    · rfl
  · rename_i g
    split
    · rename_i q
      exact close_oth q fun xs z => by rw [g] at z; cases z
    · rfl
  · rfl
theorem clO_d {a : Nat} {t : Bool} {kvs : List (D × D)} (hn : h.length ≤ a) : clO h H a (some (.dic t kvs)) = .ok (.ref a) H := if_pos hn
theorem clO_i {a : Nat} {c : String} {fs : List (String × D)} (hn : h.length ≤ a) : clO h H a (some (.ins c fs)) = .ok (.ref a) H := if_pos hn
theorem clO_l {a : Nat} (e : Ext h H) (hl : h.length < H.length) (hn : h.length ≤ a) (p : xs.all pl = true) : clO h H a (some (.lst xs)) = .ok (.lst xs) h := by
  obtain ⟨o, rfl⟩ := e.is
  show (if h.length < (o ++ h).length ∧ h.length ≤ a ∧ gcOk h (trunc h.length (o ++ h)) = true ∧ belows h.length xs = true then Out.ok (D.lst xs) (trunc h.length (o ++ h)) else closeD h (.ref a) (o ++ h)) = _
  rw [if_pos ⟨hl, hn, by rw [trunc_app]; simp [gcOk], belows_pl p⟩, trunc_app]
/-! loops over typed items -/
theorem forW_typ {α : Type} {enc : α → D} {l : List α} {as : List Nat} {h0 : Hp} (I : List α → Env → Hp → Prop) (i0 : I [] ρ h) (hs : ∀ pre ρ h, I pre ρ h → same as h0 h = true)
    (step : ∀ pre a rest ρ h, l = pre ++ a :: rest → I pre ρ h → oW (bindT t (enc a) ρ h) (kFT C body (I (pre ++ [a])) P h)) (fin : ∀ ρ h, I l ρ h → P.nx ρ h) : ForW C t body as h0 (l.map enc) ρ h P := by
  have go : ∀ (rest pre : List α) (ρ : Env) (h : Hp), l = pre ++ rest → I pre ρ h → ForW C t body as h0 (rest.map enc) ρ h P := by
    intro rest
    induction rest with
    | nil =>
      intro pre ρ h e i
      rw [List.append_nil] at e
      subst e
      unfold ForW
      rw [List.map_nil, forL, if_pos (hs _ _ _ i)]
      exact fin ρ h i
    | cons d rest ih =>
      intro pre ρ h e i
      obtain ⟨ρ2, e2, w⟩ := step pre d rest ρ h e i
      rw [kFT_] at w
      have nxt : ∀ ρ3 h3, I (pre ++ [d]) ρ3 h3 → ForW C t body as h0 (rest.map enc) ρ3 h3 P := fun ρ3 h3 i3 => ih (pre ++ [d]) ρ3 h3 (by rw [e, List.append_assoc]; rfl) i3
      unfold ForW
      rw [List.map_cons, forL, if_pos (hs _ _ _ i), e2]
      show Fl.wp (match exs C body ρ2 h with
        | .nx ρ1 h1 => forL _ _ (rest.map enc) ρ1 h1
        | .ct ρ1 h1 => forL _ _ (rest.map enc) ρ1 h1
        | .bk ρ1 h1 => .nx ρ1 h1
        | r => r) P
      cases o : exs C body ρ2 h with
      | nx ρ3 h3 => rw [o] at w; exact nxt ρ3 h3 w
      | ct ρ3 h3 => rw [o] at w; exact nxt ρ3 h3 w
      | bk ρ3 h3 => rw [o] at w; exact w
      | rt d3 h3 => rw [o] at w; exact w
      | ex k3 ρ3 h3 => rw [o] at w; exact w
      | bad => rw [o] at w; exact w
  exact go l [] ρ h rfl i0
/-- .. with a state that each turn changes -/
theorem forW_fold {α S : Type} {enc : α → D} {l : List α} {as : List Nat} {h0 : Hp} (f : S → α → S) (s0 : S) (I : Nat → S → Env → Hp → Prop) (i0 : I 0 s0 ρ h) (hs : ∀ n s ρ h, I n s ρ h → same as h0 h = true)
    (step : ∀ n s a ρ h, n < l.length → a ∈ l → I n s ρ h → oW (bindT t (enc a) ρ h) (kFT C body (I (n + 1) (f s a)) P h)) (fin : ∀ ρ h, I l.length (l.foldl f s0) ρ h → P.nx ρ h) : ForW C t body as h0 (l.map enc) ρ h P :=
  forW_typ (I := fun pre ρ h => I pre.length (pre.foldl f s0) ρ h) i0 (fun _ _ _ => hs _ _ _ _) (fun pre a rest ρ h e i => by
    have := step pre.length (pre.foldl f s0) a ρ h (by rw [e]; simp) (by rw [e]; simp) i
    simpa using this) fin
/-- .. that may end early, at the first item that .. -/
theorem forW_find {α : Type} {enc : α → D} {l : List α} {as : List Nat} {h0 : Hp} (p : α → Bool) (I : Env → Hp → Prop) (i0 : I ρ h) (hs : ∀ ρ h, I ρ h → same as h0 h = true)
    (step : ∀ a ρ h, a ∈ l → p a = false → I ρ h → oW (bindT t (enc a) ρ h) (kFT C body I P h))
    (stop : ∀ pre a rest ρ h, l = pre ++ a :: rest → (∀ b ∈ pre, p b = false) → p a = true → I ρ h → oW (bindT t (enc a) ρ h) (kFT C body (fun _ _ => False) P h))
    (fin : ∀ ρ h, (∀ a ∈ l, p a = false) → I ρ h → P.nx ρ h) : ForW C t body as h0 (l.map enc) ρ h P :=
  forW_typ (I := fun pre ρ h => (∀ b ∈ pre, p b = false) ∧ I ρ h) ⟨fun _ z => (nomatch z), i0⟩ (fun _ _ _ i => hs _ _ i.2) (fun pre a rest ρ h e i => by
    have mono : ∀ {J K : Env → Hp → Prop} {ρ1 : Env}, (∀ ρ h, J ρ h → K ρ h) → kFT C body J P h ρ1 → kFT C body K P h ρ1 := fun {J K ρ1} f q => by
      rw [kFT_] at q ⊢
      revert q
      cases exs C body ρ1 h <;> first | exact f _ _ | exact id
    cases e1 : p a with
    | false =>
      obtain ⟨ρ2, q1, q2⟩ := step a ρ h (by rw [e]; simp) e1 i.2
      refine ⟨ρ2, q1, mono (fun ρ h j => ⟨fun b hb => ?_, j⟩) q2⟩
      rcases List.mem_append.mp hb with hb | hb
      · exact i.1 b hb
      · rw [List.mem_singleton.mp hb]; exact e1
    | true =>
      obtain ⟨ρ2, q1, q2⟩ := stop pre a rest ρ h e i.1 e1 i.2
      exact ⟨ρ2, q1, mono (fun _ _ z => z.elim) q2⟩) fun ρ h i => fin ρ h i.1 i.2
/-- a turn that may leave its item out -/
def TurnF (C : Ctx) (own : List Nat) (t : Tg) (c el : E) (ρ : Env) (h : Hp) (d : D) (p : Bool) (g : D) : Prop :=
  oW (bindT t d (wipe own ρ) h) fun ρ1 => (ev C c ρ1 h).wp noX (fun b h1 => h1 = h ∧ truth b h = some p) ∧ (p = true → (ev C el ρ1 h).wp noX fun x h2 => (sto x h2).2 = h ∧ (sto x h2).1 = g)
theorem compW_filt {α : Type} {as : List Nat} {f g : α → D} {p : α → Bool} {l : List α} (H : ∀ x ∈ l, TurnF C own t c el ρ h (f x) (p x) (g x)) (q : Q (.lst ((l.filter p).map g)) h) : CompW C own t c el ρ as h (l.map f) Q := by
  have key : ∀ m : List α, (∀ x ∈ m, x ∈ l) → compL (compT t (wipe own ρ) h as (fun ρ1 h => ev C c ρ1 h) (fun ρ1 h => ev C el ρ1 h)) (m.map f) h = .ok ((m.filter p).map g) h := fun m hm => by
    induction m with
    | nil => rfl
    | cons x m ih =>
      obtain ⟨ρ1, e1, w1, w2⟩ := H x (hm x List.mem_cons_self)
      rw [List.map_cons, compL]
      have e2 : compT t (wipe own ρ) h as (fun ρ1 h => ev C c ρ1 h) (fun ρ1 h => ev C el ρ1 h) (f x) h = .ok (if p x = true then some (g x) else none) h := by
        unfold compT
        rw [if_pos same_self, e1]
        cases o1 : ev C c ρ1 h with
        | exc k h1 => rw [o1] at w1; exact w1.elim
        | bad => rw [o1] at w1; exact w1.elim
        | ok b h1 =>
          rw [o1] at w1
          obtain ⟨rfl, w1⟩ := w1
          simp only [o1, Out.bd, w1]
          cases px : p x with
          | false => simp
          | true =>
            have w2 := w2 px
            cases o2 : ev C el ρ1 h1 with
            | exc k h1 => rw [o2] at w2; exact w2.elim
            | bad => rw [o2] at w2; exact w2.elim
            | ok y h2 =>
              rw [o2] at w2
              obtain ⟨q1, q2⟩ := w2
              simp [q1, q2]
      rw [e2]
      simp only [Out.bd, ih fun y hy => hm y (List.mem_cons_of_mem _ hy)]
      rw [List.filter_cons]
      cases p x <;> rfl
  unfold CompW
  rw [key l fun _ h => h]
  show Out.wp (if same as h h = true then _ else _) _ Q
  rw [if_pos same_self]
  exact q
theorem compW_m {α : Type} {as : List Nat} {f g : α → D} {l : List α} (H : ∀ x ∈ l, TurnW C own t (.bl true) el ρ h (f x) fun r => r = some (g x)) (q : Q (.lst (l.map g)) h) : CompW C own t (.bl true) el ρ as h (l.map f) Q := compW_mapf H q
def kTP1 (h : Hp) (p : Bool) (b : D) (h1 : Hp) : Prop := h1 = h ∧ truth b h = some p
def kTP (C : Ctx) (c : E) (h : Hp) (p : Bool) (ρ1 : Env) : Prop := (ev C c ρ1 h).wp noX (kTP1 h p)
def TurnP (C : Ctx) (own : List Nat) (t : Tg) (c : E) (ρ : Env) (h : Hp) (d : D) (p : Bool) : Prop := oW (bindT t d (wipe own ρ) h) (kTP C c h p)
def kTE1 (h : Hp) (g : D) (x : D) (h2 : Hp) : Prop := (sto x h2).2 = h ∧ (sto x h2).1 = g
def kTE (C : Ctx) (el : E) (h : Hp) (g : D) (ρ1 : Env) : Prop := (ev C el ρ1 h).wp noX (kTE1 h g)
def TurnE (C : Ctx) (own : List Nat) (t : Tg) (el : E) (ρ : Env) (h : Hp) (d : D) (g : D) : Prop := oW (bindT t d (wipe own ρ) h) (kTE C el h g)
theorem kTP1_ {p : Bool} {h1 : Hp} : kTP1 h p d h1 = (h1 = h ∧ truth d h = some p) := rfl
theorem kTP_ {p : Bool} : kTP C c h p ρ = (ev C c ρ h).wp noX (kTP1 h p) := rfl
theorem turnP_ {p : Bool} : TurnP C own t c ρ h d p = oW (bindT t d (wipe own ρ) h) (kTP C c h p) := rfl
theorem kTE1_ {g : D} {h1 : Hp} : kTE1 h g d h1 = ((sto d h1).2 = h ∧ (sto d h1).1 = g) := rfl
theorem kTE_ {g : D} : kTE C el h g ρ = (ev C el ρ h).wp noX (kTE1 h g) := rfl
theorem turnE_ {g : D} : TurnE C own t el ρ h d g = oW (bindT t d (wipe own ρ) h) (kTE C el h g) := rfl
theorem compW_f {α : Type} {as : List Nat} {f g : α → D} {p : α → Bool} {l : List α} (H : ∀ x ∈ l, TurnP C own t c ρ h (f x) (p x)) (H2 : ∀ x ∈ l, p x = true → TurnE C own t el ρ h (f x) (g x)) (q : Q (.lst ((l.filter p).map g)) h) : CompW C own t c el ρ as h (l.map f) Q :=
  compW_filt (p := p) (g := g) (fun x hx => by
    obtain ⟨ρ1, e1, w1⟩ := H x hx
    refine ⟨ρ1, e1, w1, fun px => ?_⟩
    obtain ⟨ρ2, e2, w2⟩ := H2 x hx px
    rw [e1] at e2
    cases e2
    exact w2) q
theorem map_comp {α β γ : Type} {f : β → γ} {g : α → β} {l : List α} : (l.map fun x => f (g x)) = (l.map g).map f := by rw [List.map_map]; rfl
theorem r_setF {α : Type} {f : α → List Nat} {l : List α} (c : l.length ≤ 4000) : biV .sortedSet [.lst (l.map fun x => .str (f x))] h = .ok (.lst ((setT (l.map f)).map .str)) h := by
  rw [map_comp (f := D.str)]
  exact r_setL (by rw [List.length_map]; exact c)
theorem r_setG {α : Type} {f : α → List Nat} {l : List α} (c : l.length ≤ 4000) : biV .sortedSet [.tup (l.map fun x => .str (f x))] h = .ok (.lst ((setT (l.map f)).map .str)) h := by
  rw [map_comp (f := D.str)]
  exact r_setT (by rw [List.length_map]; exact c)
theorem r_joinF {α : Type} {f : α → List Nat} {l : List α} (c : (l.map f).flatten.length ≤ 16777216) : strM "join" [] [.lst (l.map fun x => .str (f x))] h = .ok (.str (l.map f).flatten) h := by
  rw [map_comp (f := D.str)]
  exact r_join c
theorem r_joinC {t : List Nat} (c : t.length ≤ 16777216) : strM "join" [] [.lst (t.map fun x => .str [x])] h = .ok (.str t) h := by
  have := r_joinF (h := h) (f := fun x => [x]) (l := t) (by rw [flat1]; exact c)
  rwa [flat1] at this
end
end Mi

/-! == of values without truths -/
namespace Mi
/-- no truths, no objects; so deep -/
def nb : Nat → D → Bool
  | _, .int _ => true
  | _, .str _ => true
  | _, .non => true
  | n + 1, .tup xs => xs.all (nb n)
  | n + 1, .lst xs => xs.all (nb n)
  | _, _ => false
theorem plains_go {h : Hp} {n : Nat} (f : ∀ d, nb n d = true → plainD h n d = some d) : ∀ {xs : List D}, xs.all (nb n) = true → plainDs h n xs = some xs
  | [], _ => by rw [plainDs]
  | x :: xs, e => by
    rw [List.all_cons, Bool.and_eq_true] at e
    rw [plainDs, f x e.1, plains_go f e.2] <;> rfl
theorem plain_nb {h : Hp} : ∀ {n : Nat} {d : D}, nb n d = true → plainD h n d = some d
  | n, .int _, _ => plain_int
  | n, .str _, _ => plain_str
  | n, .non, _ => plain_non
  | n + 1, .tup xs, e => by rw [plainD, plains_go (fun d => plain_nb) (show xs.all (nb n) = true from e)] <;> rfl
  | n + 1, .lst xs, e => by rw [plainD, plains_go (fun d => plain_nb) (show xs.all (nb n) = true from e)] <;> rfl
  | 0, .tup _, e => nomatch e
  | 0, .lst _, e => nomatch e
  | 0, .bl _, e => nomatch e
  | _ + 1, .bl _, e => nomatch e
  | 0, .ref _, e => nomatch e
  | _ + 1, .ref _, e => nomatch e
  | 0, .exc _, e => nomatch e
  | _ + 1, .exc _, e => nomatch e
  | 0, .cst _, e => nomatch e
  | _ + 1, .cst _, e => nomatch e
mutual
/-- no truths -/
def nt : D → Bool
  | .int _ => true
  | .str _ => true
  | .non => true
  | .tup xs => nts xs
  | .lst xs => nts xs
  | _ => false
def nts : List D → Bool
  | [] => true
  | x :: xs => nt x && nts xs
end
theorem nts_of {n : Nat} (f : ∀ d, nb n d = true → nt d = true) : ∀ {xs : List D}, xs.all (nb n) = true → nts xs = true
  | [], _ => by rw [nts]
  | x :: xs, e => by
    rw [List.all_cons, Bool.and_eq_true] at e
    rw [nts, f x e.1, nts_of f e.2] <;> rfl
theorem nt_of : ∀ {n : Nat} {d : D}, nb n d = true → nt d = true
  | _, .int _, _ => by rw [nt]
  | _, .str _, _ => by rw [nt]
  | _, .non, _ => by rw [nt]
  | n + 1, .tup xs, e => by rw [nt]; exact nts_of (fun d => nt_of) (show xs.all (nb n) = true from e)
  | n + 1, .lst xs, e => by rw [nt]; exact nts_of (fun d => nt_of) (show xs.all (nb n) = true from e)
  | 0, .tup _, e => nomatch e
  | 0, .lst _, e => nomatch e
  | 0, .bl _, e => nomatch e
  | _ + 1, .bl _, e => nomatch e
  | 0, .ref _, e => nomatch e
  | _ + 1, .ref _, e => nomatch e
  | 0, .exc _, e => nomatch e
  | _ + 1, .exc _, e => nomatch e
  | 0, .cst _, e => nomatch e
  | _ + 1, .cst _, e => nomatch e
mutual
theorem eqD_iff : ∀ {x y : D}, nt x = true → nt y = true → (eqD x y = true ↔ x = y)
  | .int i, y, _, hy => by
    cases y <;> simp_all [eqD, nt]
  | .str i, y, _, hy => by
    cases y <;> simp_all [eqD, nt]
  | .non, y, _, hy => by
    cases y <;> simp_all [eqD, nt]
  | .tup xs, y, hx, hy => by
    cases y <;> simp_all [eqD, nt]
    exact eqDs_iff hx hy
  | .lst xs, y, hx, hy => by
    cases y <;> simp_all [eqD, nt]
    exact eqDs_iff hx hy
  | .bl _, _, h, _ => by rw [nt] at h <;> simp_all
  | .ref _, _, h, _ => by rw [nt] at h <;> simp_all
  | .exc _, _, h, _ => by rw [nt] at h <;> simp_all
  | .cst _, _, h, _ => by rw [nt] at h <;> simp_all
theorem eqDs_iff : ∀ {xs ys : List D}, nts xs = true → nts ys = true → (eqDs xs ys = true ↔ xs = ys)
  | [], [], _, _ => by simp [eqDs]
  | [], _ :: _, _, _ => by simp [eqDs]
  | _ :: _, [], _, _ => by simp [eqDs]
  | x :: xs, y :: ys, hx, hy => by
    rw [nts, Bool.and_eq_true] at hx hy
    rw [eqDs, Bool.and_eq_true, eqD_iff hx.1 hy.1, eqDs_iff hx.2 hy.2]
    simp
end
theorem eqD_dec {x y : D} (hx : nt x = true) (hy : nt y = true) : eqD x y = decide (x = y) := by
  rw [Bool.eq_iff_iff, decide_eq_true_eq]
  exact eqD_iff hx hy
section
variable {h : Hp} {x y : D} {xs ys : List D} {a b : Bool}
theorem r_eq (hx : nb 40 x = true) (hy : nb 40 y = true) : cmpV .eq x y h = some (decide (x = y)) := by
  show eqV x y h = _
  unfold eqV deep
  rw [plain_nb hx, Option.bind_some, plain_nb hy, Option.map_some, eqD_dec (nt_of hx) (nt_of hy)]
theorem r_ne (hx : nb 40 x = true) (hy : nb 40 y = true) : cmpV .ne x y h = some (!decide (x = y)) := by
  show (cmpV .eq x y h).map (!·) = _
  rw [r_eq hx hy] <;> rfl
theorem r_eqB : cmpV .eq (.bl a) (.bl b) h = some (a == b) := by
  show eqV _ _ h = _
  unfold eqV
  rw [plain_bl, Option.bind_some, plain_bl, Option.map_some]
  rfl
theorem r_neB : cmpV .ne (.bl a) (.bl b) h = some (!(a == b)) := by
  show (cmpV .eq (.bl a) (.bl b) h).map (!·) = _
  rw [r_eqB] <;> rfl
theorem plains_nb {n : Nat} : ∀ {xs : List D}, xs.all (nb n) = true → plainDs h n xs = some xs
  | [], _ => by rw [plainDs]
  | x :: xs, e => by
    rw [List.all_cons, Bool.and_eq_true] at e
    rw [plainDs, plain_nb e.1, plains_nb e.2] <;> rfl
theorem any_eqD (hx : nt x = true) : ∀ {xs : List D}, nts xs = true → (xs.any fun b => eqD b x) = decide (x ∈ xs)
  | [], _ => by simp
  | y :: ys, e => by
    rw [nts, Bool.and_eq_true] at e
    rw [List.any_cons, any_eqD hx e.2, eqD_dec e.1 hx, Bool.eq_iff_iff, Bool.or_eq_true, decide_eq_true_eq, decide_eq_true_eq, decide_eq_true_eq, List.mem_cons]
    exact ⟨fun q => q.elim (fun q => .inl q.symm) .inr, fun q => q.elim (fun q => .inl q.symm) .inr⟩
theorem inL {d : D} (e : seqOf d h = some xs) (hs : ∀ z, d ≠ .str z) (hx : nb 40 x = true) (hy : xs.all (nb 40) = true) : cmpV .inn x d h = some (decide (x ∈ xs)) := by
  show inV x d h = _
  have : inV x d h = (plainD h deep x).bind fun a => (seqOf d h).bind fun ys => (plainDs h deep ys).map fun bs => bs.any fun b => eqD b a := by
    cases d <;> first | rfl | (exact absurd rfl (hs _); done) | (unfold inV; simp only [dic_seq e]; done)
  rw [this]
  unfold deep
  rw [plain_nb hx, Option.bind_some, e, Option.bind_some, plains_nb hy, Option.map_some, any_eqD (nt_of hx) (nts_of (fun d => nt_of) hy)]
theorem r_inT (hx : nb 40 x = true) (hy : xs.all (nb 40) = true) : cmpV .inn x (.tup xs) h = some (decide (x ∈ xs)) := inL rfl (fun z q => nomatch q) hx hy
theorem r_inL (hx : nb 40 x = true) (hy : xs.all (nb 40) = true) : cmpV .inn x (.lst xs) h = some (decide (x ∈ xs)) := inL rfl (fun z q => nomatch q) hx hy
theorem r_nin {z : D} : cmpV .nin x z h = (cmpV .inn x z h).map (!·) := rfl
theorem plain_ref {a : Nat} {n : Nat} (g : get h a = some (.lst xs)) : plainD h n (.ref a) = plainD h n (.lst xs) := by
  cases n with
  | zero => rw [plainD, plainD] <;> simp
  | succ n =>
    rw [plainD, plainD]
    simp only [g]
def eqO (a : Nat) (y : D) (h : Hp) (o : Option Ob) : Option Bool := match o with
  | some (.lst xs) => cmpV .eq (.lst xs) y h
  | _ => cmpV .eq (.ref a) y h
theorem u_eq {a : Nat} : cmpV .eq (.ref a) y h = eqO a y h (get h a) := by
  unfold eqO
  split
  · rename_i xs g
    show eqV _ _ h = eqV _ _ h
    unfold eqV
    rw [plain_ref g]
  · rfl
theorem eqO_l {a : Nat} : eqO a y h (some (.lst xs)) = cmpV .eq (.lst xs) y h := rfl
def eqP (a : Nat) (x : D) (h : Hp) (o : Option Ob) : Option Bool := match o with
  | some (.lst xs) => cmpV .eq x (.lst xs) h
  | _ => cmpV .eq x (.ref a) h
theorem u_er {a : Nat} : cmpV .eq x (.ref a) h = eqP a x h (get h a) := by
  unfold eqP
  split
  · rename_i xs g
    show eqV _ _ h = eqV _ _ h
    unfold eqV
    rw [plain_ref g]
  · rfl
theorem eqP_l {a : Nat} : eqP a x h (some (.lst xs)) = cmpV .eq x (.lst xs) h := rfl
theorem r_nE : cmpV .ne x y h = (cmpV .eq x y h).map (!·) := rfl
def dinV (t : Bool) (kvs : List (D × D)) (x : D) : Option Bool := if keyB t x = true then some (lookD x kvs).isSome else none
def inO (a : Nat) (x : D) (h : Hp) (o : Option Ob) : Option Bool := match o with
  | some (.lst xs) => cmpV .inn x (.lst xs) h
  | some (.dic t kvs) => dinV t kvs x
  | _ => cmpV .inn x (.ref a) h
theorem u_in {a : Nat} : cmpV .inn x (.ref a) h = inO a x h (get h a) := by
  unfold inO
  split
  · rename_i xs g
    show inV x (.ref a) h = inV x (.lst xs) h
    unfold inV
    simp only [seqOf, listOf, dicOf, g]
  · rename_i t kvs g
    show inV x (.ref a) h = _
    unfold inV
    simp only [dicOf, g]
    rfl
  · rfl
theorem inO_d {a : Nat} {t : Bool} {kvs : List (D × D)} : inO a x h (some (.dic t kvs)) = dinV t kvs x := rfl
theorem inO_l {a : Nat} : inO a x h (some (.lst xs)) = cmpV .inn x (.lst xs) h := rfl
end
end Mi
namespace Mi
theorem sg_map (t : List Nat) : (t.map fun c => D.str [c]) = (t.map fun c => [c]).map D.str := by rw [List.map_map]; rfl
theorem strs_inj {xs ys : List (List Nat)} : (xs.map D.str = ys.map D.str) = (xs = ys) := propext (List.map_inj_right fun x y e => by cases e; rfl)
theorem ints_inj {xs ys : List Int} : (xs.map D.int = ys.map D.int) = (xs = ys) := propext (List.map_inj_right fun x y e => by cases e; rfl)
/-- the steps of a call -/
theorem call_is {P : Prog} {n : Nat} {f : String × String} {d : Fd} {ds : List D} {h : Hp} {v : D} (hn : 1 ≤ n) (hf : P.fn f = some d) (hl : ds.length = d.np)
    (hb : ∀ m, n = m + 1 → (exs (ctx P m) d.body (ds.map some ++ List.replicate (d.nl - d.np) none) h).wp (bdP h fun d h1 => h1 = h ∧ d = v)) : call P n f ds h = .ok v h := by
  obtain ⟨m, rfl⟩ : ∃ m, n = m + 1 := ⟨n - 1, by omega⟩
  exact wp_is (call_of hf hl (hb m rfl))
end Mi
namespace Mi
section
variable {h : Hp} {T F : Hp → Prop} {p : Prop} [Decidable p]
theorem kC_yn (e : ¬ p) (t : T h) : kC T F h (!decide p) := kC_y (by rw [decide_eq_false e]; rfl) t
theorem kC_nn (e : p) (t : F h) : kC T F h (!decide p) := kC_n (by rw [decide_eq_true e]; rfl) t
end
theorem compW_raw {C : Ctx} {own : List Nat} {t : Tg} {c el : E} {ρ : Env} {h : Hp} {Q : D → Hp → Prop} {as : List Nat} {ds : List D} {g : D → D} (H : ∀ x ∈ ds, TurnW C own t c el ρ h x fun r => r = some (g x)) (q : Q (.lst (ds.map g)) h) : CompW C own t c el ρ as h ds Q := by
  have := compW_mapf (C := C) (own := own) (t := t) (c := c) (el := el) (ρ := ρ) (h := h) (Q := Q) (as := as) (f := fun x => x) (g := g) (l := ds) H q
  simpa using this
end Mi
namespace Mi
theorem kC_not {h : Hp} {T F : Hp → Prop} {k : Bool} (t : k = false → T h) (f : k = true → F h) : kC T F h (!k) := by
  cases k with
  | true => exact kC_n rfl (f rfl)
  | false => exact kC_y rfl (t rfl)
theorem kC_noty {h : Hp} {T F : Hp → Prop} {k : Bool} (e : k = false) (t : T h) : kC T F h (!k) := kC_y (by rw [e]; rfl) t
theorem kC_notn {h : Hp} {T F : Hp → Prop} {k : Bool} (e : k = true) (t : F h) : kC T F h (!k) := kC_n (by rw [e]; rfl) t
end Mi
namespace Mi
section
variable {α : Type} {a b c d e f g i j k m n : α} {l : List α}
theorem at_4 : atI (a :: b :: c :: d :: e :: l) 4 = some e := rfl
theorem at_5 : atI (a :: b :: c :: d :: e :: f :: l) 5 = some f := rfl
theorem at_6 : atI (a :: b :: c :: d :: e :: f :: g :: l) 6 = some g := rfl
theorem at_7 : atI (a :: b :: c :: d :: e :: f :: g :: i :: l) 7 = some i := rfl
theorem at_8 : atI (a :: b :: c :: d :: e :: f :: g :: i :: j :: l) 8 = some j := rfl
theorem at_9 : atI (a :: b :: c :: d :: e :: f :: g :: i :: j :: k :: l) 9 = some k := rfl
theorem at_10 : atI (a :: b :: c :: d :: e :: f :: g :: i :: j :: k :: m :: l) 10 = some m := rfl
theorem at_11 : atI (a :: b :: c :: d :: e :: f :: g :: i :: j :: k :: m :: n :: l) 11 = some n := rfl
end
end Mi
namespace Mi
theorem call_ex {P : Prog} {n : Nat} {f : String × String} {d : Fd} {ds : List D} {h : Hp} {S : D → Prop} {v : D} (hn : 1 ≤ n) (hf : P.fn f = some d) (hl : ds.length = d.np)
    (hb : ∀ m, n = m + 1 → (exs (ctx P m) d.body (ds.map some ++ List.replicate (d.nl - d.np) none) h).wp (bdP h fun d h1 => h1 = h ∧ d = v)) (hS : S v) : ∃ v, S v ∧ call P n f ds h = .ok v h := ⟨v, hS, call_is hn hf hl hb⟩
end Mi
namespace Mi
section
variable {α : Type} {l : List α} {i j : Int}
theorem sIx_nn {n d : Nat} (h : 0 ≤ i) : sIx n d (some i) = min i.toNat n := by
  unfold sIx
  simp only
  rw [if_neg (by omega)]
theorem drop_min {n : Nat} : l.drop (min n l.length) = l.drop n := by
  by_cases h : n ≤ l.length
  · rw [Nat.min_eq_left h]
  · rw [Nat.min_eq_right (by omega), List.drop_length, List.drop_of_length_le (by omega)]
theorem take_min {n : Nat} : l.take (min n l.length) = l.take n := by
  by_cases h : n ≤ l.length
  · rw [Nat.min_eq_left h]
  · rw [Nat.min_eq_right (by omega), List.take_length, List.take_of_length_le (by omega)]
theorem cut_d (h : 0 ≤ i) : cut l (some i) none = l.drop i.toNat := by
  unfold cut
  rw [sIx_nn h, drop_min]
  apply List.take_of_length_le
  simp only [sIx, List.length_drop]
  omega
theorem cut_t (h : 0 ≤ i) : cut l none (some i) = l.take i.toNat := by
  unfold cut
  rw [sIx_nn h]
  show (l.drop 0).take (min i.toNat l.length - 0) = _
  rw [List.drop_zero, Nat.sub_zero, take_min]
theorem cut_dt (h : 0 ≤ i) (h2 : 0 ≤ j) : cut l (some i) (some j) = (l.take j.toNat).drop i.toNat := by
  unfold cut
  rw [sIx_nn h, sIx_nn h2, drop_min, List.drop_take]
  by_cases q : i.toNat ≤ l.length
  · rw [Nat.min_eq_left q]
    by_cases p : j.toNat ≤ l.length
    · rw [Nat.min_eq_left p]
    · rw [Nat.min_eq_right (by omega), List.take_of_length_le (by simp), List.take_of_length_le (by simp; omega)]
  · rw [List.drop_of_length_le (by omega)]; simp
end
end Mi
namespace Mi
section
variable {h : Hp} {c : Bool}
theorem b_tt : isBV true true (.bl c) h = some (.bl (!c)) := by cases c <;> rfl
theorem b_tf : isBV true false (.bl c) h = some (.bl c) := by cases c <;> rfl
theorem b_ff : isBV false false (.bl c) h = some (.bl (!c)) := by cases c <;> rfl
theorem b_ft : isBV false true (.bl c) h = some (.bl c) := by cases c <;> rfl
end
end Mi
namespace Mi
theorem wk_cst {xs : List D} {y : D} {h : Hp} : walkV .e (.cst xs) y h = some xs := rfl
theorem scr_fun {f : Int → Int} {ns : List Int} {h : Hp} : Scr (.ref h.length) (ns.map f) (.lst (ns.map fun x => .int (f x)) :: h) := by
  rw [map_comp (f := D.int) (g := f)]
  exact scr_ref
end Mi
namespace Mi
theorem nb_up : ∀ {n : Nat} {d : D}, nb n d = true → nb (n + 1) d = true
  | _, .int _, _ => by simp [nb]
  | _, .str _, _ => by simp [nb]
  | _, .non, _ => by simp [nb]
  | n + 1, .tup xs, e => by
    have e : xs.all (nb n) = true := e
    show xs.all (nb (n + 1)) = true
    rw [List.all_eq_true] at e ⊢
    exact fun x hx => nb_up (e x hx)
  | n + 1, .lst xs, e => by
    have e : xs.all (nb n) = true := e
    show xs.all (nb (n + 1)) = true
    rw [List.all_eq_true] at e ⊢
    exact fun x hx => nb_up (e x hx)
  | 0, .tup _, e => nomatch e
  | 0, .lst _, e => nomatch e
  | 0, .bl _, e => nomatch e
  | _ + 1, .bl _, e => nomatch e
  | 0, .ref _, e => nomatch e
  | _ + 1, .ref _, e => nomatch e
  | 0, .exc _, e => nomatch e
  | _ + 1, .exc _, e => nomatch e
  | 0, .cst _, e => nomatch e
  | _ + 1, .cst _, e => nomatch e
end Mi

/-! sorted, in plain Lean -/
namespace Mi
theorem leD_str {a b : List Nat} : leD (.str a) (.str b) = leT a b := by
  unfold leD leT
  rw [toPy, toPy, PySem.W.dataLt_str] <;> rfl
theorem leD_int {a b : Int} : leD (.int a) (.int b) = decide (a ≤ b) := by
  unfold leD
  rw [toPy, toPy, PySem.W.dataLt_int]
  by_cases h : a ≤ b
  · simp [h]
  · simp [h]; omega
theorem srt_strs (zs : List (List Nat)) : srt (zs.map D.str) = (zs.mergeSort leT).map D.str := (List.map_mergeSort (f := D.str) (r := leT) (s := leD) fun a _ b _ => leD_str.symm).symm
theorem srt_ints (zs : List Int) : srt (zs.map D.int) = (zs.mergeSort fun a b => decide (a ≤ b)).map D.int := (List.map_mergeSort (f := D.int) (r := fun a b => decide (a ≤ b)) (s := leD) fun a _ b _ => leD_int.symm).symm
theorem depth_str {s : List Nat} : (toPy (.str s)).depth = 0 := by simp [toPy, PySem.PyData.depth]
theorem depth_int {i : Int} : (toPy (.int i)).depth = 0 := by simp [toPy, PySem.PyData.depth]
theorem sortable_strs (zs : List (List Nat)) : sortable (zs.map D.str) = true := by
  unfold sortable
  simp [alikeD, notTup, depth_str]
theorem sortable_ints (zs : List Int) : sortable (zs.map D.int) = true := by
  unfold sortable
  simp [alikeD, notTup, depth_int]
section
variable {h : Hp} {zs : List (List Nat)}
theorem r_sortS : biV .sorted [.lst (zs.map .str)] h = .ok (.lst ((zs.mergeSort leT).map .str)) h := by
  show ofO ((some (zs.map D.str)).bind fun xs => if sortable xs = true then some (D.lst (srt xs)) else none) h = _
  rw [Option.bind_some, if_pos (sortable_strs zs), srt_strs] <;> rfl
theorem r_sortI {zs : List Int} : biV .sorted [.lst (zs.map .int)] h = .ok (.lst ((zs.mergeSort fun a b => decide (a ≤ b)).map .int)) h := by
  show ofO ((some (zs.map D.int)).bind fun xs => if sortable xs = true then some (D.lst (srt xs)) else none) h = _
  rw [Option.bind_some, if_pos (sortable_ints zs), srt_ints] <;> rfl
theorem sort_nodup (h : zs.Nodup) : zs.mergeSort leT = setT zs := by
  refine (setT_eq ?_ ?_ fun z => ?_).symm
  · exact (List.pairwise_mergeSort leT_tr leT_to _).imp fun h => leT_iff.mp h
  · rw [(List.mergeSort_perm _ _).nodup_iff]; exact h
  · exact (List.mergeSort_perm _ _).mem_iff
end
end Mi
namespace Mi
theorem exs_app {C : Ctx} {b : List S} {h : Hp} {P : Po} : ∀ {a : List S} {ρ : Env}, (exs C (a ++ b) ρ h).wp P = (exs C a ρ h).wp (sqP C b P) := by
  have key : ∀ (a : List S) (ρ : Env) (h : Hp), exs C (a ++ b) ρ h = (exs C a ρ h).sq fun ρ h => exs C b ρ h := fun a => by
    induction a with
    | nil => intro ρ h; rw [List.nil_append, exs]; rfl
    | cons s a ih =>
      intro ρ h
      rw [List.cons_append, exs, exs]
      cases ex C s ρ h <;> first | exact ih _ _ | rfl
  intro a ρ
  rw [key, wp_sq]
  rfl
end Mi
namespace Mi
theorem c_inLs {h : Hp} {s : List Nat} (zs : List (List Nat)) : cmpV .inn (.str s) (.lst (zs.map .str)) h = some (decide (s ∈ zs)) := c_inL zs rfl (fun z q => nomatch q)
end Mi
namespace Mi
section
variable {α : Type} {f : α → D} {l : List α} {h : Hp} {y : D}
theorem wk_enumT : walkV .enum (.tup (l.map f)) y h = some (l.zipIdx.map fun p => .tup [.int p.2, f p.1]) := by
  show some ((l.map f).zipIdx.map fun p => D.tup [.int p.2, p.1]) = _
  rw [List.zipIdx_map, List.map_map] <;> rfl
theorem wk_enumL : walkV .enum (.lst (l.map f)) y h = some (l.zipIdx.map fun p => .tup [.int p.2, f p.1]) := wk_enumT (h := h) (y := y)
theorem at_map {i : Int} {β : Type} {g : α → β} : atI (l.map g) i = (atI l i).map g := by
  unfold atI
  split
  · rw [List.getElem?_map]
  · rw [List.length_map]
    split
    · rw [List.getElem?_map]
    · rfl
theorem at_some {i : Int} (h0 : 0 ≤ i) (h1 : i < l.length) : ∃ v, l[i.toNat]? = some v ∧ v ∈ l ∧ atI l i = some v := by
  have : i.toNat < l.length := by omega
  exact ⟨l[i.toNat], List.getElem?_eq_getElem this, List.getElem_mem this, by unfold atI; rw [if_pos h0, List.getElem?_eq_getElem this]⟩
end
end Mi

/-! dicts, errors, fields, the end of a call -/
namespace Mi
section
variable {P : Prog} {n : Nat}
theorem ctx_sub : (ctx P n).sub = P.sub := rfl
theorem ctx_isb : (ctx P n).isb = P.isb := rfl
theorem ctx_hm : (ctx P n).hm = hasM P := rfl
theorem ctx_fi : (ctx P n).fi = call P (n - 1) := rfl
end
section
variable {C : Ctx} {ρ : Env} {h H : Hp} {E' : String → Hp → Prop} {Q : D → Hp → Prop} {P : Po} {d k x y : D} {xs ys : List D} {s z : List Nat} {i j : Int} {a b n : Nat} {c c' f g : String} {t : Bool} {kvs ps : List (D × D)} {fs : List (String × D)} {r : Out D}
theorem xE_ : xE P ρ c h = P.ex c ρ h := rfl
def tryK (o : Option Bool) (hd : Hd) (c : String) (ρ : Env) (h : Hp) (P : Po) : Prop := match o with
  | some true => (handle hd c ρ h).wp P
  | some false => P.ex c ρ h
  | none => False
theorem try_ex {hd : Hd} : (tryP C c hd P).ex c' ρ h = tryK (C.sub c' c) hd c' ρ h P := rfl
theorem tryK_t {hd : Hd} : tryK (some true) hd c ρ h P = (handle hd c ρ h).wp P := rfl
theorem tryK_f {hd : Hd} : tryK (some false) hd c ρ h P = P.ex c ρ h := rfl
theorem hd_keep {i j : Nat} : (handle (.keep i j) c ρ h).wp P = P.nx (st j (.exc c) (un i ρ)) h := by
  show P.nx ((ρ.set i none).set j (some (.exc c))) h = _
  rw [un_eq, st_eq]
theorem hd_retv {i : Nat} : (handle (.retv i) c ρ h).wp P = oW (lk i ρ) fun d => P.rt d h := by
  have : handle (.retv i) c ρ h = (match lk i ρ with
    | some d => .rt d h
    | none => .bad) := by
    unfold handle
    rw [lk_eq]
    simp only
    cases ρ[i]? with
    | none => rfl
    | some x => cases x <;> rfl
  rw [this]
  cases lk i ρ with
  | none => rw [oW_none]; rfl
  | some d => rw [oW_some]; rfl
theorem hd_cont : (handle .cont c ρ h).wp P = P.ct ρ h := rfl
/-- a call's end is r -/
def bdX (h : Hp) (r : Out D) : Po := ⟨fun _ h1 => closeD h .non h1 = r, fun x h1 => closeD h x h1 = r, fun _ _ => False, fun _ _ => False, fun c _ h1 => close h (.exc c h1) = r⟩
theorem bx_nx : (bdX h r).nx ρ H = (closeD h .non H = r) := rfl
theorem bx_rt : (bdX h r).rt d H = (closeD h d H = r) := rfl
theorem bx_ex : (bdX h r).ex c ρ H = (close h (.exc c H) = r) := rfl
theorem call_isX {P : Prog} {n : Nat} {f : String × String} {d : Fd} {ds : List D} {ρ : Env} (hf : P.fn f = some d) (hl : ds.length = d.np) (he : ds.map some ++ List.replicate (d.nl - d.np) none = ρ) (hn : 1 ≤ n)
    (hb : ∀ m, n = m + 1 → (exs (ctx P m) d.body ρ h).wp (bdX h r)) : call P n f ds h = r := by
  obtain ⟨m, rfl⟩ : ∃ m, n = m + 1 := ⟨n - 1, by omega⟩
  subst he
  rw [call_eq hf hl]
  have := hb m rfl
  revert this
  cases exs (ctx P m) d.body (ds.map some ++ List.replicate (d.nl - d.np) none) h <;> intro q <;> first | exact q | exact q.elim
theorem ok_eq {α : Type} {u v : α} : (Out.ok u h = Out.ok v h) = (u = v) := propext ⟨fun q => by cases q; rfl, fun q => by rw [q]⟩
theorem exc_eq {α : Type} : ((Out.exc c h : Out α) = .exc c h) = True := propext ⟨fun _ => True.intro, fun _ => rfl⟩
theorem close_exc (e : Ext h H) : close h (.exc c H) = .exc c h := by
  obtain ⟨o, rfl⟩ := e.is
  show (if (o ++ h).length = h.length then Out.exc c (o ++ h) else if gcOk h (trunc h.length (o ++ h)) = true then .exc c (trunc h.length (o ++ h)) else .exc c (o ++ h)) = _
  split
  · rename_i q
    cases o with
    | nil => rfl
    | cons x o => simp at q; omega
  · rw [trunc_app, if_pos (by simp [gcOk])]
theorem close_same (e : H.length = h.length) : closeD h d H = .ok d H := by
  unfold closeD
  rw [if_pos e]
theorem closeX_same (e : H.length = h.length) : close h (.exc c H) = .exc c H := by
  show (if H.length = h.length then Out.exc c H else _) = _
  exact if_pos e
theorem ty_exc {sub : String → String → Option Bool} : tyV (.exc c) (.own c') h sub = sub c c' := rfl
theorem pl_b {b : Bool} : pl (.bl b) = true := pl_bl
/-! dicts -/
theorem kB_s : keyB false (.str s) = true := rfl
theorem kB_i : keyB false (.int i) = true := rfl
theorem kB_t (hk : keyNs 5 xs = true) : keyB true (.tup xs) = true := by simp [keyB, hk]
theorem dix_k (hk : keyB t k = true) : dixV t kvs k = lookD k kvs := if_pos hk
theorem din_k (hk : keyB t k = true) : dinV t kvs k = some (lookD k kvs).isSome := if_pos hk
theorem bD_len : biD .len t kvs h = .ok (.int kvs.length) h := rfl
theorem bD_list : biD .list t kvs h = .ok (.lst (kvs.map (·.1))) h := rfl
theorem bD_dict : biD .dict false kvs h = .ok (.ref h.length) (.dic false kvs :: h) := rfl
theorem bD_items (e : sortable (itD kvs) = true) : biD .sortedItems false kvs h = .ok (.lst (srt (itD kvs))) h := if_pos ⟨rfl, e⟩
theorem bD_vals : biD .valuesL t kvs h = .ok (.lst (kvs.map (·.2))) h := rfl
theorem dm_get1 (hk : keyB t k = true) : dicM "get" a t kvs [k] h = .ok ((lookD k kvs).getD .non) h := by
  unfold dicM
  rw [if_pos rfl]
  exact if_pos hk
theorem dm_get2 (hk : keyB t k = true) : dicM "get" a t kvs [k, x] h = .ok ((lookD k kvs).getD x) h := by
  unfold dicM
  rw [if_pos rfl]
  exact if_pos hk
def popO (a : Nat) (t : Bool) (kvs : List (D × D)) (k : D) (h : Hp) (x : Option D) (o : Option D) : Out D := match o with
  | some v => .ok v (put h a (.dic t (dropD k kvs)))
  | none => ofO x h
theorem dm_pop1 (hk : keyB t k = true) : dicM "pop" a t kvs [k] h = popO a t kvs k h none (lookD k kvs) := by
  unfold dicM
  rw [if_neg (by decide), if_pos rfl]
  show (if keyB t k = true then _ else _) = _
  rw [if_pos hk]
  cases lookD k kvs <;> rfl
theorem dm_pop2 (hk : keyB t k = true) : dicM "pop" a t kvs [k, x] h = popO a t kvs k h (some x) (lookD k kvs) := by
  unfold dicM
  rw [if_neg (by decide), if_pos rfl]
  show (if keyB t k = true then _ else _) = _
  rw [if_pos hk]
  cases lookD k kvs <;> rfl
theorem popO_s {o : Option D} : popO a t kvs k h o (some x) = .ok x (put h a (.dic t (dropD k kvs))) := rfl
theorem popO_n : popO a t kvs k h (some x) none = .ok x h := rfl
def sdO (a : Nat) (t : Bool) (kvs : List (D × D)) (k : D) (h : Hp) (x : D) (o : Option D) : Out D := match o with
  | some v => .ok v h
  | none => .ok x (put h a (.dic t (storeD k x kvs)))
theorem dm_sd (hk : keyB t k = true) (hl : kvs.length < 16777216) : dicM "setdefault" a t kvs [k, x] h = sdO a t kvs k h x (lookD k kvs) := by
  unfold dicM
  rw [if_neg (by decide), if_neg (by decide), if_pos rfl]
  show (if keyB t k = true ∧ kvs.length < 16777216 then _ else _) = _
  rw [if_pos ⟨hk, hl⟩]
  cases lookD k kvs <;> rfl
theorem sdO_s {v : D} : sdO a t kvs k h x (some v) = .ok v h := rfl
theorem sdO_n : sdO a t kvs k h x none = .ok x (put h a (.dic t (storeD k x kvs))) := rfl
def upO (a : Nat) (t : Bool) (kvs : List (D × D)) (b : Nat) (h : Hp) (o : Option Ob) : Out D := match o with
  | some (.dic false ps) => if b ≠ a ∧ t = false ∧ kvs.length + ps.length ≤ 16777216 then .ok .non (put h a (.dic false (mergeD kvs ps))) else .bad
  | _ => .bad
theorem dm_up : dicM "update" a t kvs [.ref b] h = upO a t kvs b h (get h b) := by
  unfold dicM upO
  rw [if_neg (by decide), if_neg (by decide), if_neg (by decide), if_pos rfl]
  all_goals
    simp only
    cases get h b with
    | none => rfl
    | some o =>
      cases o with
      | dic t' ps => cases t' <;> rfl
      | _ => rfl
theorem upO_d (hb : b ≠ a) (hl : kvs.length + ps.length ≤ 16777216) : upO a false kvs b h (some (.dic false ps)) = .ok .non (put h a (.dic false (mergeD kvs ps))) := if_pos ⟨hb, rfl, hl⟩
def ssO (d k : D) (ρ : Env) (P : Po) (a : Nat) (h : Hp) (o : Option Ob) : Prop := match o with
  | some (.lst xs) => (match k with
    | .int j => (-(xs.length : Int) ≤ j ∧ j < xs.length) ∧ P.nx ρ (put h a (.lst (xs.set (if 0 ≤ j then j.toNat else (j + xs.length).toNat) d)))
    | _ => False)
  | some (.dic t kvs) => (keyB t k = true ∧ kvs.length < 16777216) ∧ P.nx ρ (put h a (.dic t (storeD k d kvs)))
  | _ => False
theorem u_ss : kSs3 d (.ref a) ρ P k h = ssO d k ρ P a h (get h a) := by
  unfold kSs3 putAt ssO
  simp only
  cases get h a with
  | none => rfl
  | some o =>
    cases o with
    | lst xs =>
      cases k with
      | int j =>
        simp only
        by_cases q : -(xs.length : Int) ≤ j ∧ j < xs.length
        · rw [if_pos q]; exact propext ⟨fun z => ⟨q, z⟩, fun z => z.2⟩
        · rw [if_neg q]; exact propext ⟨fun z => z.elim, fun z => q z.1⟩
      | _ => rfl
    | dic t kvs =>
      simp only
      by_cases q : keyB t k = true ∧ kvs.length < 16777216
      · rw [if_pos q]; exact propext ⟨fun z => ⟨q, z⟩, fun z => z.2⟩
      · rw [if_neg q]; exact propext ⟨fun z => z.elim, fun z => q z.1⟩
    | _ => rfl
theorem ssO_l (h0 : 0 ≤ j) (h1 : j < xs.length) : ssO d (.int j) ρ P a h (some (.lst xs)) = P.nx ρ (put h a (.lst (xs.set j.toNat d))) := by
  show ((-(xs.length : Int) ≤ j ∧ j < xs.length) ∧ P.nx ρ (put h a (.lst (xs.set (if 0 ≤ j then j.toNat else (j + xs.length).toNat) d)))) = _
  rw [if_pos h0]
  exact propext ⟨fun z => z.2, fun z => ⟨⟨by omega, h1⟩, z⟩⟩
theorem ssO_d (hk : keyB t k = true) (hl : kvs.length < 16777216) : ssO d k ρ P a h (some (.dic t kvs)) = P.nx ρ (put h a (.dic t (storeD k d kvs))) := by
  simp [ssO, hk, hl]
/-! fields -/
def fdO (f : String) (o : Option Ob) : Option D := match o with
  | some (.ins _ fs) => lookF f fs
  | _ => none
theorem u_fd : fldV f (.ref a) h = fdO f (get h a) := by
  unfold fldV fdO insOf
  simp only
  cases get h a with
  | none => rfl
  | some o => cases o <;> rfl
theorem fdO_i : fdO f (some (.ins c fs)) = lookF f fs := rfl
theorem lookF_c : lookF f ((g, d) :: fs) = if g = f then some d else lookF f fs := rfl
theorem lookF_n : lookF f [] = none := rfl
theorem putF_c : putF f d ((g, x) :: fs) = if g = f then (g, d) :: fs else (g, x) :: putF f d fs := rfl
theorem putF_n : putF f d [] = [(f, d)] := rfl
def fsO (f : String) (d : D) (ρ : Env) (P : Po) (a : Nat) (h : Hp) (o : Option Ob) : Prop := match o with
  | some (.ins c fs) => fs.length < 1000 ∧ P.nx ρ (put h a (.ins c (putF f d fs)))
  | _ => False
theorem u_fs : kFs2 f d ρ P (.ref a) h = fsO f d ρ P a h (get h a) := by
  unfold kFs2 fsO
  simp only
  cases get h a with
  | none => rfl
  | some o =>
    cases o with
    | ins c fs =>
      simp only
      by_cases q : fs.length < 1000
      · rw [if_pos q]; exact propext ⟨fun z => ⟨q, z⟩, fun z => z.2⟩
      · rw [if_neg q]; exact propext ⟨fun z => z.elim, fun z => q z.1⟩
    | _ => rfl
theorem fsO_i (hl : fs.length < 1000) : fsO f d ρ P a h (some (.ins c fs)) = P.nx ρ (put h a (.ins c (putF f d fs))) := by
  simp [fsO, hl]
end
/-! dicts over typed items -/
section
variable {α : Type} {kf vf : α → D} {k v : D} {h : Hp}
theorem eqD_s {s t : List Nat} : eqD (.str s) (.str t) = decide (s = t) := by
  show (s == t) = _
  rw [Bool.eq_iff_iff]; simp
theorem eqD_i {i j : Int} : eqD (.int i) (.int j) = decide (i = j) := by
  show (i == j) = _
  rw [Bool.eq_iff_iff]; simp
theorem lookD_map : ∀ l : List α, lookD k (l.map fun x => (kf x, vf x)) = (l.find? fun x => eqD (kf x) k).map vf
  | [] => rfl
  | x :: l => by
    rw [List.map_cons, List.find?_cons, lookD]
    split
    · rename_i q; rw [q]; rfl
    · rename_i q; rw [Bool.not_eq_true] at q; rw [q]; exact lookD_map l
theorem dropD_map {l : List α} : dropD k (l.map fun x => (kf x, vf x)) = (l.filter fun x => !eqD (kf x) k).map fun x => (kf x, vf x) := by
  unfold dropD
  rw [List.filter_map] <;> rfl
theorem storeD_new {kvs : List (D × D)} (e : ∀ p ∈ kvs, eqD p.1 k = false) : storeD k v kvs = kvs ++ [(k, v)] := by
  unfold storeD
  rw [if_neg]
  simp only [List.any_eq_true, not_exists, not_and]
  intro p hp
  rw [e p hp]; simp
theorem merge_go : ∀ (l m : List α), (∀ x ∈ l, ∀ y ∈ m, eqD (kf y) (kf x) = false) → (l.Pairwise fun x y => eqD (kf x) (kf y) = false) → mergeD (m.map fun x => (kf x, vf x)) (l.map fun x => (kf x, vf x)) = (m ++ l).map fun x => (kf x, vf x)
  | [], m, _, _ => by simp [mergeD]
  | x :: l, m, e, p => by
    rw [List.pairwise_cons] at p
    rw [List.map_cons, mergeD, storeD_new (fun q hq => by
      obtain ⟨y, hy, rfl⟩ := List.mem_map.mp hq
      exact e x List.mem_cons_self y hy)]
    have := merge_go l (m ++ [x]) (fun z hz y hy => by
      rcases List.mem_append.mp hy with hy | hy
      · exact e z (List.mem_cons_of_mem _ hz) y hy
      · rw [List.mem_singleton.mp hy]; exact p.1 z hz) p.2
    rw [List.map_append, List.append_assoc] at this
    simpa using this
theorem pairs_map : ∀ l : List α, pairsOf (l.map fun x => .tup [kf x, vf x]) = some (l.map fun x => (kf x, vf x))
  | [] => rfl
  | x :: l => by
    show (pairsOf (l.map fun x => D.tup [kf x, vf x])).map ((kf x, vf x) :: ·) = _
    rw [pairs_map l]; rfl
theorem merge_nd {l : List α} (p : l.Pairwise fun x y => eqD (kf x) (kf y) = false) : mergeD [] (l.map fun x => (kf x, vf x)) = l.map fun x => (kf x, vf x) := merge_go l [] (fun _ _ _ z => nomatch z) p
theorem dict_tup {l : List α} (hk : ∀ x ∈ l, keyB false (kf x) = true) (p : l.Pairwise fun x y => eqD (kf x) (kf y) = false) : biV .dict [.tup (l.map fun x => .tup [kf x, vf x])] h = .ok (.ref h.length) (.dic false (l.map fun x => (kf x, vf x)) :: h) := by
  show (match pairsOf (l.map fun x => D.tup [kf x, vf x]) with
    | some ps => if (ps.all fun p => keyB false p.1) = true then Out.ok (D.ref h.length) (.dic false (mergeD [] ps) :: h) else .bad
    | none => .bad) = _
  rw [pairs_map]
  show (if _ then _ else _) = _
  rw [if_pos (by
    rw [List.all_map, List.all_eq_true]
    exact hk), merge_nd p]
theorem dict_lst {l : List α} (hk : ∀ x ∈ l, keyB false (kf x) = true) (p : l.Pairwise fun x y => eqD (kf x) (kf y) = false) : biV .dict [.lst (l.map fun x => .tup [kf x, vf x])] h = .ok (.ref h.length) (.dic false (l.map fun x => (kf x, vf x)) :: h) := dict_tup (h := h) hk p
/-- d[k] = v -/
theorem storeD_map {l : List α} {x : α} (hf : ∀ y ∈ l, (eqD (kf y) (kf x) = true → kf y = kf x)) : storeD (kf x) (vf x) (l.map fun x => (kf x, vf x)) = (if l.any (fun y => eqD (kf y) (kf x)) = true then l.map (fun y => if eqD (kf y) (kf x) = true then x else y) else l ++ [x]).map fun x => (kf x, vf x) := by
  unfold storeD
  rw [List.any_map]
  by_cases q : l.any (fun y => eqD (kf y) (kf x)) = true
  · rw [if_pos (by exact q), if_pos q, List.map_map, List.map_map]
    refine List.map_congr_left fun y hy => ?_
    simp only [Function.comp_apply]
    split
    · rename_i z; rw [hf y hy z]
    · rfl
  · rw [if_neg (by exact q), if_neg q]; simp
end
/-! lists of truths -/
section
variable {h : Hp} {n : Nat} {a b c : Bool} {k : String}
theorem sto_exc : sto (.exc k) h = (.exc k, h) := rfl
theorem r_count3 : lstM "count" n [.bl a, .bl b, .bl c] [.bl true] h = .ok (.int ([a, b, c].filter id).length) h := by
  have e : plainDs h deep [.bl a, .bl b, .bl c] = some [.bl a, .bl b, .bl c] := by
    rw [plainDs, plain_bl, plainDs, plain_bl, plainDs, plain_bl, plainDs]; rfl
  unfold lstM
  rw [if_neg (by decide), if_neg (by decide), if_neg (by decide), if_neg (by decide), if_neg (by decide), if_neg (by decide)]
  unfold lstM0
  rw [if_neg (by decide), if_pos rfl]
  simp only [e, plain_bl, Option.bind_some, Option.map_some]
  cases a <;> cases b <;> cases c <;> rfl
theorem r_index3 : lstM "index" n [.bl a, .bl b, .bl c] [.bl true] h = (if a = true then .ok (.int 0) h else if b = true then .ok (.int 1) h else if c = true then .ok (.int 2) h else .bad) := by
  have e : plainDs h deep [.bl a, .bl b, .bl c] = some [.bl a, .bl b, .bl c] := by
    rw [plainDs, plain_bl, plainDs, plain_bl, plainDs, plain_bl, plainDs]; rfl
  unfold lstM
  rw [if_neg (by decide), if_neg (by decide), if_neg (by decide), if_neg (by decide), if_neg (by decide), if_neg (by decide)]
  unfold lstM0
  rw [if_pos rfl]
  simp only [e, plain_bl, Option.bind_some]
  cases a <;> cases b <;> cases c <;> rfl
end
/-! walks over lists of the heap -/
section
variable {h : Hp} {a : Nat} {x y : D} {xs ys : List D}
def weO (a : Nat) (y : D) (h : Hp) (o : Option Ob) : Option (List D) := match o with
  | some (.lst xs) => walkV .enum (.lst xs) y h
  | _ => walkV .enum (.ref a) y h
theorem u_we : walkV .enum (.ref a) y h = weO a y h (get h a) := by
  unfold weO
  split
  · rename_i xs g
    simp only [walkV, itemsOf, listOf, g]
  · rfl
theorem weO_l : weO a y h (some (.lst xs)) = walkV .enum (.lst xs) y h := rfl
def wzO (a : Nat) (y : D) (h : Hp) (o : Option Ob) : Option (List D) := match o with
  | some (.lst xs) => walkV .zip (.lst xs) y h
  | _ => walkV .zip (.ref a) y h
theorem u_wz : walkV .zip (.ref a) y h = wzO a y h (get h a) := by
  unfold wzO
  split
  · rename_i xs g
    simp only [walkV, itemsOf, listOf, g]
  · rfl
theorem wzO_l : wzO a y h (some (.lst xs)) = walkV .zip (.lst xs) y h := rfl
def wyO (xs : List D) (b : Nat) (h : Hp) (o : Option Ob) : Option (List D) := match o with
  | some (.lst ys) => some ((xs.zip ys).map fun p => .tup [p.1, p.2])
  | _ => walkV .zip (.lst xs) (.ref b) h
theorem u_wy {b : Nat} : walkV .zip (.lst xs) (.ref b) h = wyO xs b h (get h b) := by
  unfold wyO
  split
  · rename_i ys g
    simp only [walkV, itemsOf, listOf, g]
    rfl
  · rfl
theorem wyO_l {b : Nat} : wyO xs b h (some (.lst ys)) = some ((xs.zip ys).map fun p => .tup [p.1, p.2]) := rfl
theorem wz_st {s : List Nat} : walkV .zip (.str s) y h = walkV .zip (.lst (s.map fun c => .str [c])) y h := rfl
theorem wz_tl : walkV .zip (.tup xs) y h = walkV .zip (.lst xs) y h := rfl
theorem wz_ls {s : List Nat} : walkV .zip (.lst xs) (.str s) h = some ((xs.zip (s.map fun c => .str [c])).map fun p => .tup [p.1, p.2]) := rfl
theorem wz_lt : walkV .zip (.lst xs) (.tup ys) h = some ((xs.zip ys).map fun p => .tup [p.1, p.2]) := rfl
theorem wz_ll : walkV .zip (.lst xs) (.lst ys) h = some ((xs.zip ys).map fun p => .tup [p.1, p.2]) := rfl
end
/-! order of tuples -/
section
variable {x y : D} {xs ys : List D} {s t : List Nat} {i j : Int}
theorem lt_tup_ne (ha : PySem.W.alike (toPy x) (toPy y) = true) (he : PySem.PyData.eqv (toPy x) (toPy y) = false) : PySem.W.dataLt (toPy (.tup (x :: xs))) (toPy (.tup (y :: ys))) = PySem.W.dataLt (toPy x) (toPy y) := by
  rw [toPy, toPy, PySem.W.dataLt_tuple, toPys, toPys]
  exact PySem.W.dataLt_all_no ha he
theorem lt_tup_eq (ha : PySem.W.alike (toPy x) (toPy y) = true) (he : PySem.PyData.eqv (toPy x) (toPy y) = true) : PySem.W.dataLt (toPy (.tup (x :: xs))) (toPy (.tup (y :: ys))) = PySem.W.dataLt (toPy (.tup xs)) (toPy (.tup ys)) := by
  rw [toPy, toPy, PySem.W.dataLt_tuple, toPys, toPys, toPy, toPy, PySem.W.dataLt_tuple]
  exact PySem.W.dataLt_all_yes ha he
theorem lt_str : PySem.W.dataLt (toPy (.str s)) (toPy (.str t)) = decide (s < t) := by
  rw [toPy, toPy, PySem.W.dataLt_str]
theorem lt_int : PySem.W.dataLt (toPy (.int i)) (toPy (.int j)) = decide (i < j) := by
  rw [toPy, toPy, PySem.W.dataLt_int]
theorem al_str : PySem.W.alike (toPy (.str s)) (toPy (.str t)) = true := by rw [toPy, toPy]; rfl
theorem al_int : PySem.W.alike (toPy (.int i)) (toPy (.int j)) = true := by rw [toPy, toPy]; rfl
theorem ev_str : PySem.PyData.eqv (toPy (.str s)) (toPy (.str t)) = decide (s = t) := by
  rw [toPy, toPy]
  unfold PySem.PyData.eqv
  rw [Bool.eq_iff_iff]
  simp
theorem ev_int : PySem.PyData.eqv (toPy (.int i)) (toPy (.int j)) = decide (i = j) := by
  rw [toPy, toPy]
  unfold PySem.PyData.eqv
  rw [Bool.eq_iff_iff]
  simp
theorem lt_nil : PySem.W.dataLt (toPy (.tup [])) (toPy (.tup [])) = false := by
  rw [toPy, toPys, PySem.W.dataLt_tuple, PySem.W.keyToksAll]
  rfl
theorem sg_lt {a b : Nat} : ([a] < [b]) = (a < b) := by
  rw [List.cons_lt_cons_iff]
  simp
end
/-! sorting pairs -/
theorem perm_sort {α : Type} {le : α → α → Bool} (tr : ∀ a b c, le a b = true → le b c = true → le a c = true) (to : ∀ a b, (le a b || le b a) = true) (an : ∀ a b, le a b = true → le b a = true → a = b) {l m : List α} (p : l.Perm m) : l.mergeSort le = m.mergeSort le := by
  refine List.Perm.eq_of_pairwise (le := fun a b => le a b = true) (fun a b _ _ h1 h2 => an a b h1 h2) (List.pairwise_mergeSort tr to _) (List.pairwise_mergeSort tr to _) ?_
  exact (List.mergeSort_perm _ _).trans (p.trans (List.mergeSort_perm _ _).symm)
end Mi

/-! comprehensions over a few items -/
namespace Mi
section
variable {C : Ctx} {own : List Nat} {t : Tg} {c el : E} {ρ : Env} {h : Hp} {Q : D → Hp → Prop} {as : List Nat} {d g x y u v : D}
theorem turn_val (H : TurnW C own t c el ρ h d fun r => r = some g) : compT t (wipe own ρ) h as (fun ρ1 h => ev C c ρ1 h) (fun ρ1 h => ev C el ρ1 h) d h = .ok (some g) h := by
  obtain ⟨ρ1, e1, w⟩ := H
  rw [kTn1_] at w
  unfold compT
  rw [if_pos same_self, e1]
  cases o1 : ev C c ρ1 h with
  | exc k h1 => rw [o1] at w; exact w.elim
  | bad => rw [o1] at w; exact w.elim
  | ok b h1 =>
    rw [o1] at w
    obtain ⟨k, e2, w⟩ := (show oW (truth b h1) (kC (kTn3 C el ρ1 h (fun r => r = some g)) (kTn4 h (fun r => r = some g)) h1) from w)
    cases k with
    | false =>
      rw [kC_f] at w
      obtain ⟨q1, w1⟩ := w
      cases w1
    | true =>
      rw [kC_t, kTn3_] at w
      cases o2 : ev C el ρ1 h1 with
      | exc k h2 => rw [o2] at w; exact w.elim
      | bad => rw [o2] at w; exact w.elim
      | ok x h2 =>
        rw [o2] at w
        obtain ⟨e3, w1⟩ := (show (sto x h2).2 = h ∧ some (sto x h2).1 = some g from w)
        simp only [o1, Out.bd, e2, o2, e3, w1]
theorem compW_0 (q : Q (.lst []) h) : CompW C own t c el ρ as h [] Q := by
  unfold CompW
  rw [compL]
  show Out.wp (if same as h h = true then _ else _) _ Q
  rw [if_pos same_self]
  exact q
theorem compW_2 (H1 : TurnW C own t c el ρ h x fun r => r = some u) (H2 : TurnW C own t c el ρ h y fun r => r = some v) (q : Q (.lst [u, v]) h) : CompW C own t c el ρ as h [x, y] Q := by
  unfold CompW
  rw [compL, turn_val H1]
  simp only [Out.bd]
  rw [compL, turn_val H2]
  simp only [Out.bd]
  rw [compL]
  show Out.wp (if same as h h = true then _ else _) _ Q
  rw [if_pos same_self]
  exact q
end
end Mi

namespace Mi
theorem Scr.ext {s : D} {ns : List Int} {h H : Hp} (x : Scr s ns h) (e : Ext h H) : Scr s ns H := by
  obtain ⟨o, rfl⟩ := e.is
  induction o with
  | nil => exact x
  | cons y o ih => exact (ih (Ext.app Ext.refl)).more y
end Mi
namespace Mi
theorem r_max2 {i j : Int} {h : Hp} : biV .max2 [.int i, .int j] h = .ok (.int (if j > i then j else i)) h := rfl
theorem r_min2 {i j : Int} {h : Hp} : biV .min2 [.int i, .int j] h = .ok (.int (if j < i then j else i)) h := rfl
end Mi
/-! calls that change what stands and leave new objects -/
namespace Mi
theorem get_memL : ∀ {h : Hp} {a : Nat} {o : Ob}, get h a = some o → o ∈ h
  | u :: h, a, o, e => by
    unfold get at e
    split at e
    · cases e; exact List.mem_cons_self
    · exact List.mem_cons_of_mem _ (get_memL e)
theorem close_grow {h H : Hp} {d : D} {a : Nat} {ob : Ob} (g : get H a = some ob) (ha : a < h.length) (hb : belowO h.length ob = false) (hne : get h a ≠ some ob) : closeD h d H = .ok d H := by
  unfold closeD
  split
  · rfl
  · have gt : get (trunc h.length H) a = some ob := by rw [get_trunc, if_pos ha, g]
    rw [if_neg]
    unfold gcOk
    rw [Bool.or_eq_true, decide_eq_true_eq, List.all_eq_true]
    rintro (e | e)
    · rw [e] at gt; exact hne gt
    · have := e ob (get_memL gt)
      rw [hb] at this
      exact Bool.false_ne_true this
theorem getO_put {h : Hp} {a b : Nat} {u : Ob} : get (put h a u) b = if b = a ∧ a < h.length then some u else get h b := by
  by_cases e : b = a
  · subst e
    by_cases l : b < h.length
    · rw [if_pos ⟨rfl, l⟩, get_put_self l]
    · rw [if_neg (fun z => l z.2)]
      have n1 : get h b = none := by
        cases q : get h b with
        | none => rfl
        | some o => exact absurd (get_lt q) l
      rw [n1]
      cases q : get (put h b u) b with
      | none => rfl
      | some o =>
        have := get_lt q
        rw [put_length] at this
        exact absurd this l
  · rw [if_neg (fun z => e z.1), get_put_ne e]
theorem Scr.any {ns : List Int} {h : Hp} : Scr (.cst (ns.map .int)) ns h := ⟨rfl, fun _ => rfl⟩
end Mi
namespace Mi
theorem put_put : ∀ {h : Hp} {a : Nat} {u v : Ob}, put (put h a u) a v = put h a v
  | [], _, _, _ => rfl
  | x :: h, a, u, v => by
    by_cases e : a = h.length
    · rw [put_hd e, put_hd e, put_hd e]
    · have e1 : put (x :: h) a u = x :: put h a u := if_neg e
      have e2 : put (x :: h) a v = x :: put h a v := if_neg e
      rw [e1, e2]
      show (if a = (put h a u).length then v :: put h a u else x :: put (put h a u) a v) = _
      rw [put_length, if_neg e, put_put]
theorem put_bd {h : Hp} {a : Nat} {x u : Ob} (e : a < h.length) : put (x :: h) a u = x :: put h a u := put_tl e
theorem lenput {h : Hp} {a : Nat} {u : Ob} : (put h a u).length = h.length := put_length h a u
theorem gp_s {h : Hp} {a : Nat} {u : Ob} (e : a < h.length) : get (put h a u) a = some u := get_put_self e
theorem gp_n {h : Hp} {a b : Nat} {u : Ob} (e : b ≠ a) : get (put h a u) b = get h b := get_put_ne e
end Mi
namespace HT
open PySem PySem.Spec PyProof.Rows L2
def top (i : Nat) : Stmt := PySem.Challenge.pw_partworld_k81_whole_there_and_back.main.body.getD i (.Pass ⟨0, 0, 0, 0⟩)
def mkD (x : Str) (i : Nat) : He.DefD := ⟨(x, none), x, x, defArgs (top i), defBody (top i), defScope (top i), [], []⟩
def mkM (c x : String) (i j : Nat) : He.DefD := ⟨(Str.ofString c, some (Str.ofString x)), Str.ofString x, Str.ofString (c ++ "." ++ x), defArgs (inClass (top i) j), defBody (inClass (top i) j), defScope (inClass (top i) j), [], []⟩
def fn0 : List He.DefD := [mkD "amounts_by_place" 5, mkD "all_places" 6, mkD "change_between" 7, mkD "world_by_place" 8, mkD "changed_by" 9, mkD "turned_back" 10, mkD "_law_cell" 12, mkD "_law_pick" 13, mkD "_law_amount" 14, mkD "_law_parts" 15, mkD "_law_world" 16, mkD "_law_filled" 17, mkD "_law_some_world" 18, mkD "_law_handle" 19, mkD "_law_order" 20, mkD "_law_born" 21, mkD "_law_due" 22, mkD "_law_near" 23, mkD "law" 24]
def fn : List He.DefD := fn0
def fa0 : List He.Fa := [.glo "PartError", .exc "PartError", .glo "NoMatch", .exc "NoMatch", .str "LETTERS" "ABCD", .glo "amounts_by_place", .glo "all_places", .glo "change_between", .glo "world_by_place", .glo "changed_by", .glo "turned_back", .glo "_law_cell", .glo "_law_pick", .glo "_law_amount", .glo "_law_parts", .glo "_law_world", .glo "_law_filled", .glo "_law_some_world", .glo "_law_handle", .glo "_law_order"]
def fa1 : List He.Fa := [.glo "_law_born", .glo "_law_due", .glo "_law_near", .glo "law", .free "ValueError", .free "dict", .free "enumerate", .free "isinstance", .free "len", .free "list", .free "max", .free "range", .free "sorted", .free "str", .free "tuple", .free "zip"]
def fa : List He.Fa := fa0 ++ fa1
def tups : List Mi.TupF := []
def isbs : List (String × String × Bool) := []
abbrev R : PySem.W.OpenRow := PySem.W.OpenLaw.row PySem.Challenge.rw_partworld_k81_whole_there_and_back
abbrev hk : PySem.W.Hook := He.hookX 4 fa fn [] [] (Mi.exK tups isbs)
def ob (s : PySem.W.SharedT) : He.AlX := He.obsX 4 fa fn [] [] (Mi.exK tups isbs) (HandSHeadRun.getT s)
theorem ob_eq (s : PySem.W.SharedT) : ob s = hk.obs s.abs := He.obsX_eq (HandSHeadRun.getT_eq s)
def names0 : List Str := ["PartError", "NoMatch", "LETTERS", "amounts_by_place", "all_places", "change_between", "world_by_place", "changed_by", "turned_back", "_law_cell", "_law_pick", "_law_amount", "_law_parts", "_law_world", "_law_filled", "_law_some_world", "_law_handle", "_law_order", "_law_born", "_law_due"]
def names1 : List Str := ["_law_near"]
def names : List Str := names0 ++ names1
theorem run (w : World) : HandSHeadRun.RunEq R (PySem.W.view R.prog [24]) hk ob 6000 names w := by
  intro os
  kernel_rfl
end HT
namespace Law
open Mi
abbrev b_amounts_by_place : List S := [.asg (.v 1) (.dic false [] []), .forr (.t [2, 3]) .enum (.idx (.var 0) (.int 0)) .nil [.sset (.var 1) (.var 2) (.var 3)], .forr (.t [4, 5]) .zip (.glo "LETTERS") (.idx (.var 0) (.int 1)) [.sset (.var 1) (.var 4) (.var 5)], .ret (.var 1)]
def f_amounts_by_place : Fd := ⟨1, 6, b_amounts_by_place⟩
abbrev b_all_places : List S := [.asg (.v 2) (.bin .sub (.bi .max2 [(.bi .len [(.var 0)]), (.bi .len [(.var 1)])]) (.bi .len [(.glo "LETTERS")])), .ret (.bin .add (.lsI .rng (.var 2) .nil) (.bi .list [(.glo "LETTERS")]))]
def f_all_places : Fd := ⟨2, 3, b_all_places⟩
abbrev b_change_between : List S := [.asg (.v 2) (.call "amounts_by_place" [(.var 0)]), .asg (.v 3) (.call "amounts_by_place" [(.var 1)]), .asg (.v 4) (.lst []), .forr (.v 5) .e (.call "all_places" [(.var 2), (.var 3)]) .nil [.ite (.cmp .ne (.mth "get" (.var 2) [(.var 5)]) (.mth "get" (.var 3) [(.var 5)])) [.ex (.mth "append" (.var 4) [(.tup [(.var 5), (.mth "get" (.var 2) [(.var 5)]), (.mth "get" (.var 3) [(.var 5)])])])] []], .ret (.bi .tuple [(.var 4)])]
def f_change_between : Fd := ⟨2, 6, b_change_between⟩
abbrev b_world_by_place : List S := [.asg (.v 1) (.bin .sub (.bi .len [(.var 0)]) (.bi .len [(.glo "LETTERS")])), .forr (.v 2) .rng (.var 1) .nil [.ite (.cmp .nin (.var 2) (.var 0)) [.raise "NoMatch"] []], .ret (.tup [(.bi .tuple [(.comp [2] (.v 2) .rng (.var 1) .nil (.bl true) (.idx (.var 0) (.var 2)))]), (.bi .tuple [(.comp [3] (.v 3) .e (.glo "LETTERS") .nil (.bl true) (.idx (.var 0) (.var 3)))])])]
def f_world_by_place : Fd := ⟨1, 4, b_world_by_place⟩
abbrev b_changed_by : List S := [.asg (.v 2) (.call "amounts_by_place" [(.var 0)]), .forr (.t [3, 4, 5]) .e (.var 1) .nil [.ite (.cmp .ne (.mth "get" (.var 2) [(.var 3)]) (.var 4)) [.raise "NoMatch"] [], .ite (.isN (.var 5)) [.ex (.mth "pop" (.var 2) [(.var 3)])] [.sset (.var 2) (.var 3) (.var 5)]], .ret (.call "world_by_place" [(.var 2)])]
def f_changed_by : Fd := ⟨2, 6, b_changed_by⟩
abbrev b_turned_back : List S := [.ret (.bi .tuple [(.comp [1, 2, 3] (.t [1, 2, 3]) .e (.var 0) .nil (.bl true) (.tup [(.var 1), (.var 3), (.var 2)]))])]
def f_turned_back : Fd := ⟨1, 4, b_turned_back⟩
abbrev b__law_cell : List S := [.ite (.cmp .lt (.var 1) (.bi .len [(.var 0)])) [.ret (.idx (.var 0) (.var 1))] [], .ite (.cmp .eq (.var 0) (.lst [])) [.ret (.int 0)] [], .ret (.bin .add (.bin .mul (.idx (.var 0) (.bin .mod (.var 1) (.bi .len [(.var 0)]))) (.int 31)) (.var 1))]
def f__law_cell : Fd := ⟨2, 2, b__law_cell⟩
abbrev b__law_pick : List S := [.asg (.v 3) (.bin .mod (.bin .mul (.bin .add (.call "_law_cell" [(.var 0), (.var 1)]) (.bin .mul (.int 6151) (.bin .add (.var 1) (.int 1)))) (.int 40692)) (.int 2147483399)), .ret (.bin .mod (.bin .mod (.bin .add (.bin .mul (.var 3) (.var 3)) (.bin .fdv (.var 3) (.int 31))) (.int 2147483629)) (.var 2))]
def f__law_pick : Fd := ⟨3, 4, b__law_pick⟩
abbrev b__law_amount : List S := [.asg (.v 2) (.call "_law_pick" [(.var 0), (.var 1), (.int 90000)]), .ite (.cmp .eq (.bin .mod (.var 2) (.int 3)) (.int 0)) [.ret (.bin .mod (.bin .fdv (.var 2) (.int 9)) (.int 10))] [], .ite (.cmp .eq (.bin .mod (.var 2) (.int 3)) (.int 1)) [.ret (.idx (.lst [(.int 0), (.int 1), (.int 5000), (.int 9998), (.int 9999)]) (.bin .mod (.bin .fdv (.var 2) (.int 9)) (.int 5)))] [], .ret (.bin .fdv (.var 2) (.int 9))]
def f__law_amount : Fd := ⟨2, 3, b__law_amount⟩
abbrev b__law_parts : List S := [.asg (.v 3) (.call "_law_pick" [(.var 0), (.var 1), (.var 2)]), .asg (.v 4) (.lst []), .forr (.v 5) .e (.str [97, 98, 99, 100, 101, 102, 103, 104]) .nil [.ite (.cmp .eq (.bin .mod (.var 3) (.int 2)) (.int 1)) [.ex (.mth "append" (.var 4) [(.tup [(.var 5), (.call "_law_amount" [(.var 0), (.bin .add (.bin .add (.var 1) (.int 1)) (.bi .len [(.var 4)]))])])])] [], .asg (.v 3) (.bin .fdv (.var 3) (.int 2))], .ret (.bi .tuple [(.var 4)])]
def f__law_parts : Fd := ⟨3, 6, b__law_parts⟩
abbrev b__law_world : List S := [.asg (.v 4) (.idx (.lst [(.int 4), (.int 8), (.int 32), (.int 256)]) (.call "_law_pick" [(.var 0), (.var 1), (.int 4)])), .asg (.v 5) (.lst []), .forr (.v 6) .rng (.bin .add (.var 2) (.call "_law_pick" [(.var 0), (.bin .add (.var 1) (.int 1)), (.bin .add (.bin .sub (.var 3) (.var 2)) (.int 1))])) .nil [.asg (.v 7) (.call "_law_pick" [(.var 0), (.bin .add (.bin .add (.var 1) (.int 6)) (.bin .mul (.int 11) (.var 6))), (.int 20)]), .asg (.v 8) (.call "_law_parts" [(.var 0), (.bin .add (.bin .add (.var 1) (.int 7)) (.bin .mul (.int 11) (.var 6))), (.var 4)]), .ite (.cmp .eq (.bin .mod (.var 7) (.int 5)) (.int 0)) [.asg (.v 8) .non] [], .ex (.mth "append" (.var 5) [(.tup [(.bin .fdv (.var 7) (.int 5)), (.var 8)])])], .ret (.tup [(.bi .tuple [(.var 5)]), (.bi .tuple [(.comp [9] (.v 9) .rng (.int 4) .nil (.bl true) (.call "_law_amount" [(.var 0), (.bin .add (.bin .add (.var 1) (.int 2)) (.var 9))]))])])]
def f__law_world : Fd := ⟨4, 10, b__law_world⟩
abbrev b__law_filled : List S := [.ret (.tup [(.bi .tuple [(.comp [1] (.v 1) .e (.idx (.var 0) (.int 0)) .nil (.bl true) (.tup [(.idx (.var 1) (.int 0)), (.or [(.idx (.var 1) (.int 1)), (.tup [])])]))]), (.idx (.var 0) (.int 1))])]
def f__law_filled : Fd := ⟨1, 2, b__law_filled⟩
abbrev b__law_some_world : List S := [.ite (.cmp .gt (.call "_law_pick" [(.var 0), (.var 1), (.int 3)]) (.int 0)) [.ret (.call "_law_world" [(.var 0), (.bin .add (.var 1) (.int 1)), (.int 0), (.int 9)])] [], .asg (.v 2) (.call "_law_world" [(.var 0), (.bin .add (.var 1) (.int 1)), (.int 37), (.int 40)]), .ite (.cmp .gt (.call "_law_pick" [(.var 0), (.bin .add (.var 1) (.int 500)), (.int 3)]) (.int 0)) [.asg (.v 2) (.call "_law_filled" [(.var 2)])] [], .ret (.var 2)]
def f__law_some_world : Fd := ⟨2, 3, b__law_some_world⟩
abbrev b__law_handle : List S := [.asg (.v 3) (.bin .sub (.call "_law_pick" [(.var 0), (.var 1), (.bin .add (.bi .len [(.idx (.var 2) (.int 0))]) (.int 2))]) (.int 1)), .ite (.not (.chain .le .lt (.int 0) (.var 3) (.bi .len [(.idx (.var 2) (.int 0))]))) [.ret (.tup [(.var 3), (.int 0)])] [], .ret (.tup [(.var 3), (.bin .add (.idx (.idx (.idx (.var 2) (.int 0)) (.var 3)) (.int 0)) (.idx (.lst [(.int 0), (.int 0), (.int 0), (.int 0), (.int 0), (.int 0), (.int 1), (.neg (.int 1))]) (.call "_law_pick" [(.var 0), (.bin .add (.var 1) (.int 1)), (.int 8)])))])]
def f__law_handle : Fd := ⟨3, 4, b__law_handle⟩
abbrev b__law_order : List S := [.asg (.v 3) (.call "_law_pick" [(.var 0), (.var 1), (.int 8)]), .asg (.v 4) (.call "_law_handle" [(.var 0), (.bin .add (.var 1) (.int 1)), (.var 2)]), .asg (.v 5) (.idx (.str [97, 98, 99, 100, 101, 102, 103, 104, 97, 98, 97, 98]) (.call "_law_pick" [(.var 0), (.bin .add (.var 1) (.int 3)), (.int 12)])), .ite (.cmp .lt (.var 3) (.int 2)) [.ret (.tup [(.str [98, 111, 114, 110]), (.call "_law_parts" [(.var 0), (.bin .add (.var 1) (.int 4)), (.int 32)])])] [], .ite (.cmp .eq (.var 3) (.int 2)) [.ret (.tup [(.str [103, 111, 110, 101]), (.var 4)])] [], .ite (.cmp .lt (.var 3) (.int 5)) [.ret (.tup [(.str [103, 105, 118, 101]), (.var 4), (.var 5), (.call "_law_amount" [(.var 0), (.bin .add (.var 1) (.int 4))])])] [], .ite (.cmp .lt (.var 3) (.int 7)) [.ret (.tup [(.str [116, 97, 107, 101]), (.var 4), (.var 5)])] [], .ret (.tup [(.str [115, 104, 97, 114, 101]), (.idx (.str [65, 66, 67, 68]) (.call "_law_pick" [(.var 0), (.bin .add (.var 1) (.int 3)), (.int 4)])), (.call "_law_amount" [(.var 0), (.bin .add (.var 1) (.int 4))])])]
def f__law_order : Fd := ⟨3, 6, b__law_order⟩
abbrev b__law_born : List S := [.asg (.v 2) (.bi .list [(.idx (.var 0) (.int 0))]), .asg (.v 3) (.comp [5, 6] (.t [5, 6]) .enum (.var 2) .nil (.isN (.idx (.var 6) (.int 1))) (.var 5)), .ite (.and [(.cmp .eq (.var 3) (.lst [])), (.cmp .eq (.bi .len [(.var 2)]) (.int 40))]) [.ret (.str [102, 117, 108, 108])] [], .ite (.cmp .eq (.var 3) (.lst [])) [.ex (.mth "append" (.var 2) [(.tup [(.int 0), .non])]), .asg (.v 3) (.lst [(.bin .sub (.bi .len [(.var 2)]) (.int 1))])] [], .asg (.v 4) (.idx (.idx (.var 2) (.idx (.var 3) (.int 0))) (.int 0)), .sset (.var 2) (.idx (.var 3) (.int 0)) (.tup [(.var 4), (.var 1)]), .ret (.tup [(.tup [(.bi .tuple [(.var 2)]), (.idx (.var 0) (.int 1))]), (.tup [(.idx (.var 3) (.int 0)), (.var 4)])])]
def f__law_born : Fd := ⟨2, 7, b__law_born⟩
abbrev b__law_due : List S := [.ite (.cmp .eq (.idx (.var 1) (.int 0)) (.str [115, 104, 97, 114, 101])) [.asg (.v 2) (.mth "index" (.str [65, 66, 67, 68]) [(.idx (.var 1) (.int 1))]), .ret (.tup [(.tup [(.idx (.var 0) (.int 0)), (.bin .add (.bin .add (.slc (.idx (.var 0) (.int 1)) .nil (.var 2)) (.tup [(.idx (.var 1) (.int 2))])) (.slc (.idx (.var 0) (.int 1)) (.bin .add (.var 2) (.int 1)) .nil))]), .non])] [], .ite (.cmp .eq (.idx (.var 1) (.int 0)) (.str [98, 111, 114, 110])) [.ret (.call "_law_born" [(.var 0), (.idx (.var 1) (.int 1))])] [], .asg (.t [3, 4]) (.idx (.var 1) (.int 1)), .asg (.v 5) (.bi .list [(.idx (.var 0) (.int 0))]), .ite (.or [(.not (.chain .le .lt (.int 0) (.var 3) (.bi .len [(.var 5)]))), (.cmp .ne (.idx (.idx (.var 5) (.var 3)) (.int 0)) (.var 4)), (.isN (.idx (.idx (.var 5) (.var 3)) (.int 1)))]) [.ret (.str [110, 111, 32, 116, 104, 105, 110, 103])] [], .sset (.var 5) (.var 3) (.tup [(.bin .add (.var 4) (.int 1)), .non]), .ite (.cmp .ne (.idx (.var 1) (.int 0)) (.str [103, 111, 110, 101])) [.asg (.v 6) (.bi .dict [(.idx (.idx (.idx (.var 0) (.int 0)) (.var 3)) (.int 1))]), .ite (.cmp .eq (.idx (.var 1) (.int 0)) (.str [103, 105, 118, 101])) [.sset (.var 6) (.idx (.var 1) (.int 2)) (.idx (.var 1) (.int 3))] [.ite (.cmp .nin (.idx (.var 1) (.int 2)) (.var 6)) [.ret (.str [110, 111, 32, 112, 97, 114, 116])] [.ex (.mth "pop" (.var 6) [(.idx (.var 1) (.int 2))])]], .sset (.var 5) (.var 3) (.tup [(.var 4), (.bi .tuple [(.bi .sortedItems [(.var 6)])])])] [], .ret (.tup [(.tup [(.bi .tuple [(.var 5)]), (.idx (.var 0) (.int 1))]), .non])]
def f__law_due : Fd := ⟨2, 7, b__law_due⟩
abbrev b__law_near : List S := [.asg (.v 3) (.call "_law_pick" [(.var 0), (.var 1), (.int 8)]), .ite (.cmp .eq (.var 3) (.int 0)) [.ret (.var 2)] [], .ite (.cmp .eq (.var 3) (.int 1)) [.ret (.tup [(.slc (.idx (.var 2) (.int 0)) .nil (.call "_law_pick" [(.var 0), (.bin .add (.var 1) (.int 1)), (.bin .add (.bi .len [(.idx (.var 2) (.int 0))]) (.int 1))])), (.idx (.var 2) (.int 1))])] [], .ite (.cmp .eq (.var 3) (.int 2)) [.ret (.call "_law_world" [(.var 0), (.bin .add (.var 1) (.int 2)), (.int 0), (.int 7)])] [], .forr (.v 4) .rng (.bin .add (.int 1) (.call "_law_pick" [(.var 0), (.bin .add (.var 1) (.int 1)), (.int 6)])) .nil [.asg (.v 5) (.call "_law_due" [(.var 2), (.call "_law_order" [(.var 0), (.bin .add (.bin .add (.var 1) (.int 2)) (.bin .mul (.int 15) (.var 4))), (.var 2)])]), .ite (.not (.isi (.var 5) .str)) [.asg (.v 2) (.idx (.var 5) (.int 0))] []], .ret (.var 2)]
def f__law_near : Fd := ⟨3, 6, b__law_near⟩
abbrev b_law : List S := [.asg (.v 1) (.call "_law_some_world" [(.var 0), (.int 0)]), .asg (.v 2) (.call "_law_near" [(.var 0), (.int 510), (.var 1)]), .asg (.v 3) (.call "change_between" [(.var 1), (.var 2)]), .ite (.or [(.cmp .ne (.call "changed_by" [(.var 1), (.var 3)]) (.var 2)), (.cmp .ne (.call "changed_by" [(.var 2), (.call "turned_back" [(.var 3)])]) (.var 1))]) [.ret (.bl false)] [], .ite (.or [(.cmp .ne (.call "change_between" [(.var 2), (.var 1)]) (.call "turned_back" [(.var 3)])), (.cmp .ne (.call "turned_back" [(.call "turned_back" [(.var 3)])]) (.var 3))]) [.ret (.bl false)] [], .ret (.and [(.cmp .eq (.call "change_between" [(.var 1), (.var 1)]) (.tup [])), (.cmp .eq (.call "changed_by" [(.var 2), (.tup [])]) (.var 2))])]
def f_law : Fd := ⟨1, 4, b_law⟩
def ptf0 : List FnI := [⟨"", "amounts_by_place", ["world", "made", "number", "slot", "letter", "amount"], f_amounts_by_place⟩, ⟨"", "all_places", ["one", "other", "many"], f_all_places⟩, ⟨"", "change_between", ["one", "other", "first", "second", "made", "place"], f_change_between⟩, ⟨"", "world_by_place", ["book", "many", "number", "letter"], f_world_by_place⟩, ⟨"", "changed_by", ["world", "change", "book", "place", "old", "new"], f_changed_by⟩, ⟨"", "turned_back", ["change", "place", "old", "new"], f_turned_back⟩, ⟨"", "_law_cell", ["_law_script", "_law_k"], f__law_cell⟩, ⟨"", "_law_pick", ["_law_script", "_law_k", "_law_many", "_law_drawn"], f__law_pick⟩, ⟨"", "_law_amount", ["_law_script", "_law_at", "_law_drawn"], f__law_amount⟩, ⟨"", "_law_parts", ["_law_script", "_law_at", "_law_wide", "_law_chosen", "_law_parts_here", "_law_kind"], f__law_parts⟩, ⟨"", "_law_world", ["_law_script", "_law_at", "_law_least", "_law_most", "_law_wide", "_law_slots", "_law_j", "_law_drawn", "_law_parts_here", "_law_k"], f__law_world⟩, ⟨"", "_law_filled", ["_law_world_here", "_law_slot"], f__law_filled⟩, ⟨"", "_law_some_world", ["_law_script", "_law_at", "_law_world_here"], f__law_some_world⟩, ⟨"", "_law_handle", ["_law_script", "_law_at", "_law_world_here", "_law_number"], f__law_handle⟩, ⟨"", "_law_order", ["_law_script", "_law_at", "_law_world_here", "_law_way", "_law_handle_here", "_law_kind"], f__law_order⟩, ⟨"", "_law_born", ["_law_world_here", "_law_parts_here", "_law_slots", "_law_empty", "_law_age", "_law_k", "_law_slot"], f__law_born⟩, ⟨"", "_law_due", ["_law_world_here", "_law_order_here", "_law_k", "_law_number", "_law_age", "_law_slots", "_law_parts_here"], f__law_due⟩, ⟨"", "_law_near", ["_law_script", "_law_at", "_law_world_here", "_law_way", "_law_k", "_law_due_here"], f__law_near⟩, ⟨"", "law", ["_law_script", "_law_one", "_law_other", "_law_change"], f_law⟩]
def ptf : List FnI := ptf0
def pt : Pt := ⟨ptf, [("LETTERS", .str [65, 66, 67, 68])], ["PartError", "NoMatch"], ["ValueError", "dict", "enumerate", "isinstance", "len", "list", "max", "range", "sorted", "str", "tuple", "zip"], [], [], [], []⟩
abbrev pr : Prog := pt.prog
theorem fn_amounts_by_place : pr.fn ("", "amounts_by_place") = some f_amounts_by_place := by kernel_rfl
theorem fn_all_places : pr.fn ("", "all_places") = some f_all_places := by kernel_rfl
theorem fn_change_between : pr.fn ("", "change_between") = some f_change_between := by kernel_rfl
theorem fn_world_by_place : pr.fn ("", "world_by_place") = some f_world_by_place := by kernel_rfl
theorem fn_changed_by : pr.fn ("", "changed_by") = some f_changed_by := by kernel_rfl
theorem fn_turned_back : pr.fn ("", "turned_back") = some f_turned_back := by kernel_rfl
theorem fn__law_cell : pr.fn ("", "_law_cell") = some f__law_cell := by kernel_rfl
theorem fn__law_pick : pr.fn ("", "_law_pick") = some f__law_pick := by kernel_rfl
theorem fn__law_amount : pr.fn ("", "_law_amount") = some f__law_amount := by kernel_rfl
theorem fn__law_parts : pr.fn ("", "_law_parts") = some f__law_parts := by kernel_rfl
theorem fn__law_world : pr.fn ("", "_law_world") = some f__law_world := by kernel_rfl
theorem fn__law_filled : pr.fn ("", "_law_filled") = some f__law_filled := by kernel_rfl
theorem fn__law_some_world : pr.fn ("", "_law_some_world") = some f__law_some_world := by kernel_rfl
theorem fn__law_handle : pr.fn ("", "_law_handle") = some f__law_handle := by kernel_rfl
theorem fn__law_order : pr.fn ("", "_law_order") = some f__law_order := by kernel_rfl
theorem fn__law_born : pr.fn ("", "_law_born") = some f__law_born := by kernel_rfl
theorem fn__law_due : pr.fn ("", "_law_due") = some f__law_due := by kernel_rfl
theorem fn__law_near : pr.fn ("", "_law_near") = some f__law_near := by kernel_rfl
theorem fn_law : pr.fn ("", "law") = some f_law := by kernel_rfl
end Law
namespace Law
open Mi
theorem gl_LETTERS : pr.glo "LETTERS" = some (.str [65, 66, 67, 68]) := by kernel_rfl
theorem prF : True := True.intro
theorem go_amounts_by_place {n : Nat} {a0 : D} {h : Hp} {r : Out D} (hn : 1 ≤ n) (hb : ∀ m, n = m + 1 → (exs (ctx pr m) b_amounts_by_place [some a0, none, none, none, none, none] h).wp (bdX h r)) : call pr n ("", "amounts_by_place") [a0] h = r := call_isX fn_amounts_by_place (Eq.refl _) (Eq.refl _) hn hb
theorem go_all_places {n : Nat} {a0 a1 : D} {h : Hp} {r : Out D} (hn : 1 ≤ n) (hb : ∀ m, n = m + 1 → (exs (ctx pr m) b_all_places [some a0, some a1, none] h).wp (bdX h r)) : call pr n ("", "all_places") [a0, a1] h = r := call_isX fn_all_places (Eq.refl _) (Eq.refl _) hn hb
theorem go_change_between {n : Nat} {a0 a1 : D} {h : Hp} {r : Out D} (hn : 1 ≤ n) (hb : ∀ m, n = m + 1 → (exs (ctx pr m) b_change_between [some a0, some a1, none, none, none, none] h).wp (bdX h r)) : call pr n ("", "change_between") [a0, a1] h = r := call_isX fn_change_between (Eq.refl _) (Eq.refl _) hn hb
theorem go_world_by_place {n : Nat} {a0 : D} {h : Hp} {r : Out D} (hn : 1 ≤ n) (hb : ∀ m, n = m + 1 → (exs (ctx pr m) b_world_by_place [some a0, none, none, none] h).wp (bdX h r)) : call pr n ("", "world_by_place") [a0] h = r := call_isX fn_world_by_place (Eq.refl _) (Eq.refl _) hn hb
theorem go_changed_by {n : Nat} {a0 a1 : D} {h : Hp} {r : Out D} (hn : 1 ≤ n) (hb : ∀ m, n = m + 1 → (exs (ctx pr m) b_changed_by [some a0, some a1, none, none, none, none] h).wp (bdX h r)) : call pr n ("", "changed_by") [a0, a1] h = r := call_isX fn_changed_by (Eq.refl _) (Eq.refl _) hn hb
theorem go_turned_back {n : Nat} {a0 : D} {h : Hp} {r : Out D} (hn : 1 ≤ n) (hb : ∀ m, n = m + 1 → (exs (ctx pr m) b_turned_back [some a0, none, none, none] h).wp (bdX h r)) : call pr n ("", "turned_back") [a0] h = r := call_isX fn_turned_back (Eq.refl _) (Eq.refl _) hn hb
theorem go__law_cell {n : Nat} {a0 a1 : D} {h : Hp} {r : Out D} (hn : 1 ≤ n) (hb : ∀ m, n = m + 1 → (exs (ctx pr m) b__law_cell [some a0, some a1] h).wp (bdX h r)) : call pr n ("", "_law_cell") [a0, a1] h = r := call_isX fn__law_cell (Eq.refl _) (Eq.refl _) hn hb
theorem go__law_pick {n : Nat} {a0 a1 a2 : D} {h : Hp} {r : Out D} (hn : 1 ≤ n) (hb : ∀ m, n = m + 1 → (exs (ctx pr m) b__law_pick [some a0, some a1, some a2, none] h).wp (bdX h r)) : call pr n ("", "_law_pick") [a0, a1, a2] h = r := call_isX fn__law_pick (Eq.refl _) (Eq.refl _) hn hb
theorem go__law_amount {n : Nat} {a0 a1 : D} {h : Hp} {r : Out D} (hn : 1 ≤ n) (hb : ∀ m, n = m + 1 → (exs (ctx pr m) b__law_amount [some a0, some a1, none] h).wp (bdX h r)) : call pr n ("", "_law_amount") [a0, a1] h = r := call_isX fn__law_amount (Eq.refl _) (Eq.refl _) hn hb
theorem go__law_parts {n : Nat} {a0 a1 a2 : D} {h : Hp} {r : Out D} (hn : 1 ≤ n) (hb : ∀ m, n = m + 1 → (exs (ctx pr m) b__law_parts [some a0, some a1, some a2, none, none, none] h).wp (bdX h r)) : call pr n ("", "_law_parts") [a0, a1, a2] h = r := call_isX fn__law_parts (Eq.refl _) (Eq.refl _) hn hb
theorem go__law_world {n : Nat} {a0 a1 a2 a3 : D} {h : Hp} {r : Out D} (hn : 1 ≤ n) (hb : ∀ m, n = m + 1 → (exs (ctx pr m) b__law_world [some a0, some a1, some a2, some a3, none, none, none, none, none, none] h).wp (bdX h r)) : call pr n ("", "_law_world") [a0, a1, a2, a3] h = r := call_isX fn__law_world (Eq.refl _) (Eq.refl _) hn hb
theorem go__law_filled {n : Nat} {a0 : D} {h : Hp} {r : Out D} (hn : 1 ≤ n) (hb : ∀ m, n = m + 1 → (exs (ctx pr m) b__law_filled [some a0, none] h).wp (bdX h r)) : call pr n ("", "_law_filled") [a0] h = r := call_isX fn__law_filled (Eq.refl _) (Eq.refl _) hn hb
theorem go__law_some_world {n : Nat} {a0 a1 : D} {h : Hp} {r : Out D} (hn : 1 ≤ n) (hb : ∀ m, n = m + 1 → (exs (ctx pr m) b__law_some_world [some a0, some a1, none] h).wp (bdX h r)) : call pr n ("", "_law_some_world") [a0, a1] h = r := call_isX fn__law_some_world (Eq.refl _) (Eq.refl _) hn hb
theorem go__law_handle {n : Nat} {a0 a1 a2 : D} {h : Hp} {r : Out D} (hn : 1 ≤ n) (hb : ∀ m, n = m + 1 → (exs (ctx pr m) b__law_handle [some a0, some a1, some a2, none] h).wp (bdX h r)) : call pr n ("", "_law_handle") [a0, a1, a2] h = r := call_isX fn__law_handle (Eq.refl _) (Eq.refl _) hn hb
theorem go__law_order {n : Nat} {a0 a1 a2 : D} {h : Hp} {r : Out D} (hn : 1 ≤ n) (hb : ∀ m, n = m + 1 → (exs (ctx pr m) b__law_order [some a0, some a1, some a2, none, none, none] h).wp (bdX h r)) : call pr n ("", "_law_order") [a0, a1, a2] h = r := call_isX fn__law_order (Eq.refl _) (Eq.refl _) hn hb
theorem go__law_born {n : Nat} {a0 a1 : D} {h : Hp} {r : Out D} (hn : 1 ≤ n) (hb : ∀ m, n = m + 1 → (exs (ctx pr m) b__law_born [some a0, some a1, none, none, none, none, none] h).wp (bdX h r)) : call pr n ("", "_law_born") [a0, a1] h = r := call_isX fn__law_born (Eq.refl _) (Eq.refl _) hn hb
theorem go__law_due {n : Nat} {a0 a1 : D} {h : Hp} {r : Out D} (hn : 1 ≤ n) (hb : ∀ m, n = m + 1 → (exs (ctx pr m) b__law_due [some a0, some a1, none, none, none, none, none] h).wp (bdX h r)) : call pr n ("", "_law_due") [a0, a1] h = r := call_isX fn__law_due (Eq.refl _) (Eq.refl _) hn hb
theorem go__law_near {n : Nat} {a0 a1 a2 : D} {h : Hp} {r : Out D} (hn : 1 ≤ n) (hb : ∀ m, n = m + 1 → (exs (ctx pr m) b__law_near [some a0, some a1, some a2, none, none, none] h).wp (bdX h r)) : call pr n ("", "_law_near") [a0, a1, a2] h = r := call_isX fn__law_near (Eq.refl _) (Eq.refl _) hn hb
theorem go_law {n : Nat} {a0 : D} {h : Hp} {r : Out D} (hn : 1 ≤ n) (hb : ∀ m, n = m + 1 → (exs (ctx pr m) b_law [some a0, none, none, none] h).wp (bdX h r)) : call pr n ("", "law") [a0] h = r := call_isX fn_law (Eq.refl _) (Eq.refl _) hn hb
end Law
namespace Law
open Mi
local macro_rules | `(tactic| rfl) => `(tactic| exact True.intro)
local macro_rules | `(tactic| array_get_dec) => `(tactic| first | assumption | (simp [← List.map_take, ← List.map_drop, pl_tup, pl_int, pl_str, pl_bl, pl_non, pl_cst]; done) | (simp [nb]; done) | (refine pls_map fun _ => ?_; array_get_dec))
local macro_rules | `(tactic| get_elem_tactic_trivial) => `(tactic| first | assumption | (exact small_r (by decide)) | (exact small_l (by decide)) | omega | exact kB_s | exact kB_i | (exact small_l (small_of (by omega) (by omega))) | (exact small_r (small_of (by omega) (by omega))) | (exact small_of (by omega) (by omega)) | decide | array_get_dec | (simp only [List.length_cons, List.length_append, List.length_nil, List.length_map, List.length_flatten, List.length_reverse, List.length_range, List.length_take, List.length_drop, List.length_set, List.length_zipIdx]; omega) | (repeat' (first | exact Ext.refl | assumption | refine Ext.cons ?_ | refine Ext.app ?_)) | (refine ⟨?_, ?_⟩ <;> get_elem_tactic_trivial))
local macro_rules | `(tactic| exists $es,*) => do
  let ls ← es.getElems.mapM fun e => `(Lean.Parser.Tactic.simpLemma| $e:term)
  let p := Lean.mkIdent `prF
  `(tactic| simp (disch := get_elem_tactic_trivial) only [$ls,*, $p:term, w_non, w_bl, w_int, w_str, kV_, w_var, w_glo, k2a_, k2b_, w_bin, w_cmp, w_idx, k1_, w_neg, w_not, w_isN, w_notN, w_isB, w_isi, w_rev, kA_, kO_, kX_, kE_, kC_t, kC_f, kAnd_, kOr_, w_and, w_or, wA_one, wA_more, wO_one, wO_more, kCh3_, kCh2_, kCh1_, w_chain, kIte_, w_ite, kCall_, kBi_, w_call, w_bi, kMth_, w_mth, mt_str, mt_str2, kSl3_, kSl2_, kSl1_, w_slc, kOpt_, wI_nil, wI_int, wI_var, wI_bin, wI_neg, kTup_, kLst_, w_tup, w_lst, kCo_, kAr_, kAq_, ws_nil, ws_cons, wr_nil, wr_cons, sq_nx, sq_rt, sq_bk, sq_ct, sq_ex, x_nil, x_cons, kAsg_, x_asg, kBnd_, kAst_, x_asgt, bind1_nil, bind1_cons, kEx_, x_ex, x_ret, kSt_, kIf_, x_ite, x_brk, x_cnt, x_pass, x_raise, bd_nx, bd_rt, tn_nx, tn_ct, tn_bk, tn_rt, tn_ex, kFT_, kCp3_, kCp2_, kCp1_, w_comp, kFr3_, kFr2_, kFr1_, x_for, wN_nil, turn_, kTn1_, kTn2_, kTn3_, kTn4_, kTn5_, lk_0, lk_s, st_0, st_s, un_0, un_s, wipe_nil, wipe_cons, oW_some, wp_ok, ctx_fn, ctx_glo, sto_int, sto_str, sto_tup, sto_bl, sto_non, sto_ref, sto_cst, sto_lst, tr_bl, tr_int, tr_str, tr_tup, tr_lst, tr_non, c_cmp, n_not, n_neg, n_isi, isNV, notNV, kCh_, c_lt, c_le, c_gt, c_ge, c_eqI, c_neI, c_eqS, c_neS, b_add, b_sub, i_tup, i_lst, i_str, at_0, at_1, at_2, at_3, l_str, l_tup, l_lst, bi_tupL, bi_tupT, wk_str, wk_tup, wk_lst, bT_v, bT_t, refs, List.map_cons, List.map_nil, List.append_nil, List.cons_append, List.nil_append, close_id, c_inS, c_niS, c_in1, c_in2, c_in3, c_in4, bi_ordS, ty_ii, ty_is, ty_it, ty_il, ty_ib, ty_si, ty_ss, ty_st, ty_sl, ty_sb, ty_ti, ty_ts, ty_tt, ty_tl, ty_tb, sl_str, sl_tup, sl_lst, cut_1, cut_0, mt_join, turnG_, kGn1_, kGn2_, kGn3_, kGn4_, kGn5_, r_mul, r_mod, r_fdv, r_pow, r_band, r_cat, r_catT, r_catL, r_rep, r_rng, r_rng2, r_join, r_all, r_any, r_listS, r_listT, r_listL, r_setL, r_setT, r_setS, r_rev, r_app, r_extL, u_bi, biO_l, u_tr, trO_l, u_ty, tyO_l, u_ix, ixO_l, u_ls, lsO_l, u_sq, u_it, u_wk, u_sl, slO_l, u_rv, rvO_l, u_jn, jnO_l, u_ad, adO_l, u_aq, aqO_l, u_mt, mtO_l, u_mt2, mt2O_l, u_ex, exO_l, u_cl, clO_l, get_hd, get_tl, get_bk, put_hd, put_tl, put_bk, close_pl, close_new, sto_pl, wp_exc, wp_ofO, oW_map, Option.map_some, Option.bind_some, List.length_cons, true_and, and_true, kTP1_, kTP_, turnP_, kTE1_, kTE_, turnE_, r_setF, r_setG, r_joinC, r_joinF, r_eq, r_nE, r_eqB, c_inT, c_inLs, r_inT, r_inL, r_nin, u_eq, eqO_l, u_er, eqP_l, u_in, inO_l, at_4, at_5, at_6, at_7, at_8, at_9, at_10, at_11, cut_d, cut_t, cut_dt, List.length_map, wk_enumT, wk_enumL, r_sortS, r_sortI, b_tt, b_tf, b_ff, b_ft, Bool.not_true, Bool.not_false, wk_cst, ctx_sub, ctx_isb, ctx_hm, ctx_fi, xE_, x_try, try_nx, try_rt, try_bk, try_ct, try_ex, tryK_t, tryK_f, hd_keep, hd_retv, hd_cont, bx_nx, bx_rt, bx_ex, ok_eq, exc_eq, close_exc, ty_exc, dix_k, din_k, bD_len, bD_list, bD_dict, bD_items, bD_vals, dm_get1, dm_get2, dm_pop1, dm_pop2, popO_s, popO_n, dm_sd, sdO_s, sdO_n, dm_up, upO_d, x_sset, kSs1_, kSs2_, u_ss, ssO_l, ssO_d, w_fld, u_fd, fdO_i, lookF_c, lookF_n, putF_c, putF_n, x_fset, kFs1_, u_fs, fsO_i, mtO_d, mtO_i, mt2O_d, kMi_, biO_d, ixO_d, inO_d, w_new, kNw1_, kNw2_, w_dic, String.reduceEq, ↓reduceIte, Option.isSome_some, Option.isSome_none, Option.isNone_none, Option.getD_some, Option.getD_none, u_we, weO_l, u_wz, wzO_l, u_wy, wyO_l, wz_tl, wz_lt, wz_ll, sto_exc, r_count3, r_index3, Bool.false_eq_true, clO_d, clO_i, kLs2_, kLs1_, w_lsI, wz_st, wz_ls, wN_some, r_max2, r_min2, wI_some])
local macro_rules | `(tactic| trivial) => `(tactic| exists wp_ok)
local macro_rules | `(tactic| nomatch $es,*) => `(tactic| repeat' (first | exists $es,* | refine kC_y rfl ?_ | refine kC_n rfl ?_ | refine kC_y (decide_eq_true (by with_reducible exact Eq.refl _)) ?_ | refine kC_nn (by with_reducible exact Eq.refl _) ?_ | refine kC_y (by assumption) ?_ | refine kC_n (by assumption) ?_ | refine kC_y (decide_eq_true (by first | assumption | omega)) ?_ | refine kC_n (decide_eq_false (by first | assumption | omega)) ?_ | refine kC_yn (by first | assumption | omega) ?_ | refine kC_nn (by first | assumption | omega) ?_ | refine kC_dec (fun _ => ?_) (fun _ => ?_) | refine kC_ndec (fun _ => ?_) (fun _ => ?_) | refine kC_noty (by assumption) ?_ | refine kC_notn (by assumption) ?_ | refine kC_not (fun _ => ?_) (fun _ => ?_) | refine kC_if (fun _ => ?_) (fun _ => ?_) | (with_reducible apply compW_m; intro _ _) | (with_reducible apply compW_f; intro _ _; rotate_left; intro _ _ _; rotate_right) | (with_reducible exact Eq.refl _)))
local macro_rules | `(tactic| nofun) => `(tactic| nomatch wp_ok)
/-! drawing -/
def cell (ns : List Int) (k : Int) : Int := if k < ns.length then ns.getD k.toNat 0 else if ns = [] then 0 else ns.getD (k % ns.length).toNat 0 * 31 + k
theorem scr_idx {s : D} {ns : List Int} {h : Hp} {k : Int} (x : Scr s ns h) (h0 : 0 ≤ k) (h1 : k < ns.length) : idxV s (.int k) h = some (.int (ns.getD k.toNat 0)) := by
  have e := x.l
  have q : atI (ns.map D.int) k = some (.int (ns.getD k.toNat 0)) := by
    unfold atI
    have : k.toNat < ns.length := by omega
    rw [if_pos h0, List.getElem?_map, List.getElem?_eq_getElem this, List.getD_eq_getElem?_getD, List.getElem?_eq_getElem this]
    rfl
  cases s with
  | lst xs => have := x.sto []; cases this
  | ref a =>
    rw [idx_at e]; exact q
  | cst xs =>
    show ((listOf (.cst xs) h).bind fun xs => atI xs k) = _
    rw [e]; exact q
  | _ => cases e
def pick (ns : List Int) (k m : Int) : Int :=
  let d := (cell ns k + 6151 * (k + 1)) * 40692 % 2147483399
  (d * d + d / 31) % 2147483629 % m
theorem pick_ge {ns : List Int} {k m : Int} (hm : 0 < m) : 0 ≤ pick ns k m := Int.emod_nonneg _ (by omega)
theorem pick_lt {ns : List Int} {k m : Int} (hm : 0 < m) : pick ns k m < m := Int.emod_lt_of_pos _ hm
theorem cell_eq {s : D} {ns : List Int} {h : Hp} {k : Int} {n : Nat} (hs : Scr s ns h) (hk : 0 ≤ k) (hn : 1 ≤ n) : call pr n ("", "_law_cell") [s, .int k] h = .ok (.int (cell ns k)) h := by
  obtain ⟨n, rfl⟩ : ∃ m, n = m + 1 := ⟨n - 1, by omega⟩
  refine wp_is (call_of fn__law_cell rfl ?_)
  show (exs (ctx pr n) _ [some s, some (.int k)] h).wp _
  unfold f__law_cell
  have e1 := hs.len
  have e2 := hs.eq
  nomatch e1, e2, hs.sto
  · rw [scr_idx hs hk (by assumption)]
    nomatch e1
    simp_all [cell]
  · simp_all [cell]
  · have : 0 < ns.length := List.length_pos_iff.mpr (by assumption)
    have m0 := Int.emod_nonneg k (b := ns.length) (by omega)
    have m1 := Int.emod_lt_of_pos k (b := ns.length) (by omega)
    nomatch scr_idx hs m0 m1
    simp [cell, show ¬ k < ns.length by omega, *]
theorem cell_x {s : D} {ns : List Int} {h H : Hp} {k : Int} {n : Nat} (hs : Scr s ns h) (e : Ext h H) (hk : 0 ≤ k) (hn : 1 ≤ n) : call pr n ("", "_law_cell") [s, .int k] H = .ok (.int (cell ns k)) H := cell_eq (hs.ext e) hk hn
theorem pick_eq {s : D} {ns : List Int} {h : Hp} {k m : Int} {n : Nat} (hs : Scr s ns h) (hk : 0 ≤ k) (hm : 0 < m) (hn : 2 ≤ n) : call pr n ("", "_law_pick") [s, .int k, .int m] h = .ok (.int (pick ns k m)) h := by
  obtain ⟨n, rfl⟩ : ∃ m, n = m + 1 := ⟨n - 1, by omega⟩
  refine wp_is (call_of fn__law_pick rfl ?_)
  show (exs (ctx pr n) _ [some s, some (.int k), some (.int m), none] h).wp _
  unfold f__law_pick
  nomatch hs.sto, cell_eq hs hk
  simp [pick]
theorem pick_x {s : D} {ns : List Int} {h H : Hp} {k m : Int} {n : Nat} (hs : Scr s ns h) (e : Ext h H) (hk : 0 ≤ k) (hm : 0 < m) (hn : 2 ≤ n) : call pr n ("", "_law_pick") [s, .int k, .int m] H = .ok (.int (pick ns k m)) H := pick_eq (hs.ext e) hk hm hn
/-- the kinds -/
def abc : List Nat := [97, 98, 99, 100, 101, 102, 103, 104]
def kf (s : List Nat × Int) (c : Nat) : List Nat × Int := (if s.2 % 2 = 1 then s.1 ++ [c] else s.1, s.2 / 2)
def kinds (k : Int) : List Nat := (abc.foldl kf ([], k)).1
local macro_rules | `(tactic| array_get_dec) => `(tactic| first | exact pick_ge (by omega) | exact ⟨pick_ge (by omega), pick_ge (by omega)⟩)
/-- a query -/
def wide (ns : List Int) (k : Int) : Int := if pick ns k 4 = 0 then 4 else if pick ns k 4 = 1 then 8 else if pick ns k 4 = 2 then 32 else 256
theorem wide_eq {ns : List Int} {k : Int} : atI [D.int 4, .int 8, .int 32, .int 256] (pick ns k 4) = some (.int (wide ns k)) := by
  have h0 := pick_ge (ns := ns) (k := k) (m := 4) (by decide)
  have h1 := pick_lt (ns := ns) (k := k) (m := 4) (by decide)
  unfold wide
  generalize pick ns k 4 = v at *
  obtain rfl | rfl | rfl | rfl : v = 0 ∨ v = 1 ∨ v = 2 ∨ v = 3 := by omega
  all_goals rfl
theorem wide_ge {ns : List Int} {k : Int} : 4 ≤ wide ns k ∧ wide ns k ≤ 256 := by
  unfold wide
  split
  · decide
  split
  · decide
  split
  · decide
  decide
def landI (a b : Int) : Int := (a.toNat &&& b.toNat : Nat)
theorem r_land {i j : Int} {h : Hp} (c : 0 ≤ i ∧ 0 ≤ j) : binV .band (.int i) (.int j) h = some (.int (landI i j)) := r_band c
theorem land_ge {i j : Int} : 0 ≤ landI i j := Int.natCast_nonneg _
local macro_rules | `(tactic| array_get_dec) => `(tactic| first | exact ⟨land_ge, land_ge⟩)
structure Qry where
  need : (List Nat)
  ban : (List Nat)
  groups : List (List Nat)
def Qry.d (q : Qry) : D := .tup [.str q.need, .str q.ban, .tup (q.groups.map .str)]
def query (ns : List Int) (k : Int) : Qry :=
  let w := wide ns k
  let need := landI (pick ns (k + 1) w) (pick ns (k + 2) w)
  let ban0 := landI (pick ns (k + 3) w) (pick ns (k + 4) w)
  let ban := if pick ns (k + 5) 4 > 0 then ban0 - landI ban0 need else ban0
  ⟨kinds need, kinds ban, setT ((List.range (pick ns (k + 9) 3).toNat).map fun (i : Nat) => kinds (1 + pick ns (k + 6 + (i : Int)) (w - 1)))⟩
theorem Qry.pl (q : Qry) : Mi.pl q.d = true := by simp [Qry.d, pl_tup, pl_str]
local macro_rules | `(tactic| array_get_dec) => `(tactic| exact Qry.pl _)
/-! worlds -/
structure Slot where
  age : Int
  parts : Option (List (Nat × Int))
structure World where
  slots : List Slot
  shared : List Int
def pairD (p : Nat × Int) : D := .tup [.str [p.1], .int p.2]
def partsD (ps : List (Nat × Int)) : D := .tup (ps.map pairD)
def optP : Option (List (Nat × Int)) → D
  | none => .non
  | some ps => partsD ps
def Slot.d (s : Slot) : D := .tup [.int s.age, optP s.parts]
def World.d (w : World) : D := .tup [.tup (w.slots.map Slot.d), .tup (w.shared.map .int)]
theorem pl_pair (p : Nat × Int) : pl (pairD p) = true := by simp [pairD, pl_tup, pl_str, pl_int]
theorem pl_parts (ps : List (Nat × Int)) : pl (partsD ps) = true := by simp [partsD, pl_tup, pl_pair]
theorem pl_opt (o : Option (List (Nat × Int))) : pl (optP o) = true := by
  cases o with
  | none => exact pl_non
  | some ps => exact pl_parts ps
theorem Slot.pl (s : Slot) : Mi.pl s.d = true := by simp [Slot.d, pl_tup, pl_int, pl_opt]
theorem World.pl (w : World) : Mi.pl w.d = true := by simp [World.d, pl_tup, pl_int, Slot.pl]
local macro_rules | `(tactic| array_get_dec) => `(tactic| first | exact pl_pair _ | exact pl_parts _ | exact pl_opt _ | exact Slot.pl _ | exact World.pl _ | (simp [pl_tup, pl_int, pl_str, pl_pair, pl_parts, pl_opt, Slot.pl]; done))
theorem all_slots {l : List Slot} : (l.map Slot.d).all pl = true := pls_map Slot.pl
theorem all_ints {l : List Int} : (l.map D.int).all pl = true := pls_map fun _ => pl_int
theorem all_pairs {l : List (Nat × Int)} : (l.map pairD).all pl = true := pls_map pl_pair
local macro_rules | `(tactic| array_get_dec) => `(tactic| (simp only [pl_tup, List.all_cons, List.all_nil, all_slots, all_ints, all_pairs, pl_int, pl_str, pl_non, pl_opt, pl_parts, Bool.and_true, Bool.and_self]; done))
def amount (ns : List Int) (k : Int) : Int :=
  let d := pick ns k 90000
  if d % 3 = 0 then d / 9 % 10 else if d % 3 = 1 then (if d / 9 % 5 = 0 then 0 else if d / 9 % 5 = 1 then 1 else if d / 9 % 5 = 2 then 5000 else if d / 9 % 5 = 3 then 9998 else 9999) else d / 9
theorem amount_bd (ns : List Int) (k : Int) : 0 ≤ amount ns k ∧ amount ns k ≤ 9999 := by
  have a := pick_ge (ns := ns) (k := k) (m := 90000) (by decide)
  have b := pick_lt (ns := ns) (k := k) (m := 90000) (by decide)
  unfold amount
  simp only
  split
  · omega
  split
  · repeat' split
    all_goals omega
  · omega
def pstep (ns : List Int) (k : Int) (s : Int × List (Nat × Int)) (c : Nat) : Int × List (Nat × Int) := (s.1 / 2, if s.1 % 2 = 1 then s.2 ++ [(c, amount ns (k + 1 + s.2.length))] else s.2)
def parts (ns : List Int) (k w : Int) : List (Nat × Int) := (abc.foldl (pstep ns k) (pick ns k w, [])).2
theorem amount_eq {s : D} {ns : List Int} {h : Hp} {k : Int} {n : Nat} (hs : Scr s ns h) (hk : 0 ≤ k) (hn : 3 ≤ n) : call pr n ("", "_law_amount") [s, .int k] h = .ok (.int (amount ns k)) h := by
  refine call_is (by omega) fn__law_amount (Eq.refl _) fun n e => ?_
  show (exs (ctx pr n) f__law_amount.body [some s, some (.int k), none] h).wp _
  unfold f__law_amount
  have e4 : atI [D.int 0, .int 1, .int 5000, .int 9998, .int 9999] (pick ns k 90000 / 9 % 5) = some (.int (if pick ns k 90000 / 9 % 5 = 0 then 0 else if pick ns k 90000 / 9 % 5 = 1 then 1 else if pick ns k 90000 / 9 % 5 = 2 then 5000 else if pick ns k 90000 / 9 % 5 = 3 then 9998 else 9999)) := by
    have : pick ns k 90000 / 9 % 5 = 0 ∨ pick ns k 90000 / 9 % 5 = 1 ∨ pick ns k 90000 / 9 % 5 = 2 ∨ pick ns k 90000 / 9 % 5 = 3 ∨ pick ns k 90000 / 9 % 5 = 4 := by omega
    rcases this with q | q | q | q | q <;> rw [q] <;> rfl
  nomatch hs.sto, pick_eq hs, e4
  all_goals simp [amount, *]
theorem amount_x {s : D} {ns : List Int} {h H : Hp} {k : Int} {n : Nat} (hs : Scr s ns h) (e : Ext h H) (hk : 0 ≤ k) (hn : 3 ≤ n) : call pr n ("", "_law_amount") [s, .int k] H = .ok (.int (amount ns k)) H := amount_eq (hs.ext e) hk hn
theorem parts_eq {s : D} {ns : List Int} {h : Hp} {k w : Int} {n : Nat} (hs : Scr s ns h) (hk : 0 ≤ k) (hw : 0 < w) (hn : 4 ≤ n) : call pr n ("", "_law_parts") [s, .int k, .int w] h = .ok (partsD (parts ns k w)) h := by
  refine call_is (by omega) fn__law_parts (Eq.refl _) fun n e => ?_
  show (exs (ctx pr n) f__law_parts.body [some s, some (.int k), some (.int w), none, none, none] h).wp _
  unfold f__law_parts
  nomatch hs.sto, pick_eq hs
  refine forW_fold (enc := fun c => .str [c]) (l := abc) (pstep ns k) (pick ns k w, []) (fun n t ρ h' => (∃ x, ρ = [some s, some (.int k), some (.int w), some (.int t.1), some (.ref h.length), x]) ∧ h' = .lst (t.2.map pairD) :: h ∧ t.2.length ≤ n) ⟨⟨_, Eq.refl _⟩, Eq.refl _, Nat.le_refl _⟩ (fun _ _ _ _ _ => rfl) ?_ ?_
  · rintro n t c ρ h' hn _ ⟨⟨x, rfl⟩, rfl, hl⟩
    have hn : n < 8 := hn
    have hs2 := hs.more (.lst (t.2.map pairD))
    nomatch hs2.sto, amount_eq hs2
    · exact ⟨⟨_, by simp [pstep, *]; rfl⟩, by simp [pstep, *, pairD], by simp [pstep, *]⟩
    · exact ⟨⟨_, by simp [pstep, *]; rfl⟩, by simp [pstep, *], by simp [pstep, *]; omega⟩
  · rintro ρ h' ⟨⟨x, rfl⟩, rfl, hl⟩
    nofun
    exact Eq.refl _
theorem parts_x {s : D} {ns : List Int} {h H : Hp} {k w : Int} {n : Nat} (hs : Scr s ns h) (e : Ext h H) (hk : 0 ≤ k) (hw : 0 < w) (hn : 4 ≤ n) : call pr n ("", "_law_parts") [s, .int k, .int w] H = .ok (partsD (parts ns k w)) H := parts_eq (hs.ext e) hk hw hn
/-! drawn worlds -/
def slotOf (ns : List Int) (k w : Int) (j : Nat) : Slot := ⟨pick ns (k + 6 + 11 * (j : Int)) 20 / 5, if pick ns (k + 6 + 11 * (j : Int)) 20 % 5 = 0 then none else some (parts ns (k + 7 + 11 * (j : Int)) w)⟩
def world (ns : List Int) (k lo hi : Int) : World := ⟨(List.range (lo + pick ns (k + 1) (hi - lo + 1)).toNat).map (slotOf ns k (wide ns k)), (List.range 4).map fun (i : Nat) => amount ns (k + 2 + (i : Int))⟩
theorem world_eq {s : D} {ns : List Int} {h : Hp} {k lo hi : Int} {n : Nat} (hs : Scr s ns h) (hk : 0 ≤ k) (hlo : 0 ≤ lo) (hhi : lo ≤ hi) (hm : hi ≤ 40) (hn : 5 ≤ n) : call pr n ("", "_law_world") [s, .int k, .int lo, .int hi] h = .ok (world ns k lo hi).d h := by
  refine call_is (by omega) fn__law_world (Eq.refl _) fun n e => ?_
  show (exs (ctx pr n) f__law_world.body [some s, some (.int k), some (.int lo), some (.int hi), none, none, none, none, none, none] h).wp _
  unfold f__law_world
  have w0 := wide_ge (ns := ns) (k := k)
  have a0 := pick_ge (ns := ns) (k := k + 1) (m := hi - lo + 1) (by omega)
  have a1 := pick_lt (ns := ns) (k := k + 1) (m := hi - lo + 1) (by omega)
  nomatch hs.sto, pick_eq hs, wide_eq
  have hs2 := hs.more (.lst [])
  nomatch hs2.sto, pick_eq hs2
  refine forW_typ (enc := fun i : Nat => .int (i : Int)) (l := List.range (lo + pick ns (k + 1) (hi - lo + 1)).toNat) (I := fun pre ρ h' => (∃ x y z, ρ = [some s, some (.int k), some (.int lo), some (.int hi), some (.int (wide ns k)), some (.ref h.length), x, y, z, none]) ∧ h' = .lst ((pre.map (slotOf ns k (wide ns k))).map Slot.d) :: h ∧ pre.length ≤ 40) ⟨⟨_, _, _, Eq.refl _⟩, Eq.refl _, by decide⟩ (fun _ _ _ _ => rfl) ?_ ?_
  · rintro pre j rest ρ h' e ⟨⟨x, y, z, rfl⟩, rfl, hl⟩
    have hl2 : pre.length + 1 ≤ 40 := by
      have := congrArg List.length e
      simp at this
      omega
    have hs3 := hs.more (.lst ((pre.map (slotOf ns k (wide ns k))).map Slot.d))
    nomatch hs3.sto, pick_eq hs3, parts_eq hs3
    · exact ⟨⟨_, _, _, Eq.refl _⟩, by simp [slotOf, Slot.d, optP, *], by simpa using hl2⟩
    · exact ⟨⟨_, _, _, Eq.refl _⟩, by simp [slotOf, Slot.d, optP, *], by simpa using hl2⟩
  · rintro ρ h' ⟨⟨x, y, z, rfl⟩, rfl, hl⟩
    have hs3 := hs.more (.lst (((List.range (lo + pick ns (k + 1) (hi - lo + 1)).toNat).map (slotOf ns k (wide ns k))).map Slot.d))
    nomatch hs3.sto, amount_eq hs3
    simp [world, World.d]
theorem world_x {s : D} {ns : List Int} {h H : Hp} {k lo hi : Int} {n : Nat} (hs : Scr s ns h) (e : Ext h H) (hk : 0 ≤ k) (hlo : 0 ≤ lo) (hhi : lo ≤ hi) (hm : hi ≤ 40) (hn : 5 ≤ n) : call pr n ("", "_law_world") [s, .int k, .int lo, .int hi] H = .ok (world ns k lo hi).d H := world_eq (hs.ext e) hk hlo hhi hm hn
def filled (w : World) : World := ⟨w.slots.map fun s => ⟨s.age, some (s.parts.getD [])⟩, w.shared⟩
theorem w_0 {w : World} {h : Hp} : idxV w.d (.int 0) h = some (.tup (w.slots.map Slot.d)) := rfl
theorem w_1 {w : World} {h : Hp} : idxV w.d (.int 1) h = some (.tup (w.shared.map .int)) := rfl
theorem s_0 {s : Slot} {h : Hp} : idxV s.d (.int 0) h = some (.int s.age) := rfl
theorem s_1 {s : Slot} {h : Hp} : idxV s.d (.int 1) h = some (optP s.parts) := rfl
theorem tr_parts {ps : List (Nat × Int)} {h : Hp} : truth (partsD ps) h = some (!ps.isEmpty) := by
  cases ps <;> exact Eq.refl _
theorem filled_eq {h : Hp} {w : World} {n : Nat} (hn : 1 ≤ n) : call pr n ("", "_law_filled") [w.d] h = .ok (filled w).d h := by
  refine call_is (by omega) fn__law_filled (Eq.refl _) fun n e => ?_
  show (exs (ctx pr n) f__law_filled.body [some w.d, none] h).wp _
  unfold f__law_filled
  exists w_0
  refine compW_mapf (g := fun s : Slot => D.tup [.int s.age, partsD (s.parts.getD [])]) (fun s _ => ?_) ?_
  · obtain ⟨a, p⟩ := s
    cases p with
    | none =>
      nomatch s_0, s_1, optP
      exact Eq.refl _
    | some ps =>
      nomatch s_0, s_1, optP, tr_parts
      all_goals first | exact Eq.refl _ | skip
      have : ps = [] := by simpa using ‹ps.isEmpty = true›
      subst this
      exact Eq.refl _
  · nomatch w_1
    simp [filled, World.d, Slot.d, optP]
def someWorld (ns : List Int) (k : Int) : World :=
  if pick ns k 3 > 0 then world ns (k + 1) 0 9 else if pick ns (k + 500) 3 > 0 then filled (world ns (k + 1) 37 40) else world ns (k + 1) 37 40
theorem some_world_eq {s : D} {ns : List Int} {h : Hp} {k : Int} {n : Nat} (hs : Scr s ns h) (hk : 0 ≤ k) (hn : 6 ≤ n) : call pr n ("", "_law_some_world") [s, .int k] h = .ok (someWorld ns k).d h := by
  refine call_is (by omega) fn__law_some_world (Eq.refl _) fun n e => ?_
  show (exs (ctx pr n) f__law_some_world.body [some s, some (.int k), none] h).wp _
  unfold f__law_some_world
  nomatch hs.sto, pick_eq hs, world_eq hs, filled_eq, sto_pl (World.pl _)
  all_goals simp [someWorld, *]
theorem some_world_x {s : D} {ns : List Int} {h H : Hp} {k : Int} {n : Nat} (hs : Scr s ns h) (e : Ext h H) (hk : 0 ≤ k) (hn : 6 ≤ n) : call pr n ("", "_law_some_world") [s, .int k] H = .ok (someWorld ns k).d H := some_world_eq (hs.ext e) hk hn
structure WOk (w : World) : Prop where
  few : w.slots.length ≤ 40
  age : ∀ s ∈ w.slots, 0 ≤ s.age
  prt : ∀ s ∈ w.slots, ∀ ps, s.parts = some ps → List.Sublist (ps.map (·.1)) abc ∧ ∀ p ∈ ps, 0 ≤ p.2 ∧ p.2 ≤ 9999
  shr : w.shared.length = 4
  amt : ∀ a ∈ w.shared, 0 ≤ a ∧ a ≤ 9999
theorem pstep_app (ns : List Int) (k : Int) : ∀ (l : List Nat) (j : Int) (t : List (Nat × Int)), ∃ u : List (Nat × Int), List.Sublist (u.map (·.1)) l ∧ (∀ p ∈ u, 0 ≤ p.2 ∧ p.2 ≤ 9999) ∧ (l.foldl (pstep ns k) (j, t)).2 = t ++ u
  | [], j, t => ⟨[], List.Sublist.refl _, fun _ z => (nomatch z), by simp⟩
  | c :: l, j, t => by
    rw [List.foldl_cons]
    by_cases q : j % 2 = 1
    · obtain ⟨u, s, b, e⟩ := pstep_app ns k l (j / 2) (t ++ [(c, amount ns (k + 1 + t.length))])
      refine ⟨(c, amount ns (k + 1 + t.length)) :: u, s.cons₂ c, fun p hp => ?_, by simp [pstep, q, e]⟩
      rcases List.mem_cons.mp hp with rfl | hp
      · exact amount_bd _ _
      · exact b p hp
    · obtain ⟨u, s, b, e⟩ := pstep_app ns k l (j / 2) t
      exact ⟨u, s.cons c, b, by simp [pstep, q, e]⟩
theorem world_ok {ns : List Int} {k lo hi : Int} (hlo : 0 ≤ lo) (hhi : lo ≤ hi) (hm : hi ≤ 40) : WOk (world ns k lo hi) := by
  have a0 := pick_ge (ns := ns) (k := k + 1) (m := hi - lo + 1) (by omega)
  have a1 := pick_lt (ns := ns) (k := k + 1) (m := hi - lo + 1) (by omega)
  refine ⟨by simp [world]; omega, fun s hs => ?_, fun s hs ps e => ?_, by simp [world], fun a ha => ?_⟩
  · obtain ⟨j, _, rfl⟩ := List.mem_map.mp hs
    have := pick_ge (ns := ns) (k := k + 6 + 11 * (j : Int)) (m := 20) (by decide)
    show 0 ≤ pick ns (k + 6 + 11 * (j : Int)) 20 / 5
    omega
  · obtain ⟨j, _, rfl⟩ := List.mem_map.mp hs
    unfold slotOf at e
    simp only at e
    split at e
    · cases e
    · cases e
      obtain ⟨u, s, b, e⟩ := pstep_app ns (k + 7 + 11 * (j : Int)) abc (pick ns (k + 7 + 11 * (j : Int)) (wide ns k)) []
      unfold parts
      rw [e]
      exact ⟨s, b⟩
  · obtain ⟨j, _, rfl⟩ := List.mem_map.mp ha
    exact amount_bd _ _
theorem filled_ok {w : World} (o : WOk w) : WOk (filled w) := by
  refine ⟨by simpa [filled] using o.few, fun s hs => ?_, fun s hs ps e => ?_, o.shr, o.amt⟩
  · obtain ⟨t, ht, rfl⟩ := List.mem_map.mp hs
    exact o.age t ht
  · obtain ⟨t, ht, rfl⟩ := List.mem_map.mp hs
    cases e
    cases q : t.parts with
    | none => exact ⟨List.nil_sublist _, fun _ z => (nomatch z)⟩
    | some ps => exact o.prt t ht ps q
theorem some_world_ok (ns : List Int) (k : Int) : WOk (someWorld ns k) := by
  unfold someWorld
  split
  · exact world_ok (by decide) (by decide) (by decide)
  split
  · exact filled_ok (world_ok (by decide) (by decide) (by decide))
  · exact world_ok (by decide) (by decide) (by decide)
/-! what lives -/
def hdD (p : Int × Int) : D := .tup [.int p.1, .int p.2]
theorem pl_hd (p : Int × Int) : pl (hdD p) = true := by simp [hdD, pl_tup, pl_int]
local macro_rules | `(tactic| array_get_dec) => `(tactic| exact pl_hd _)
theorem h_0 {p : Int × Int} {h : Hp} : idxV (hdD p) (.int 0) h = some (.int p.1) := rfl
theorem h_1 {p : Int × Int} {h : Hp} : idxV (hdD p) (.int 1) h = some (.int p.2) := rfl
/-- the parts of the thing that lives by a handle -/
def partsOf? (w : World) (p : Int × Int) : Option (List (Nat × Int)) :=
  if 0 ≤ p.1 then (match w.slots[p.1.toNat]? with
    | some s => if s.age = p.2 then s.parts else none
    | none => none) else none
def living (w : World) (p : Int × Int) : Bool := (partsOf? w p).isSome
theorem hd_ast {is : List Nat} {ρ : Env} {P : Po} {p : Int × Int} {h : Hp} : kAst is ρ P (hdD p) h = oW (bind1 is [.int p.1, .int p.2] ρ) (kBnd P h) := kAst_
theorem raise_is {P : Prog} {n : Nat} {f : String × String} {d : Fd} {ds : List D} {h : Hp} {c : String} (hn : 1 ≤ n) (hf : P.fn f = some d) (hl : ds.length = d.np)
    (hb : ∀ m, n = m + 1 → (exs (ctx P m) d.body (ds.map some ++ List.replicate (d.nl - d.np) none) h).wp ⟨fun _ _ => False, fun _ _ => False, fun _ _ => False, fun _ _ => False, fun k _ h1 => k = c ∧ h1 = h⟩) : call P n f ds h = .exc c h := by
  obtain ⟨m, rfl⟩ : ∃ m, n = m + 1 := ⟨n - 1, by omega⟩
  rw [call_eq hf hl]
  have := hb m rfl
  revert this
  cases exs (ctx P m) d.body (ds.map some ++ List.replicate (d.nl - d.np) none) h <;> intro q <;> first | exact q.elim | skip
  obtain ⟨rfl, rfl⟩ := q
  simp [ends, close]
/-- all things -/
def handles (w : World) : List (Int × Int) := (w.slots.zipIdx.filter fun p => p.1.parts.isSome).map fun p => ((p.2 : Int), p.1.age)
def kindsIn (ps : List (Nat × Int)) : List Nat := ps.map (·.1)
theorem parts_len {w : World} (o : WOk w) {p : Int × Int} {ps : List (Nat × Int)} (e : partsOf? w p = some ps) : ps.length ≤ 8 := by
  unfold partsOf? at e
  split at e
  · split at e
    · rename_i s es
      split at e
      · have := (o.prt s (List.mem_of_getElem? es) ps e).1.length_le
        simpa [abc] using this
      · cases e
    · cases e
  · cases e
theorem handles_live {w : World} {p : Int × Int} (h : p ∈ handles w) : ∃ ps, partsOf? w p = some ps := by
  obtain ⟨q, hq, rfl⟩ := List.mem_map.mp h
  rw [List.mem_filter] at hq
  obtain ⟨s, i⟩ := q
  have e := List.mem_zipIdx' hq.1
  obtain ⟨ps, e2⟩ := Option.isSome_iff_exists.mp hq.2
  refine ⟨ps, ?_⟩
  unfold partsOf?
  rw [if_pos (Int.natCast_nonneg _)]
  show (match w.slots[((i : Int)).toNat]? with
    | some s' => if s'.age = s.age then s'.parts else none
    | none => none) = some ps
  rw [Int.toNat_natCast, List.getElem?_eq_getElem e.1, ← e.2]
  simp only [if_true]
  exact e2
def kindsAt (w : World) (p : Int × Int) : List Nat := kindsIn ((partsOf? w p).getD [])
/-! orders -/
inductive Order where
  | born (ps : List (Nat × Int)) | gone (p : Int × Int) | give (p : Int × Int) (c : Nat) (a : Int) | take (p : Int × Int) (c : Nat) | share (l : Nat) (a : Int)
def Order.d : Order → D
  | .born ps => .tup [.str [98, 111, 114, 110], partsD ps]
  | .gone p => .tup [.str [103, 111, 110, 101], hdD p]
  | .give p c a => .tup [.str [103, 105, 118, 101], hdD p, .str [c], .int a]
  | .take p c => .tup [.str [116, 97, 107, 101], hdD p, .str [c]]
  | .share l a => .tup [.str [115, 104, 97, 114, 101], .str [l], .int a]
theorem Order.pl (o : Order) : Mi.pl o.d = true := by cases o <;> simp [Order.d, pl_tup, pl_str, pl_int, pl_parts, pl_hd]
local macro_rules | `(tactic| array_get_dec) => `(tactic| exact Order.pl _)
/-- one item changed, or put last -/
def setS {α : Type} (l : List α) (i : Nat) (x : α) : List α := l.take i ++ [x] ++ l.drop (i + 1)
theorem setS_lt {α : Type} {l : List α} {i : Nat} {x : α} (h : i < l.length) : setS l i x = l.set i x := by
  unfold setS
  rw [List.set_eq_take_append_cons_drop, if_pos h]; simp
theorem setS_len {α : Type} {l : List α} {x : α} : setS l l.length x = l ++ [x] := by simp [setS]
theorem setS_map {α β : Type} {f : α → β} {l : List α} {i : Nat} {x : α} : (setS l i x).map f = setS (l.map f) i (f x) := by simp [setS]
def putS (w : World) (i : Nat) (s : Slot) : World := ⟨setS w.slots i s, w.shared⟩
def emptyI (w : World) : Option Nat := (w.slots.zipIdx.find? fun p => p.1.parts.isNone).map (·.2)
def ageAt (w : World) (i : Nat) : Int := (w.slots[i]?.map Slot.age).getD 0
def lePr (a b : Nat × Int) : Bool := decide (a.1 < b.1) || (decide (a.1 = b.1) && decide (a.2 ≤ b.2))
def insP (ps : List (Nat × Int)) (c : Nat) (a : Int) : List (Nat × Int) := ((ps.filter fun p => !decide (p.1 = c)) ++ [(c, a)]).mergeSort lePr
def outP (ps : List (Nat × Int)) (c : Nat) : List (Nat × Int) := ps.filter fun p => !decide (p.1 = c)
inductive Res where
  | ok (w : World) (hd : Option (Int × Int)) | full | thing | part
def bornO (w : World) (ps : List (Nat × Int)) : Res := match emptyI w with
  | some i => .ok (putS w i ⟨ageAt w i, some ps⟩) (some ((i : Int), ageAt w i))
  | none => if w.slots.length = 40 then .full else .ok (putS w w.slots.length ⟨0, some ps⟩) (some ((w.slots.length : Int), 0))
def goneO (w : World) (p : Int × Int) : Res := match partsOf? w p with
  | some _ => .ok (putS w p.1.toNat ⟨p.2 + 1, none⟩) none
  | none => .thing
def giveO (w : World) (p : Int × Int) (c : Nat) (a : Int) : Res := match partsOf? w p with
  | some ps => .ok (putS w p.1.toNat ⟨p.2, some (insP ps c a)⟩) none
  | none => .thing
def takeO (w : World) (p : Int × Int) (c : Nat) : Res := match partsOf? w p with
  | some ps => if (ps.any fun q => decide (q.1 = c)) = true then .ok (putS w p.1.toNat ⟨p.2, some (outP ps c)⟩) none else .part
  | none => .thing
def shareO (w : World) (l : Nat) (a : Int) : World := ⟨w.slots, setS w.shared (l - 65) a⟩
/-- the world behind an order -/
def doO (w : World) : Order → Res
  | .born ps => bornO w ps
  | .gone p => goneO w p
  | .give p c a => giveO w p c a
  | .take p c => takeO w p c
  | .share l a => .ok (shareO w l a) none
def optH : Option (Int × Int) → D
  | none => .non
  | some p => hdD p
theorem pl_optH (o : Option (Int × Int)) : pl (optH o) = true := by
  cases o with
  | none => exact pl_non
  | some p => exact pl_hd p
local macro_rules | `(tactic| array_get_dec) => `(tactic| first | exact pl_optH _ | (simp [pl_tup, pl_int, pl_str, pl_optH, World.pl, pl_hd]; done))
/-- .. told with what was born; .. the world alone -/
def Res.out (h : Hp) : Res → Out D
  | .ok w hd => .ok (.tup [w.d, optH hd]) h
  | .full => .exc "Full" h
  | .thing => .exc "NoThing" h
  | .part => .exc "NoPart" h
def Res.out1 (h : Hp) : Res → Out D
  | .ok w _ => .ok w.d h
  | .full => .exc "Full" h
  | .thing => .exc "NoThing" h
  | .part => .exc "NoPart" h
theorem leD_pair {a b : Nat × Int} : leD (pairD a) (pairD b) = lePr a b := by
  obtain ⟨a, x⟩ := a
  obtain ⟨b, y⟩ := b
  unfold leD lePr pairD
  by_cases h : b = a
  · subst h
    rw [lt_tup_eq al_str (by rw [ev_str]; simp)]
    by_cases h2 : y = x
    · subst h2
      rw [lt_tup_eq al_int (by rw [ev_int]; simp), lt_nil]; simp
    · rw [lt_tup_ne al_int (by rw [ev_int]; simpa using h2), lt_int, Bool.eq_iff_iff]
      simp
  · rw [lt_tup_ne al_str (by rw [ev_str]; simpa using h), lt_str, Bool.eq_iff_iff]
    simp [sg_lt]
    omega
theorem lePr_tr (a b c : Nat × Int) (h1 : lePr a b = true) (h2 : lePr b c = true) : lePr a c = true := by
  simp [lePr] at *
  omega
theorem lePr_to (a b : Nat × Int) : (lePr a b || lePr b a) = true := by
  simp [lePr]
  omega
theorem lePr_an (a b : Nat × Int) (h1 : lePr a b = true) (h2 : lePr b a = true) : a = b := by
  simp [lePr] at *
  ext
  · omega
  · omega
theorem sortable_pairs (l : List (Nat × Int)) : sortable (l.map pairD) = true := by
  unfold sortable
  rw [Bool.and_eq_true]
  refine ⟨?_, ?_⟩
  · rw [List.all_map, List.all_eq_true]
    intro p _
    simp only [Function.comp_apply, Bool.and_eq_true, decide_eq_true_eq, List.all_map, List.all_eq_true]
    refine ⟨?_, fun q _ => ?_⟩
    · simp [pairD, toPy, toPys, PySem.PyData.depth, PySem.PyData.depthAll]
    · simp [pairD, alikeD, alikeDs]
  · rw [Bool.or_eq_true]
    refine .inl ?_
    rw [List.all_map, List.all_eq_true]
    intro p _
    rfl
theorem srt_pairs (l : List (Nat × Int)) : srt (l.map pairD) = (l.mergeSort lePr).map pairD := (List.map_mergeSort (f := pairD) (r := lePr) (s := leD) fun a _ b _ => leD_pair.symm).symm
theorem r_sortP {l : List (Nat × Int)} {h : Hp} : biV .sorted [.lst (l.map pairD)] h = .ok (.lst ((l.mergeSort lePr).map pairD)) h := by
  show ofO ((some (l.map pairD)).bind fun xs => if sortable xs = true then some (D.lst (srt xs)) else none) h = _
  rw [Option.bind_some, if_pos (sortable_pairs l), srt_pairs]
  rfl
theorem r_sortQ {l : List (Nat × Int)} {c : Nat} {a : Int} {h : Hp} : biV .sorted [.lst (l.map pairD ++ [.tup [.str [c], .int a]])] h = .ok (.lst (((l ++ [(c, a)]).mergeSort lePr).map pairD)) h := by
  rw [← r_sortP, List.map_append]
  rfl
theorem p_0 {p : Nat × Int} {h : Hp} : idxV (pairD p) (.int 0) h = some (.str [p.1]) := rfl
theorem p_1 {p : Nat × Int} {h : Hp} : idxV (pairD p) (.int 1) h = some (.int p.2) := rfl
theorem sg_eq {a b : Nat} : ([a] = [b]) = (a = b) := by simp
theorem empty_some {w : World} {i : Nat} (e : emptyI w = some i) : ∃ h : i < w.slots.length, w.slots[i].parts = none := by
  unfold emptyI at e
  obtain ⟨p, e1, e2⟩ := Option.map_eq_some_iff.mp e
  obtain ⟨s, j⟩ := p
  have m := List.mem_zipIdx' (List.mem_of_find?_eq_some e1)
  have q := List.find?_some e1
  simp only at e2
  subst e2
  refine ⟨m.1, ?_⟩
  rw [← m.2]
  simpa using q
theorem outP_len {ps : List (Nat × Int)} {c : Nat} : (outP ps c).length ≤ ps.length := List.length_filter_le _ _
theorem p_ge {w : World} {p : Int × Int} {ps : List (Nat × Int)} (q : partsOf? w p = some ps) : 0 ≤ p.1 := by
  unfold partsOf? at q
  split at q
  · assumption
  · cases q
theorem any_find {α : Type} {p : α → Bool} (l : List α) : l.any p = (l.find? p).isSome := by
  induction l with
  | nil => rfl
  | cons x l ih => rw [List.any_cons, List.find?_cons]; cases p x <;> simp [ih]
theorem at_ABCD {l : Nat} (h : 65 ≤ l ∧ l ≤ 68) {H : Hp} : strM "index" [65, 66, 67, 68] [.str [l]] H = .ok (.int ((l : Int) - 65)) H := by
  obtain rfl | rfl | rfl | rfl : l = 65 ∨ l = 66 ∨ l = 67 ∨ l = 68 := by omega
  all_goals rfl
structure OOk (o : Order) : Prop where
  born : ∀ ps, o = .born ps → List.Sublist (ps.map (·.1)) abc ∧ ∀ p ∈ ps, 0 ≤ p.2 ∧ p.2 ≤ 9999
  give : ∀ p c a, o = .give p c a → c ∈ abc ∧ 0 ≤ a ∧ a ≤ 9999
  share : ∀ l a, o = .share l a → (65 ≤ l ∧ l ≤ 68) ∧ 0 ≤ a ∧ a ≤ 9999
theorem at_getD {α : Type} {l : List α} {i : Int} (d : α) (h0 : 0 ≤ i) (h1 : i < l.length) : atI l i = some (l.getD i.toNat d) := by
  have : i.toNat < l.length := by omega
  unfold atI
  rw [if_pos h0, List.getD_eq_getElem?_getD, List.getElem?_eq_getElem this]
  rfl
theorem slot_at {w : World} {i : Int} (h0 : 0 ≤ i) (h1 : i < w.slots.length) : ∃ s, w.slots[i.toNat]? = some s ∧ atI w.slots i = some s ∧ ageAt w i.toNat = s.age := by
  obtain ⟨s, e1, _, e3⟩ := at_some h0 h1
  exact ⟨s, e1, e3, by simp [ageAt, e1]⟩
/-- the drawn handle -/
def offs (d : Int) : Int := [0, 0, 0, 0, 0, 0, 1, -1].getD d.toNat 0
def handle (ns : List Int) (k : Int) (w : World) : Int × Int :=
  let i := pick ns k (w.slots.length + 2) - 1
  if 0 ≤ i ∧ i < w.slots.length then (i, ageAt w i.toNat + offs (pick ns (k + 1) 8)) else (i, 0)
theorem at_offs {ns : List Int} {k : Int} : atI [D.int 0, .int 0, .int 0, .int 0, .int 0, .int 0, .int 1, .int (-1)] (pick ns k 8) = some (.int (offs (pick ns k 8))) := by
  have a := pick_ge (ns := ns) (k := k) (m := 8) (by decide)
  have b := pick_lt (ns := ns) (k := k) (m := 8) (by decide)
  have := at_map (g := D.int) (l := [0, 0, 0, 0, 0, 0, 1, -1]) (i := pick ns k 8)
  refine this.trans ?_
  rw [at_getD 0 a (by simpa using b)]
  rfl
theorem handle_eq {s : D} {ns : List Int} {h : Hp} {k : Int} {w : World} {n : Nat} (hs : Scr s ns h) (hk : 0 ≤ k) (hn : 3 ≤ n) : call pr n ("", "_law_handle") [s, .int k, w.d] h = .ok (hdD (handle ns k w)) h := by
  refine go__law_handle (by omega) fun n e => ?_
  have a := pick_ge (ns := ns) (k := k) (m := (w.slots.length : Int) + 2) (by omega)
  have b := pick_lt (ns := ns) (k := k) (m := (w.slots.length : Int) + 2) (by omega)
  by_cases c : 0 ≤ pick ns k (w.slots.length + 2) - 1 ∧ pick ns k (w.slots.length + 2) - 1 < w.slots.length
  · obtain ⟨s, e1, e2, e3⟩ := slot_at c.1 c.2
    nomatch hs.sto, pick_eq hs, w_0, at_map, e2, s_0, at_offs
    rw [show handle ns k w = _ from if_pos c, e3]
    exact Eq.refl _
  · nomatch hs.sto, pick_eq hs, w_0
    all_goals rw [show handle ns k w = _ from if_neg c]
    all_goals exact Eq.refl _
theorem handle_x {s : D} {ns : List Int} {h H : Hp} {k : Int} {w : World} {n : Nat} (hs : Scr s ns h) (e : Ext h H) (hk : 0 ≤ k) (hn : 3 ≤ n) : call pr n ("", "_law_handle") [s, .int k, w.d] H = .ok (hdD (handle ns k w)) H := handle_eq (hs.ext e) hk hn
/-- the drawn order -/
def kindAt (d : Int) : Nat := [97, 98, 99, 100, 101, 102, 103, 104, 97, 98, 97, 98].getD d.toNat 97
def letAt (d : Int) : Nat := [65, 66, 67, 68].getD d.toNat 65
theorem at_kind {ns : List Int} {k : Int} : atI [97, 98, 99, 100, 101, 102, 103, 104, 97, 98, 97, 98] (pick ns k 12) = some (kindAt (pick ns k 12)) := at_getD 97 (pick_ge (by decide)) (pick_lt (by decide))
theorem at_let {ns : List Int} {k : Int} : atI [65, 66, 67, 68] (pick ns k 4) = some (letAt (pick ns k 4)) := at_getD 65 (pick_ge (by decide)) (pick_lt (by decide))
def order (ns : List Int) (k : Int) (w : World) : Order :=
  if pick ns k 8 < 2 then .born (parts ns (k + 4) 32)
  else if pick ns k 8 = 2 then .gone (handle ns (k + 1) w)
  else if pick ns k 8 < 5 then .give (handle ns (k + 1) w) (kindAt (pick ns (k + 3) 12)) (amount ns (k + 4))
  else if pick ns k 8 < 7 then .take (handle ns (k + 1) w) (kindAt (pick ns (k + 3) 12))
  else .share (letAt (pick ns (k + 3) 4)) (amount ns (k + 4))
theorem kindAt_mem (d : Int) : kindAt d ∈ abc := by
  unfold kindAt
  by_cases h : d.toNat < 12
  · have : d.toNat = 0 ∨ d.toNat = 1 ∨ d.toNat = 2 ∨ d.toNat = 3 ∨ d.toNat = 4 ∨ d.toNat = 5 ∨ d.toNat = 6 ∨ d.toNat = 7 ∨ d.toNat = 8 ∨ d.toNat = 9 ∨ d.toNat = 10 ∨ d.toNat = 11 := by omega
    rcases this with q | q | q | q | q | q | q | q | q | q | q | q <;> rw [q] <;> decide
  · rw [List.getD_eq_getElem?_getD, List.getElem?_eq_none (by simp; omega)]; decide
theorem letAt_mem (d : Int) : 65 ≤ letAt d ∧ letAt d ≤ 68 := by
  unfold letAt
  by_cases h : d.toNat < 4
  · have : d.toNat = 0 ∨ d.toNat = 1 ∨ d.toNat = 2 ∨ d.toNat = 3 := by omega
    rcases this with q | q | q | q <;> rw [q] <;> decide
  · rw [List.getD_eq_getElem?_getD, List.getElem?_eq_none (by simp; omega)]; decide
theorem parts_ok (ns : List Int) (k w : Int) : List.Sublist ((parts ns k w).map (·.1)) abc ∧ ∀ p ∈ parts ns k w, 0 ≤ p.2 ∧ p.2 ≤ 9999 := by
  obtain ⟨u, s, b, e⟩ := pstep_app ns k abc (pick ns k w) []
  unfold parts
  rw [e]
  exact ⟨s, b⟩
theorem order_ok (ns : List Int) (k : Int) (w : World) : OOk (order ns k w) := by
  unfold order
  refine ⟨fun ps e => ?_, fun p c a e => ?_, fun l a e => ?_⟩
  all_goals repeat' split at e
  all_goals cases e
  · exact parts_ok _ _ _
  · exact ⟨kindAt_mem _, amount_bd _ _⟩
  · exact ⟨letAt_mem _, amount_bd _ _⟩
theorem order_eq {s : D} {ns : List Int} {h : Hp} {k : Int} {w : World} {n : Nat} (hs : Scr s ns h) (hk : 0 ≤ k) (hn : 5 ≤ n) : call pr n ("", "_law_order") [s, .int k, w.d] h = .ok (order ns k w).d h := by
  refine go__law_order (by omega) fun n e => ?_
  nomatch hs.sto, pick_eq hs, handle_eq hs, parts_eq hs, amount_eq hs, at_kind, at_let
  all_goals simp [order, Order.d, *]
theorem order_x {s : D} {ns : List Int} {h H : Hp} {k : Int} {w : World} {n : Nat} (hs : Scr s ns h) (e : Ext h H) (hk : 0 ≤ k) (hn : 5 ≤ n) : call pr n ("", "_law_order") [s, .int k, w.d] H = .ok (order ns k w).d H := order_eq (hs.ext e) hk hn
/-- what the law tells of an order -/
def Res.due : Res → D
  | .ok w hd => .tup [w.d, optH hd]
  | .full => .str [102, 117, 108, 108]
  | .thing => .str [110, 111, 32, 116, 104, 105, 110, 103]
  | .part => .str [110, 111, 32, 112, 97, 114, 116]
theorem pl_due (r : Res) : pl r.due = true := by cases r <;> simp [Res.due, pl_tup, World.pl, pl_optH, pl_str]
local macro_rules | `(tactic| array_get_dec) => `(tactic| exact pl_due _)
theorem set_ds {l : List Slot} {i : Nat} {a : Int} {ps : List (Nat × Int)} : (l.map Slot.d).set i (.tup [.int a, partsD ps]) = (l.set i (Slot.mk a (some ps))).map Slot.d := by simp [Slot.d, optP]
theorem set_dp {l : List Slot} {i : Nat} {a : Int} {ps : List (Nat × Int)} : (l.map Slot.d).set i (.tup [.int a, .tup (ps.map pairD)]) = (l.set i (Slot.mk a (some ps))).map Slot.d := set_ds
theorem set_dn {l : List Slot} {i : Nat} {a : Int} : (l.map Slot.d).set i (.tup [.int a, .non]) = (l.set i (Slot.mk a none)).map Slot.d := by simp [Slot.d, optP]
theorem app_dn {l : List Slot} {a : Int} : l.map Slot.d ++ [.tup [.int a, .non]] = (l ++ [Slot.mk a none]).map Slot.d := by simp [Slot.d, optP]
theorem putS_lt {w : World} {i : Nat} {s : Slot} (h : i < w.slots.length) : putS w i s = ⟨w.slots.set i s, w.shared⟩ := by rw [putS, setS_lt h]
theorem putS_len {w : World} {s : Slot} : putS w w.slots.length s = ⟨w.slots ++ [s], w.shared⟩ := by rw [putS, setS_len]
theorem born_law {h : Hp} {w : World} {ps : List (Nat × Int)} {n : Nat} (hw : w.slots.length ≤ 40) (hn : 1 ≤ n) : call pr n ("", "_law_born") [w.d, partsD ps] h = .ok (bornO w ps).due h := by
  refine go__law_born (by omega) fun n e => ?_
  unfold bornO emptyI
  have hff := List.head?_filter (p := fun p : Slot × Nat => p.1.parts.isNone) (l := w.slots.zipIdx)
  exists w_0
  refine compW_f (f := fun p : Slot × Nat => .tup [.int p.2, p.1.d]) (p := fun p => p.1.parts.isNone) (g := fun p => .int p.2) (fun p _ => ?_) (fun p _ _ => ?_) ?_
  · nomatch s_1
    cases q : p.1.parts <;> simp [optP, partsD]
  · nofun
  cases q : w.slots.zipIdx.filter fun p : Slot × Nat => p.1.parts.isNone with
  | nil =>
    rw [q] at hff
    rw [← hff]
    by_cases l : w.slots.length = 40
    · nomatch l
      simp [l, Res.due]
    · have l2 : ¬ (w.slots.length : Int) = 40 := by omega
      have e3 : (((w.slots ++ [Slot.mk 0 none]).length : Nat) : Int) - 1 = (w.slots.length : Int) := by simp
      have e1 : atI (w.slots ++ [Slot.mk 0 none]) (w.slots.length : Int) = some (Slot.mk 0 none) := by rw [at_nat]; simp
      nomatch l2, app_dn, at_map, e3, e1, s_0, w_1, set_ds, Int.toNat_natCast
      simp [Res.due, l, optH, hdD, putS_len, World.d]
  | cons x xs =>
    rw [q] at hff
    rw [← hff]
    have m : x ∈ w.slots.zipIdx := (List.mem_filter.mp (by rw [q]; exact List.mem_cons_self)).1
    obtain ⟨s, i⟩ := x
    obtain ⟨hi, es⟩ := List.mem_zipIdx' m
    have hi : i < w.slots.length := hi
    have es : s = w.slots[i] := es
    have e1 : atI w.slots (i : Int) = some s := by rw [at_nat, List.getElem?_eq_getElem hi, ← es]
    have e2 : ageAt w i = s.age := by simp [ageAt, hi, ← es]
    nomatch at_map, e1, s_0, set_ds, w_1, Int.toNat_natCast
    simp [Res.due, optH, hdD, putS_lt hi, World.d, e2]
/-! parts as a dict -/
def kvP (ps : List (Nat × Int)) : List (D × D) := ps.map fun p => (.str [p.1], .int p.2)
def setP (ps : List (Nat × Int)) (c : Nat) (a : Int) : List (Nat × Int) := if (ps.any fun q => decide (q.1 = c)) = true then ps.map (fun p => if p.1 = c then (c, a) else p) else ps ++ [(c, a)]
theorem dict_parts {ps : List (Nat × Int)} {h : Hp} (hn : (ps.map (·.1)).Nodup) : biV .dict [partsD ps] h = .ok (.ref h.length) (.dic false (kvP ps) :: h) := by
  refine dict_tup (kf := fun p : Nat × Int => .str [p.1]) (vf := fun p => .int p.2) (fun _ _ => rfl) ?_
  unfold List.Nodup at hn
  rw [List.pairwise_map] at hn
  exact hn.imp fun {a b} q => by rw [eqD_s]; simpa using q
theorem eqD_1 {a b : Nat} : eqD (.str [a]) (.str [b]) = decide (a = b) := by rw [eqD_s]; simp
theorem look_kvP {ps : List (Nat × Int)} {c : Nat} : lookD (.str [c]) (kvP ps) = (ps.find? fun q => decide (q.1 = c)).map fun q => .int q.2 := by
  unfold kvP
  rw [lookD_map]
  simp only [eqD_1]
theorem drop_kvP {ps : List (Nat × Int)} {c : Nat} : dropD (.str [c]) (kvP ps) = kvP (outP ps c) := by
  unfold kvP
  rw [dropD_map]
  simp only [eqD_1]
  rfl
theorem store_kvP {ps : List (Nat × Int)} {c : Nat} {a : Int} : storeD (.str [c]) (.int a) (kvP ps) = kvP (setP ps c a) := by
  have := storeD_map (kf := fun p : Nat × Int => D.str [p.1]) (vf := fun p => .int p.2) (l := ps) (x := (c, a)) (fun y _ q => by
    rw [eqD_1] at q
    rw [of_decide_eq_true q])
  simp only [eqD_1, decide_eq_true_eq] at this
  exact this
theorem it_kvP {ps : List (Nat × Int)} : itD (kvP ps) = ps.map pairD := by
  unfold itD kvP
  rw [List.map_map]
  rfl
theorem sort_kvP {ps : List (Nat × Int)} {h : Hp} : biD .sortedItems false (kvP ps) h = .ok (.lst ((ps.mergeSort lePr).map pairD)) h := by
  rw [bD_items (by rw [it_kvP]; exact sortable_pairs _), it_kvP, srt_pairs]
theorem kvP_len {ps : List (Nat × Int)} : (kvP ps).length = ps.length := List.length_map ..
theorem abc_lt : abc.Pairwise fun a b => a < b := by decide
theorem keys_lt {ps : List (Nat × Int)} (h : List.Sublist (ps.map (·.1)) abc) : ps.Pairwise fun p q => p.1 < q.1 := by
  have := abc_lt.sublist h
  rwa [List.pairwise_map] at this
theorem keys_nd {ps : List (Nat × Int)} (h : List.Sublist (ps.map (·.1)) abc) : (ps.map (·.1)).Nodup := (abc_lt.sublist h).imp fun q => Nat.ne_of_lt q
theorem set_perm {c : Nat} {a : Int} : ∀ {ps : List (Nat × Int)}, (ps.map (·.1)).Nodup → (ps.any fun q => decide (q.1 = c)) = true → (ps.map fun p => if p.1 = c then (c, a) else p).Perm ((ps.filter fun p => !decide (p.1 = c)) ++ [(c, a)])
  | [], _, h => nomatch h
  | p :: ps, hn, h => by
    rw [List.map_cons, List.nodup_cons] at hn
    by_cases q : p.1 = c
    · have r : ∀ x ∈ ps, ¬ x.1 = c := fun x hx z => hn.1 (by rw [q, ← z]; exact List.mem_map_of_mem hx)
      have e1 : ps.map (fun p => if p.1 = c then (c, a) else p) = ps := by
        conv => rhs; rw [← List.map_id ps]
        exact List.map_congr_left fun x hx => by rw [if_neg (r x hx)]; exact Eq.refl _
      have e2 : ps.filter (fun p => !decide (p.1 = c)) = ps := List.filter_eq_self.mpr fun x hx => by simp [r x hx]
      rw [List.map_cons, if_pos q, e1, List.filter_cons_of_neg (by simp [q]), e2]
      exact (List.perm_append_singleton _ _).symm
    · rw [List.map_cons, if_neg q, List.filter_cons_of_pos (by simp [q]), List.cons_append]
      exact (set_perm hn.2 (by simpa [List.any_cons, q] using h)).cons _
theorem out_self {ps : List (Nat × Int)} {c : Nat} (h : ¬ (ps.any fun q => decide (q.1 = c)) = true) : (ps.filter fun p => !decide (p.1 = c)) = ps := List.filter_eq_self.mpr fun x hx => by
  simp only [List.any_eq_true, not_exists, not_and] at h
  have := h x hx
  simpa using this
theorem set_ins {ps : List (Nat × Int)} {c : Nat} {a : Int} (hn : (ps.map (·.1)).Nodup) : (setP ps c a).mergeSort lePr = insP ps c a := by
  refine perm_sort lePr_tr lePr_to lePr_an ?_
  unfold setP
  split
  · rename_i h
    exact set_perm hn h
  · rename_i h
    rw [out_self h]
theorem out_sorted {ps : List (Nat × Int)} {c : Nat} (h : List.Sublist (ps.map (·.1)) abc) : (outP ps c).mergeSort lePr = outP ps c := by
  refine List.mergeSort_of_pairwise ?_
  exact ((keys_lt h).sublist List.filter_sublist).imp fun q => by simp [lePr, q]
theorem parts_some {w : World} {p : Int × Int} {ps : List (Nat × Int)} (q : partsOf? w p = some ps) : 0 ≤ p.1 ∧ p.1 < w.slots.length ∧ p.1.toNat < w.slots.length ∧ w.slots[p.1.toNat]? = some ⟨p.2, some ps⟩ ∧ atI w.slots p.1 = some ⟨p.2, some ps⟩ := by
  unfold partsOf? at q
  split at q
  · rename_i h0
    split at q
    · rename_i s es
      split at q
      · rename_i h2
        have h1 := (List.getElem?_eq_some_iff.mp es).1
        have : s = ⟨p.2, some ps⟩ := by
          obtain ⟨a, o⟩ := s
          simp only at q h2
          rw [q, h2]
        subst this
        exact ⟨h0, by omega, h1, es, by unfold atI; rw [if_pos h0, es]⟩
      · cases q
    · cases q
  · cases q
theorem parts_none {w : World} {p : Int × Int} (q : partsOf? w p = none) (h0 : 0 ≤ p.1) (h1 : p.1 < w.slots.length) : ∃ s, atI w.slots p.1 = some s ∧ (s.age = p.2 → s.parts = none) := by
  obtain ⟨s, e1, e2, e3⟩ := at_some h0 h1
  refine ⟨s, e3, fun h => ?_⟩
  unfold partsOf? at q
  rw [if_pos h0, e1] at q
  simpa [h] using q
theorem parts_sub {w : World} {p : Int × Int} {ps : List (Nat × Int)} (o : WOk w) (q : partsOf? w p = some ps) : List.Sublist (ps.map (·.1)) abc ∧ ∀ p ∈ ps, 0 ≤ p.2 ∧ p.2 ≤ 9999 :=
  o.prt _ (List.mem_of_getElem? (parts_some q).2.2.2.1) ps rfl
theorem due_eq {h : Hp} {w : World} {o : Order} {n : Nat} (k : WOk w) (ko : OOk o) (hn : 2 ≤ n) : call pr n ("", "_law_due") [w.d, o.d] h = .ok (doO w o).due h := by
  refine go__law_due (by omega) fun n e => ?_
  have hw := k.few
  have no : ∀ {p : Int × Int}, partsOf? w p = none → ¬ (0 ≤ p.1 ∧ p.1 < w.slots.length) ∨ ∃ s, (0 ≤ p.1 ∧ p.1 < w.slots.length) ∧ atI w.slots p.1 = some s ∧ (s.age = p.2 → s.parts = none) := fun {p} q => by
    by_cases c : 0 ≤ p.1 ∧ p.1 < w.slots.length
    · obtain ⟨s, e1, e2⟩ := parts_none q c.1 c.2
      exact .inr ⟨s, c, e1, e2⟩
    · exact .inl c
  cases o with
  | born ps =>
    nomatch Order.d, born_law
    exact Eq.refl _
  | share l a =>
    have hl := (ko.share l a rfl).1
    have e1 : ((l : Int) - 65).toNat = l - 65 := by omega
    have e2 : ((l : Int) - 65 + 1).toNat = l - 65 + 1 := by omega
    have hs := k.shr
    nomatch Order.d, at_ABCD hl, w_0, w_1, e1, e2
    simp [doO, Res.due, optH, shareO, World.d, setS, List.map_take, List.map_drop]
  | gone p =>
    show (exs (ctx pr n) b__law_due [some w.d, some (Order.gone p).d, none, none, none, none, none] h).wp (bdX h (.ok (goneO w p).due h))
    unfold goneO
    cases q : partsOf? w p with
    | none =>
      rcases no q with c0 | ⟨s, c0, e1, e2⟩
      · by_cases c1 : 0 ≤ p.1
        · nomatch Order.d, hd_ast, w_0
          exact Eq.refl _
        · nomatch Order.d, hd_ast, w_0
          exact Eq.refl _
      · by_cases a0 : s.age = p.2
        · have := e2 a0
          nomatch Order.d, hd_ast, w_0, at_map, e1, s_0, s_1, this, optP
          exact Eq.refl _
        · nomatch Order.d, hd_ast, w_0, at_map, e1, s_0, s_1
          exact Eq.refl _
    | some ps =>
      obtain ⟨h0, h1, h2, h3, h4⟩ := parts_some q
      have sb := (parts_sub k q).1
      have nd := keys_nd sb
      have l8 := parts_len k q
      have l9 : (kvP ps).length < 16777216 := by rw [kvP_len]; omega
      nomatch Order.d, hd_ast, w_0, w_1, at_map, h4, s_0, s_1, optP, set_dn
      rw [putS_lt h2]
      exact Eq.refl _
  | give p c a =>
    show (exs (ctx pr n) b__law_due [some w.d, some (Order.give p c a).d, none, none, none, none, none] h).wp (bdX h (.ok (giveO w p c a).due h))
    unfold giveO
    cases q : partsOf? w p with
    | none =>
      rcases no q with c0 | ⟨s, c0, e1, e2⟩
      · by_cases c1 : 0 ≤ p.1
        · nomatch Order.d, hd_ast, w_0
          exact Eq.refl _
        · nomatch Order.d, hd_ast, w_0
          exact Eq.refl _
      · by_cases a0 : s.age = p.2
        · have := e2 a0
          nomatch Order.d, hd_ast, w_0, at_map, e1, s_0, s_1, this, optP
          exact Eq.refl _
        · nomatch Order.d, hd_ast, w_0, at_map, e1, s_0, s_1
          exact Eq.refl _
    | some ps =>
      obtain ⟨h0, h1, h2, h3, h4⟩ := parts_some q
      have sb := (parts_sub k q).1
      have nd := keys_nd sb
      have l8 := parts_len k q
      have l9 : (kvP ps).length < 16777216 := by rw [kvP_len]; omega
      have e4 := set_ins (c := c) (a := a) nd
      nomatch Order.d, hd_ast, w_0, w_1, at_map, h4, s_0, s_1, optP, set_dn, dict_parts, kvP_len, store_kvP, sort_kvP, e4, set_dp, List.set_set
      rw [putS_lt h2]
      exact Eq.refl _
  | take p c =>
    show (exs (ctx pr n) b__law_due [some w.d, some (Order.take p c).d, none, none, none, none, none] h).wp (bdX h (.ok (takeO w p c).due h))
    unfold takeO
    cases q : partsOf? w p with
    | none =>
      rcases no q with c0 | ⟨s, c0, e1, e2⟩
      · by_cases c1 : 0 ≤ p.1
        · nomatch Order.d, hd_ast, w_0
          exact Eq.refl _
        · nomatch Order.d, hd_ast, w_0
          exact Eq.refl _
      · by_cases a0 : s.age = p.2
        · have := e2 a0
          nomatch Order.d, hd_ast, w_0, at_map, e1, s_0, s_1, this, optP
          exact Eq.refl _
        · nomatch Order.d, hd_ast, w_0, at_map, e1, s_0, s_1
          exact Eq.refl _
    | some ps =>
      obtain ⟨h0, h1, h2, h3, h4⟩ := parts_some q
      have sb := (parts_sub k q).1
      have nd := keys_nd sb
      have l8 := parts_len k q
      have l9 : (kvP ps).length < 16777216 := by rw [kvP_len]; omega
      have e4 := out_sorted (c := c) sb
      simp only [any_find]
      cases f : ps.find? fun q => decide (q.1 = c) with
      | none =>
        nomatch Order.d, hd_ast, w_0, w_1, at_map, h4, s_0, s_1, optP, set_dn, dict_parts, kvP_len, look_kvP, f, Option.map_none
        exact Eq.refl _
      | some x =>
        nomatch Order.d, hd_ast, w_0, w_1, at_map, h4, s_0, s_1, optP, set_dn, dict_parts, kvP_len, look_kvP, f, drop_kvP, sort_kvP, e4, set_dp, List.set_set
        rw [putS_lt h2]
        exact Eq.refl _
/-! worlds stay worlds -/
theorem sub_of {xs ys : List Nat} (hx : xs.Pairwise fun a b => a < b) (hy : ys.Pairwise fun a b => a < b) (hm : ∀ x ∈ xs, x ∈ ys) : List.Sublist xs ys := by
  have e : xs = ys.filter fun y => decide (y ∈ xs) := by
    refine List.Perm.eq_of_pairwise (le := fun a b => a < b) (fun a b _ _ h1 h2 => absurd h1 (Nat.lt_asymm h2)) hx (hy.sublist List.filter_sublist) ?_
    refine (List.perm_ext_iff_of_nodup (hx.imp fun q => Nat.ne_of_lt q) ((hy.sublist List.filter_sublist).imp fun q => Nat.ne_of_lt q)).mpr fun z => ?_
    rw [List.mem_filter, decide_eq_true_eq]
    exact ⟨fun q => ⟨hm z q, q⟩, fun q => q.2⟩
  rw [e]
  exact List.filter_sublist
structure POk (ps : List (Nat × Int)) : Prop where
  sub : List.Sublist (ps.map (·.1)) abc
  amt : ∀ p ∈ ps, 0 ≤ p.2 ∧ p.2 ≤ 9999
theorem WOk.at {w : World} (o : WOk w) {p : Int × Int} {ps : List (Nat × Int)} (q : partsOf? w p = some ps) : POk ps := ⟨(parts_sub o q).1, (parts_sub o q).2⟩
theorem out_ok {ps : List (Nat × Int)} {c : Nat} (o : POk ps) : POk (outP ps c) :=
  ⟨(List.filter_sublist.map _).trans o.sub, fun p hp => o.amt p (List.mem_filter.mp hp).1⟩
theorem ins_mem {ps : List (Nat × Int)} {c : Nat} {a : Int} {p : Nat × Int} : p ∈ insP ps c a ↔ p ∈ outP ps c ∨ p = (c, a) := by
  unfold insP
  rw [(List.mergeSort_perm _ _).mem_iff, List.mem_append, List.mem_singleton]
  rfl
theorem ins_ok {ps : List (Nat × Int)} {c : Nat} {a : Int} (o : POk ps) (hc : c ∈ abc) (ha : 0 ≤ a ∧ a ≤ 9999) : POk (insP ps c a) := by
  refine ⟨sub_of ?_ abc_lt ?_, ?_⟩
  · have h1 : (insP ps c a).Pairwise fun p q => lePr p q = true := List.pairwise_mergeSort lePr_tr lePr_to _
    have h2 : ((insP ps c a).map (·.1)).Nodup := by
      unfold insP
      rw [((List.mergeSort_perm _ _).map _).nodup_iff, List.map_append]
      refine List.nodup_append.mpr ⟨keys_nd (out_ok (c := c) o).sub, by simp, ?_⟩
      intro x hx y hy e
      simp only [List.map_cons, List.map_nil, List.mem_singleton] at hy
      obtain ⟨p, hp, rfl⟩ := List.mem_map.mp hx
      have := (List.mem_filter.mp hp).2
      simp at this
      exact this (e.trans hy)
    unfold List.Nodup at h2
    rw [List.pairwise_map] at h2 ⊢
    exact (h1.and h2).imp fun {p q} z => by
      have z1 := z.1
      have z2 := z.2
      simp [lePr] at z1
      omega
  · intro x hx
    obtain ⟨p, hp, rfl⟩ := List.mem_map.mp hx
    rcases ins_mem.mp hp with q | rfl
    · exact (out_ok (c := c) o).sub.subset (List.mem_map_of_mem q)
    · exact hc
  · intro p hp
    rcases ins_mem.mp hp with q | rfl
    · exact (out_ok (c := c) o).amt p q
    · exact ha
theorem mem_setS {α : Type} {l : List α} {i : Nat} {x y : α} (h : y ∈ setS l i x) : y ∈ l ∨ y = x := by
  unfold setS at h
  rw [List.mem_append, List.mem_append, List.mem_singleton] at h
  rcases h with (h | h) | h
  · exact .inl (List.mem_of_mem_take h)
  · exact .inr h
  · exact .inl (List.mem_of_mem_drop h)
theorem put_ok {w : World} {i : Nat} {s : Slot} (o : WOk w) (hl : (putS w i s).slots.length ≤ 40) (ha : 0 ≤ s.age) (hp : ∀ ps, s.parts = some ps → POk ps) : WOk (putS w i s) := by
  refine ⟨hl, fun t ht => ?_, fun t ht ps e => ?_, o.shr, o.amt⟩
  · rcases mem_setS ht with q | rfl
    · exact o.age t q
    · exact ha
  · rcases mem_setS ht with q | rfl
    · exact o.prt t q ps e
    · exact ⟨(hp ps e).sub, (hp ps e).amt⟩
theorem put_len {w : World} {i : Nat} {s : Slot} (h : i < w.slots.length) : (putS w i s).slots.length = w.slots.length := by rw [putS_lt h]; simp
theorem age_ge {w : World} (o : WOk w) {p : Int × Int} {ps : List (Nat × Int)} (q : partsOf? w p = some ps) : 0 ≤ p.2 := o.age _ (List.mem_of_getElem? (parts_some q).2.2.2.1)
theorem do_ok {w w' : World} {o : Order} {hd : Option (Int × Int)} (k : WOk w) (ko : OOk o) (e : doO w o = .ok w' hd) : WOk w' := by
  cases o with
  | born ps =>
    have pk := ko.born ps rfl
    have e : bornO w ps = .ok w' hd := e
    unfold bornO at e
    split at e
    · rename_i i q
      cases e
      obtain ⟨hi, _⟩ := empty_some q
      refine put_ok k (by rw [put_len hi]; exact k.few) ?_ fun z e => by cases e; exact ⟨pk.1, pk.2⟩
      simp only [ageAt, List.getElem?_eq_getElem hi]
      exact k.age _ (List.getElem_mem hi)
    · split at e
      · cases e
      · cases e
        have := k.few
        exact put_ok k (by rw [putS_len]; simp; omega) (Int.le_refl 0) fun z e => by cases e; exact ⟨pk.1, pk.2⟩
  | gone p =>
    have e : goneO w p = .ok w' hd := e
    unfold goneO at e
    split at e
    · rename_i ps q
      cases e
      have := age_ge k q
      exact put_ok k (by rw [put_len (parts_some q).2.2.1]; exact k.few) (by simp only; omega) fun z e => nomatch e
    · cases e
  | give p c a =>
    have pk := ko.give p c a rfl
    have e : giveO w p c a = .ok w' hd := e
    unfold giveO at e
    split at e
    · rename_i ps q
      cases e
      exact put_ok k (by rw [put_len (parts_some q).2.2.1]; exact k.few) (age_ge k q) fun z e => by cases e; exact ins_ok (k.at q) pk.1 pk.2
    · cases e
  | take p c =>
    have e : takeO w p c = .ok w' hd := e
    unfold takeO at e
    split at e
    · rename_i ps q
      split at e
      · cases e
        exact put_ok k (by rw [put_len (parts_some q).2.2.1]; exact k.few) (age_ge k q) fun z e => by cases e; exact out_ok (k.at q)
      · cases e
    · cases e
  | share l a =>
    have pk := ko.share l a rfl
    have e : Res.ok (shareO w l a) none = .ok w' hd := e
    cases e
    refine ⟨k.few, k.age, k.prt, ?_, fun b hb => ?_⟩
    · show (setS w.shared (l - 65) a).length = 4
      rw [setS_lt (by rw [k.shr]; omega), List.length_set, k.shr]
    · rcases mem_setS hb with q | rfl
      · exact k.amt b q
      · exact pk.2
def Res.next (w : World) : Res → World
  | .ok w' _ => w'
  | _ => w
def Res.isOk : Res → Bool
  | .ok _ _ => true
  | _ => false
theorem next_ok {w : World} {o : Order} (k : WOk w) (ko : OOk o) : WOk ((doO w o).next w) := by
  cases e : doO w o with
  | ok w' hd => exact do_ok k ko e
  | _ => exact k
theorem due_ty {r : Res} {h : Hp} {f : String → String → Option Bool} : tyV r.due .str h f = some (!r.isOk) := by cases r <;> exact Eq.refl _
theorem nb_of {n : Nat} {xs : List D} (h : ∀ x ∈ xs, nb n x = true) : nb (n + 1) (.tup xs) = true := by
  show xs.all (nb n) = true
  exact List.all_eq_true.mpr h
theorem nb_pair (p : Nat × Int) (n : Nat) : nb (n + 1) (pairD p) = true := by simp [pairD, nb]
theorem nb_parts (ps : List (Nat × Int)) (n : Nat) : nb (n + 2) (partsD ps) = true := nb_of fun x hx => by
  obtain ⟨p, _, rfl⟩ := List.mem_map.mp hx
  exact nb_pair p n
theorem nb_opt (o : Option (List (Nat × Int))) (n : Nat) : nb (n + 2) (optP o) = true := by
  cases o with
  | none => rfl
  | some ps => exact nb_parts ps n
theorem nb_slot (s : Slot) (n : Nat) : nb (n + 3) s.d = true := nb_of fun x hx => by
  simp at hx
  rcases hx with rfl | rfl
  · exact Eq.refl _
  · exact nb_opt _ n
theorem nb_slots (l : List Slot) (n : Nat) : nb (n + 4) (.tup (l.map Slot.d)) = true := nb_of fun x hx => by
  obtain ⟨s, _, rfl⟩ := List.mem_map.mp hx
  exact nb_slot s n
theorem nb_ints (l : List Int) (n : Nat) : nb (n + 1) (.tup (l.map .int)) = true := nb_of fun x hx => by
  obtain ⟨s, _, rfl⟩ := List.mem_map.mp hx
  simp [nb]
theorem nb_world (w : World) : nb 40 w.d = true := nb_of fun x hx => by
  simp at hx
  rcases hx with rfl | rfl
  · exact nb_slots _ 35
  · exact nb_ints _ 38
theorem nb_hd (p : Int × Int) (n : Nat) : nb (n + 1) (hdD p) = true := by simp [hdD, nb]
theorem nb_optH (o : Option (Int × Int)) (n : Nat) : nb (n + 1) (optH o) = true := by
  cases o with
  | none => rfl
  | some p => exact nb_hd p n
theorem nb_due (r : Res) : nb 40 r.due = true := by
  cases r with
  | ok w hd =>
    refine nb_of fun x hx => ?_
    simp at hx
    rcases hx with rfl | rfl
    · refine nb_of (n := 38) fun x hx => ?_
      simp at hx
      rcases hx with rfl | rfl
      · exact nb_slots _ 34
      · exact nb_ints _ 37
    · exact nb_optH _ 38
  | _ => exact Eq.refl _
local macro_rules | `(tactic| array_get_dec) => `(tactic| first | exact nb_world _ | exact nb_due _)
def doAll (w : World) (os : List Order) : World := os.foldl (fun w o => (doO w o).next w) w
/-! changes -/
inductive Plc where
  | num (i : Nat) | let (c : Nat)
  deriving DecidableEq
def Plc.d : Plc → D
  | .num i => .int i
  | .let c => .str [c]
def lets : List Nat := [65, 66, 67, 68]
/-- numbers, then letters -/
def plcs (n : Nat) : List Plc := (List.range n).map .num ++ lets.map .let
/-- what a world has at a place -/
def vD (w : World) : Plc → D
  | .num i => (w.slots[i]?.map Slot.d).getD .non
  | .let c => if 65 ≤ c then (w.shared[c - 65]?.map D.int).getD .non else .non
theorem Plc.eqD {p q : Plc} : Mi.eqD p.d q.d = decide (p = q) := by
  cases p <;> cases q <;> simp only [Plc.d]
  · rw [eqD_i]; simp only [Plc.num.injEq, Int.ofNat_inj]
  · rw [show Mi.eqD (.int _) (.str _) = false from rfl]; simp
  · rw [show Mi.eqD (.str _) (.int _) = false from rfl]; simp
  · rw [eqD_s]; simp
theorem Plc.key (p : Plc) : keyB false p.d = true := by cases p <;> exact Eq.refl _
theorem Plc.pl (p : Plc) : Mi.pl p.d = true := by cases p <;> simp [Plc.d, pl_int, pl_str]
theorem getD_ind {α : Type} {P : D → Prop} {o : Option α} {f : α → D} (h0 : P .non) (h1 : ∀ x, P (f x)) : P ((o.map f).getD .non) := by
  cases o with
  | none => exact h0
  | some x => exact h1 x
theorem vD_ind {P : D → Prop} (w : World) (p : Plc) (h0 : P .non) (h1 : ∀ s : Slot, P s.d) (h2 : ∀ i, P (.int i)) : P (vD w p) := by
  cases p with
  | num i => exact getD_ind h0 h1
  | «let» c =>
    show P (if 65 ≤ c then (w.shared[c - 65]?.map D.int).getD .non else .non)
    split
    · exact getD_ind h0 h2
    · exact h0
theorem vD_pl (w : World) (p : Plc) : pl (vD w p) = true := vD_ind (P := fun d => pl d = true) w p pl_non Slot.pl fun _ => pl_int
theorem Plc.nb (p : Plc) (n : Nat) : Mi.nb n p.d = true := by cases p <;> simp [Plc.d, Mi.nb]
theorem vD_nb (w : World) (p : Plc) (n : Nat) : nb (n + 3) (vD w p) = true := vD_ind (P := fun d => nb (n + 3) d = true) w p (Eq.refl _) (fun s => nb_slot s n) fun _ => Eq.refl _
/-- a book as a dict -/
def bkD (b : List (Plc × D)) : List (D × D) := b.map fun x => (x.1.d, x.2)
def book (w : World) : List (Plc × D) := (plcs w.slots.length).map fun p => (p, vD w p)
def lookP (b : List (Plc × D)) (p : Plc) : Option D := (b.find? fun x => decide (x.1 = p)).map (·.2)
theorem look_bk {b : List (Plc × D)} {p : Plc} : lookD p.d (bkD b) = lookP b p := by
  unfold bkD lookP
  rw [lookD_map (kf := fun x : Plc × D => x.1.d) (vf := fun x => x.2)]
  simp only [Plc.eqD]
theorem lookP_map {f : Plc → D} {p : Plc} : ∀ l : List Plc, lookP (l.map fun p => (p, f p)) p = if p ∈ l then some (f p) else none
  | [] => by simp [lookP]
  | q :: l => by
    have ih := lookP_map (f := f) (p := p) l
    unfold lookP at *
    rw [List.map_cons, List.find?_cons]
    by_cases h : q = p
    · subst h; simp
    · simp only [h, decide_false, ih, List.mem_cons, Ne.symm h, false_or]
theorem mem_plcs {n : Nat} {p : Plc} : p ∈ plcs n ↔ (match p with
    | .num i => i < n
    | .let c => c ∈ lets) := by
  unfold plcs
  cases p <;> simp
theorem vD_out {w : World} {p : Plc} {m : Nat} (h : p ∉ plcs w.slots.length) (hm : p ∈ plcs m) : vD w p = .non := by
  rw [mem_plcs] at h hm
  cases p with
  | num i => simp only [vD, List.getElem?_eq_none (Nat.not_lt.mp h)]; exact Eq.refl _
  | «let» c => exact absurd hm h
theorem get_bk {w : World} {p : Plc} {m : Nat} (hm : p ∈ plcs m) : (lookD p.d (bkD (book w))).getD .non = vD w p := by
  rw [look_bk, book, lookP_map]
  by_cases h : p ∈ plcs w.slots.length
  · rw [if_pos h]; rfl
  · rw [if_neg h, vD_out h hm]; rfl
theorem plcs_len {n : Nat} : (plcs n).length = n + 4 := by simp [plcs, lets]
theorem book_len {w : World} : (bkD (book w)).length = w.slots.length + 4 := by simp [bkD, book, plcs_len]
theorem plcs_d {n : Nat} : (plcs n).map Plc.d = (List.range n).map (fun (i : Nat) => D.int (i : Int)) ++ lets.map fun c => .str [c] := by
  simp [plcs, List.map_map, Function.comp_def, Plc.d]
/-- the rows of a change -/
def rowD (r : Plc × D × D) : D := .tup [r.1.d, r.2.1, r.2.2]
def diffs (f g : Plc → D) (l : List Plc) : List (Plc × D × D) := (l.filter fun p => !decide (f p = g p)).map fun p => (p, f p, g p)
def change (w v : World) : List (Plc × D × D) := diffs (vD w) (vD v) (plcs (max w.slots.length v.slots.length))
def swapR (r : Plc × D × D) : Plc × D × D := (r.1, r.2.2, r.2.1)
def ROk (r : Plc × D × D) : Prop := (pl r.2.1 = true ∧ pl r.2.2 = true) ∧ nb 37 r.2.1 = true ∧ nb 37 r.2.2 = true
theorem change_ok {w v : World} : ∀ r ∈ change w v, ROk r := fun r hr => by
  obtain ⟨p, _, rfl⟩ := List.mem_map.mp hr
  exact ⟨⟨vD_pl _ _, vD_pl _ _⟩, vD_nb w p 34, vD_nb v p 34⟩
theorem swap_ok {l : List (Plc × D × D)} (h : ∀ r ∈ l, ROk r) : ∀ r ∈ l.map swapR, ROk r := fun r hr => by
  obtain ⟨p, hp, rfl⟩ := List.mem_map.mp hr
  exact ⟨⟨(h p hp).1.2, (h p hp).1.1⟩, (h p hp).2.2, (h p hp).2.1⟩
theorem rows_pl {l : List (Plc × D × D)} (h : ∀ r ∈ l, ROk r) : pl (.tup (l.map rowD)) = true := by
  rw [pl_tup, List.all_map, List.all_eq_true]
  intro r hr
  simp [rowD, pl_tup, Plc.pl, (h r hr).1.1, (h r hr).1.2]
theorem rows_nb {l : List (Plc × D × D)} (h : ∀ r ∈ l, ROk r) : nb 40 (.tup (l.map rowD)) = true := nb_of (n := 39) fun x hx => by
  obtain ⟨r, hr, rfl⟩ := List.mem_map.mp hx
  refine nb_of (n := 38) fun y hy => ?_
  have up : ∀ {y : D}, nb 37 y = true → nb 38 y = true := nb_up
  simp at hy
  rcases hy with rfl | rfl | rfl
  · exact Plc.nb _ _
  · exact up (h r hr).2.1
  · exact up (h r hr).2.2
theorem bT_row {is : List Nat} {r : Plc × D × D} {ρ : Env} {h : Hp} : bindT (.t is) (rowD r) ρ h = bind1 is [r.1.d, r.2.1, r.2.2] ρ := rfl
theorem book_num {w : World} {k : Nat} (hk : k ≤ w.slots.length) {v : D} : storeD (.int (k : Int)) v (bkD ((List.range k).map fun i => (Plc.num i, vD w (.num i)))) = bkD ((List.range k).map fun i => (Plc.num i, vD w (.num i))) ++ [(.int (k : Int), v)] := storeD_new fun p hp => by
  obtain ⟨x, hx, rfl⟩ := List.mem_map.mp hp
  obtain ⟨i, hi, rfl⟩ := List.mem_map.mp hx
  show eqD (.int (i : Int)) (.int (k : Int)) = false
  rw [eqD_i]
  have := List.mem_range.mp hi
  simp; omega
theorem amounts_eq {h : Hp} {w : World} {n : Nat} (k : WOk w) (hn : 1 ≤ n) : call pr n ("", "amounts_by_place") [w.d] h = .ok (.ref h.length) (.dic false (bkD (book w)) :: h) := by
  refine go_amounts_by_place (by omega) fun n e => ?_
  have hs := k.shr
  have hf := k.few
  nomatch w_0
  refine forW_typ (enc := fun p : Slot × Nat => .tup [.int p.2, p.1.d]) (I := fun pre ρ h' => (∃ x y, ρ = [some w.d, some (.ref h.length), x, y, none, none]) ∧ h' = .dic false (bkD ((List.range pre.length).map fun i => (Plc.num i, vD w (.num i)))) :: h) ⟨⟨_, _, Eq.refl _⟩, Eq.refl _⟩ (fun _ _ _ _ => same_nil) ?_ ?_
  · rintro pre ⟨s, i⟩ rest ρ h' e ⟨⟨x, y, rfl⟩, rfl⟩
    have li : w.slots.zipIdx[pre.length]? = some (s, i) := by rw [e]; simp
    rw [List.getElem?_zipIdx] at li
    obtain ⟨s', e1, e2⟩ := Option.map_eq_some_iff.mp li
    have e3 : i = pre.length := by simpa using (congrArg Prod.snd e2).symm
    have e4 : s' = s := congrArg Prod.fst e2
    subst e4
    subst e3
    have lt := (List.getElem?_eq_some_iff.mp e1).1
    have l2 : (bkD ((List.range pre.length).map fun i => (Plc.num i, vD w (.num i)))).length < 16777216 := by simp [bkD]; omega
    nomatch book_num (v := s'.d) (Nat.le_of_lt lt)
    refine ⟨⟨_, _, Eq.refl _⟩, ?_⟩
    rw [List.length_append, List.length_singleton, List.range_succ, List.map_append]
    simp [bkD, Plc.d, vD, e1]
  · rintro ρ h' ⟨⟨x, y, rfl⟩, rfl⟩
    rw [List.length_zipIdx]
    nomatch w_1, gl_LETTERS
    have e2 : (([D.str [65], D.str [66], D.str [67], D.str [68]].zip (w.shared.map D.int)).map fun p => D.tup [p.1, p.2]) = (lets.zip w.shared).map fun p => D.tup [.str [p.1], .int p.2] := by
      show ((((lets.map fun c => D.str [c]).zip (w.shared.map D.int)).map fun p => D.tup [p.1, p.2])) = _
      rw [List.zip_map, List.map_map]
      exact Eq.refl _
    rw [e2]
    refine forW_typ (I := fun pre ρ h' => (∃ x y u v, ρ = [some w.d, some (.ref h.length), x, y, u, v]) ∧ h' = .dic false (bkD (((List.range w.slots.length).map fun i => (Plc.num i, vD w (.num i))) ++ pre.map fun p => (Plc.let p.1, .int p.2))) :: h) ⟨⟨_, _, _, _, Eq.refl _⟩, by simp⟩ (fun _ _ _ _ => same_nil) ?_ ?_
    · rintro pre ⟨c, a⟩ rest ρ h' e ⟨⟨x, y, u, v, rfl⟩, rfl⟩
      have nw : storeD (.str [c]) (.int a) (bkD (((List.range w.slots.length).map fun i => (Plc.num i, vD w (.num i))) ++ pre.map fun p => (Plc.let p.1, .int p.2))) = bkD (((List.range w.slots.length).map fun i => (Plc.num i, vD w (.num i))) ++ pre.map fun p => (Plc.let p.1, .int p.2)) ++ [(.str [c], .int a)] := storeD_new fun p hp => by
        obtain ⟨x, hx, rfl⟩ := List.mem_map.mp hp
        show eqD x.1.d (Plc.let c).d = false
        rw [Plc.eqD]
        rcases List.mem_append.mp hx with hx | hx
        · obtain ⟨i, _, rfl⟩ := List.mem_map.mp hx
          simp
        · obtain ⟨q, hq, rfl⟩ := List.mem_map.mp hx
          have nd : (lets.zip w.shared).Pairwise fun p q => p.1 ≠ q.1 := by
            have : ((lets.zip w.shared).map Prod.fst).Pairwise fun a b => a ≠ b := by
              rw [List.map_fst_zip (by rw [hs]; decide)]
              decide
            rwa [List.pairwise_map] at this
          rw [e, List.pairwise_append] at nd
          have := nd.2.2 q hq (c, a) List.mem_cons_self
          simpa using this
      have lp : pre.length ≤ 4 := by
        have := congrArg List.length e
        simp [lets, hs] at this
        omega
      have l2 : (bkD (((List.range w.slots.length).map fun i => (Plc.num i, vD w (.num i))) ++ pre.map fun p => (Plc.let p.1, .int p.2))).length < 16777216 := by simp [bkD]; omega
      nomatch nw
      exact ⟨⟨_, _, _, _, Eq.refl _⟩, by simp [bkD, Plc.d]⟩
    · rintro ρ h' ⟨⟨x, y, u, v, rfl⟩, rfl⟩
      nofun
      obtain ⟨a, b, c, d, e⟩ : ∃ a b c d, w.shared = [a, b, c, d] := by
        match w.shared, hs with
        | [a, b, c, d], _ => exact ⟨a, b, c, d, rfl⟩
      have eb : ((List.range w.slots.length).map fun i => (Plc.num i, vD w (.num i))) ++ (lets.zip w.shared).map (fun p => (Plc.let p.1, D.int p.2)) = book w := by
        unfold book plcs
        rw [List.map_append, List.map_map, List.map_map]
        congr 1
        rw [e]
        simp [lets, vD, e]
      rw [eb]
theorem all_places_eq {h : Hp} {a b : Nat} {k1 k2 : List (D × D)} {m : Nat} {n : Nat} (g1 : get h a = some (.dic false k1)) (g2 : get h b = some (.dic false k2)) (h1 : max k1.length k2.length = m + 4) (hm : m ≤ 1000) (hn : 1 ≤ n) : call pr n ("", "all_places") [.ref a, .ref b] h = .ok (.lst ((plcs m).map Plc.d)) h := by
  refine go_all_places (by omega) fun n e => ?_
  have e1 : (if (k2.length : Int) > k1.length then (k2.length : Int) else k1.length) - ((([] : List Nat).length + 1 + 1 + 1 + 1 : Nat) : Int) = (m : Int) := by
    rw [List.length_nil]
    split <;> omega
  nomatch gl_LETTERS, g1, g2, e1
  rw [plcs_d]
  exact Eq.refl _
theorem turned_back_eq {h : Hp} {l : List (Plc × D × D)} {n : Nat} (hl : ∀ r ∈ l, ROk r) (hn : 1 ≤ n) : call pr n ("", "turned_back") [.tup (l.map rowD)] h = .ok (.tup ((l.map swapR).map rowD)) h := by
  refine go_turned_back (by omega) fun n e => ?_
  have := rows_pl (swap_ok hl)
  trivial
  refine compW_m (f := rowD) (g := fun r => rowD (swapR r)) (fun r hr => ?_) ?_
  · have p1 := (hl r hr).1.1
    have p2 := (hl r hr).1.2
    have p3 := Plc.pl r.1
    nomatch bT_row
    exact Eq.refl _
  · have e1 : (l.map fun r => rowD (swapR r)) = (l.map swapR).map rowD := by rw [List.map_map]; exact Eq.refl _
    nomatch e1
theorem change_eq {h : Hp} {w v : World} {n : Nat} (k : WOk w) (k2 : WOk v) (hn : 2 ≤ n) : call pr n ("", "change_between") [w.d, v.d] h = .ok (.tup ((change w v).map rowD)) h := by
  refine go_change_between (by omega) fun n e => ?_
  have f1 := k.few
  have f2 := k2.few
  have a1 := fun h => amounts_eq (h := h) (n := n) k (by omega)
  have a2 := fun h => amounts_eq (h := h) (n := n) k2 (by omega)
  have ap : ∀ h : Hp, call pr n ("", "all_places") [.ref h.length, .ref (h.length + 1)] (.lst [] :: .dic false (bkD (book v)) :: .dic false (bkD (book w)) :: h) = .ok (.lst ((plcs (max w.slots.length v.slots.length)).map Plc.d)) (.lst [] :: .dic false (bkD (book v)) :: .dic false (bkD (book w)) :: h) := fun h =>
    all_places_eq (k1 := bkD (book w)) (k2 := bkD (book v)) (by nofun) (by nofun) (by rw [book_len, book_len]; omega) (by omega) (by omega)
  have rp : pl (.tup ((diffs (vD w) (vD v) (plcs (max w.slots.length v.slots.length))).map rowD)) = true := rows_pl (change_ok (w := w) (v := v))
  nomatch a1, a2, ap
  refine forW_typ (I := fun pre ρ h' => (∃ x, ρ = [some w.d, some v.d, some (.ref h.length), some (.ref (h.length + 1)), some (.ref (h.length + 1 + 1)), x]) ∧ h' = .lst ((diffs (vD w) (vD v) pre).map rowD) :: .dic false (bkD (book v)) :: .dic false (bkD (book w)) :: h) ⟨⟨_, Eq.refl _⟩, Eq.refl _⟩ (fun _ _ _ _ => same_nil) ?_ ?_
  · rintro pre p rest ρ h' e ⟨⟨x, rfl⟩, rfl⟩
    have mp : p ∈ plcs (max w.slots.length v.slots.length) := by rw [e]; simp
    have kp := Plc.key p
    have pp := Plc.pl p
    have g1 := get_bk (w := w) mp
    have g2 := get_bk (w := v) mp
    have n1 := vD_nb w p 37
    have n2 := vD_nb v p 37
    have p1 := vD_pl w p
    have p2 := vD_pl v p
    have lp : (diffs (vD w) (vD v) pre).length ≤ 44 := by
      have l1 : (diffs (vD w) (vD v) pre).length ≤ pre.length := by simp [diffs, List.length_filter_le]
      have := congrArg List.length e
      rw [plcs_len] at this
      simp at this
      omega
    by_cases c : vD w p = vD v p
    · nomatch g1, g2, c
      exact ⟨⟨_, Eq.refl _⟩, by simp [diffs, List.filter_append, c]⟩
    · nomatch g1, g2, c
      exact ⟨⟨_, Eq.refl _⟩, by simp [diffs, List.filter_append, c, rowD]⟩
  · rintro ρ h' ⟨⟨x, rfl⟩, rfl⟩
    nofun
    exact Eq.refl _
/-- a world near to another -/
def nearStep (ns : List Int) (k : Int) (w : World) (i : Nat) : World := (doO w (order ns (k + 2 + 15 * (i : Int)) w)).next w
def near (ns : List Int) (k : Int) (w : World) : World :=
  if pick ns k 8 = 0 then w else if pick ns k 8 = 1 then ⟨w.slots.take (pick ns (k + 1) (w.slots.length + 1)).toNat, w.shared⟩
  else if pick ns k 8 = 2 then world ns (k + 2) 0 7 else (List.range (1 + pick ns (k + 1) 6).toNat).foldl (nearStep ns k) w
theorem near_ok {ns : List Int} {k : Int} {w : World} (o : WOk w) : WOk (near ns k w) := by
  unfold near
  split
  · exact o
  split
  · exact ⟨Nat.le_trans (List.length_take_le' _ _) o.few, fun s hs => o.age s (List.mem_of_mem_take hs), fun s hs => o.prt s (List.mem_of_mem_take hs), o.shr, o.amt⟩
  split
  · exact world_ok (by decide) (by decide) (by decide)
  · generalize List.range _ = l
    induction l generalizing w with
    | nil => exact o
    | cons i l ih => exact ih (next_ok o (order_ok _ _ _))
theorem near_eq {s : D} {ns : List Int} {h : Hp} {k : Int} {w : World} {n : Nat} (hs : Scr s ns h) (o : WOk w) (hk : 0 ≤ k) (hn : 7 ≤ n) : call pr n ("", "_law_near") [s, .int k, w.d] h = .ok (near ns k w).d h := by
  refine go__law_near (by omega) fun n e => ?_
  have b0 := pick_ge (ns := ns) (k := k + 1) (m := (w.slots.length : Int) + 1) (by omega)
  have b1 := pick_ge (ns := ns) (k := k + 1) (m := 6) (by decide)
  have b2 := pick_lt (ns := ns) (k := k + 1) (m := 6) (by decide)
  unfold near
  by_cases c0 : pick ns k 8 = 0
  · nomatch hs.sto, pick_eq hs, c0
    all_goals simp
  by_cases c1 : pick ns k 8 = 1
  · nomatch hs.sto, pick_eq hs, c0, c1, w_0, w_1
    simp [World.d, List.map_take]
  by_cases c2 : pick ns k 8 = 2
  · nomatch hs.sto, pick_eq hs, c0, c1, c2, world_eq hs
    all_goals simp
  nomatch hs.sto, pick_eq hs
  refine forW_fold (enc := fun i : Nat => .int (i : Int)) (nearStep ns k) w (fun _ w' ρ h' => h' = h ∧ WOk w' ∧ ∃ x y, ρ = [some s, some (.int k), some w'.d, some (.int (pick ns k 8)), x, y]) ⟨rfl, o, _, _, rfl⟩ (fun _ _ _ _ _ => rfl) ?_ ?_
  · rintro i w' j ρ h' _ _ ⟨rfl, o', x, y, rfl⟩
    have ko := order_ok ns (k + 2 + 15 * (j : Int)) w'
    have kn := next_ok o' ko
    have f1 := fun h => due_eq (h := h) (n := n) o' ko (by omega)
    cases q : doO w' (order ns (k + 2 + 15 * (j : Int)) w') with
    | ok w2 hd =>
      have st : nearStep ns k w' j = w2 := by simp [nearStep, q, Res.next]
      simp only [q, Res.due] at f1 kn
      nomatch hs.sto, order_eq hs, f1
      rw [st]
      exact ⟨kn, _, _, Eq.refl _⟩
    | _ =>
      have st : nearStep ns k w' j = w' := by simp [nearStep, q, Res.next]
      simp only [q, Res.due] at f1 kn
      nomatch hs.sto, order_eq hs, f1
      rw [st]
      exact ⟨kn, _, _, Eq.refl _⟩
  · rintro ρ h' ⟨rfl, o', x, y, rfl⟩
    nofun
    simp only [c0, c1, c2, if_false]
/-! what a change makes -/
def stF (f : Plc → D) (r : Plc × D × D) : Plc → D := fun q => if q = r.1 then r.2.2 else f q
def okR : (Plc → D) → List (Plc × D × D) → Prop
  | _, [] => True
  | f, r :: l => (f r.1 = r.2.1 ∧ r.2.1 ≠ r.2.2) ∧ okR (stF f r) l
theorem okR_at {r : Plc × D × D} {rest : List (Plc × D × D)} : ∀ {pre : List (Plc × D × D)} {f : Plc → D}, okR f (pre ++ r :: rest) → (pre.foldl stF f) r.1 = r.2.1 ∧ r.2.1 ≠ r.2.2
  | [], _, h => h.1
  | x :: pre, f, h => okR_at (pre := pre) (f := stF f x) h.2
theorem okR_diffs {k : Plc → D} : ∀ {l : List Plc} {f : Plc → D} {g : Plc → D}, l.Nodup → (∀ p ∈ l, f p = g p) → okR f (diffs g k l) ∧ (diffs g k l).foldl stF f = fun p => if p ∈ l then k p else f p
  | [], f, g, _, _ => ⟨trivial, by simp [diffs]⟩
  | p :: l, f, g, nd, e => by
    rw [List.nodup_cons] at nd
    by_cases c : g p = k p
    · have e1 : diffs g k (p :: l) = diffs g k l := by simp [diffs, c]
      obtain ⟨h1, h2⟩ := okR_diffs (k := k) (f := f) nd.2 fun q hq => e q (List.mem_cons_of_mem _ hq)
      rw [e1]
      refine ⟨h1, h2.trans (funext fun q => ?_)⟩
      by_cases m : q = p
      · subst m
        rw [if_neg nd.1, if_pos List.mem_cons_self, e q List.mem_cons_self, c]
      · simp [m]
    · have e1 : diffs g k (p :: l) = (p, g p, k p) :: diffs g k l := by simp [diffs, c]
      obtain ⟨h1, h2⟩ := okR_diffs (k := k) (f := stF f (p, g p, k p)) (g := g) nd.2 fun q hq => by
        have : q ≠ p := fun z => nd.1 (z ▸ hq)
        simp only [stF, this, if_false]
        exact e q (List.mem_cons_of_mem _ hq)
      rw [e1]
      refine ⟨⟨⟨e p List.mem_cons_self, c⟩, h1⟩, h2.trans (funext fun q => ?_)⟩
      by_cases m : q = p
      · subst m
        rw [if_neg nd.1, if_pos List.mem_cons_self]
        simp [stF]
      · simp [m, stF]
theorem plcs_nd {n : Nat} : (plcs n).Nodup := by
  unfold plcs
  refine List.nodup_append.mpr ⟨?_, ?_, ?_⟩
  · unfold List.Nodup
    rw [List.pairwise_map]
    exact List.nodup_range.imp fun h z => h (Plc.num.inj z)
  · decide
  · intro a ha b hb e
    obtain ⟨i, _, rfl⟩ := List.mem_map.mp ha
    obtain ⟨j, _, rfl⟩ := List.mem_map.mp hb
    cases e
theorem vD_no {w : World} {p : Plc} (o : w.shared.length = 4) : vD w p ≠ .non ↔ p ∈ plcs w.slots.length := by
  rw [mem_plcs]
  cases p with
  | num i =>
    by_cases h : i < w.slots.length
    · simp [vD, h, Slot.d]
    · simp [vD, h]
  | «let» c =>
    have hm : c ∈ lets ↔ 65 ≤ c ∧ c ≤ 68 := by
      simp [lets]
      omega
    show _ ↔ c ∈ lets
    rw [hm]
    by_cases h : 65 ≤ c ∧ c ≤ 68
    · have : c - 65 < w.shared.length := by omega
      simp [vD, h, this]
    · refine ⟨fun z => absurd ?_ z, fun z => absurd z h⟩
      by_cases h2 : 65 ≤ c
      · simp [vD, h2, List.getElem?_eq_none (show w.shared.length ≤ c - 65 by omega)]
      · simp [vD, h2]
theorem change_run {w v : World} (o : w.shared.length = 4) (o2 : v.shared.length = 4) : okR (vD w) (change w v) ∧ (change w v).foldl stF (vD w) = vD v := by
  obtain ⟨h1, h2⟩ := okR_diffs (k := vD v) (f := vD w) (g := vD w) (plcs_nd (n := max w.slots.length v.slots.length)) fun _ _ => rfl
  refine ⟨h1, h2.trans (funext fun p => ?_)⟩
  split
  · rfl
  · rename_i h
    have a : ∀ {u : World}, u.shared.length = 4 → u.slots.length ≤ max w.slots.length v.slots.length → vD u p = .non := fun {u} ou l => by
      by_cases z : vD u p = .non
      · exact z
      · refine absurd ((vD_no ou).mp z) fun m => h ?_
        rw [mem_plcs] at m ⊢
        cases p with
        | num i => exact Nat.lt_of_lt_of_le m l
        | «let» c => exact m
    rw [a o (Nat.le_max_left _ _), a o2 (Nat.le_max_right _ _)]
theorem swap_diffs {f g : Plc → D} {l : List Plc} : (diffs f g l).map swapR = diffs g f l := by
  unfold diffs
  rw [List.map_map]
  have : (fun p => !decide (f p = g p)) = fun p => !decide (g p = f p) := funext fun p => by rw [decide_eq_decide.mpr eq_comm]
  rw [this]
  exact Eq.refl _
theorem swap_change {w v : World} : (change w v).map swapR = change v w := by
  unfold change
  rw [swap_diffs, Nat.max_comm]
theorem change_self {w : World} : change w w = [] := by simp [change, diffs]
theorem change_len {w v : World} : (change w v).length ≤ max w.slots.length v.slots.length + 4 := by
  unfold change diffs
  rw [List.length_map, ← plcs_len]
  exact List.length_filter_le _ _
/-- a book, as what it tells -/
structure Bk (b : List (Plc × D)) (f : Plc → D) : Prop where
  nd : (b.map (·.1)).Nodup
  val : ∀ x ∈ b, f x.1 = x.2 ∧ x.2 ≠ .non
  out : ∀ p, p ∉ b.map (·.1) → f p = .non
theorem Bk.find {b : List (Plc × D)} {f : Plc → D} (k : Bk b f) (p : Plc) : lookP b p = if f p = .non then none else some (f p) := by
  unfold lookP
  cases e : b.find? fun x => decide (x.1 = p) with
  | none =>
    have : p ∉ b.map (·.1) := fun m => by
      obtain ⟨x, hx, rfl⟩ := List.mem_map.mp m
      have := List.find?_eq_none.mp e x hx
      simp at this
    rw [if_pos (k.out p this)]
    rfl
  | some x =>
    have h1 := List.mem_of_find?_eq_some e
    have h2 : x.1 = p := by simpa using List.find?_some e
    obtain ⟨v1, v2⟩ := k.val x h1
    subst h2
    rw [v1, if_neg v2]
    rfl
theorem Bk.get {b : List (Plc × D)} {f : Plc → D} (k : Bk b f) (p : Plc) : (lookD p.d (bkD b)).getD .non = f p := by
  rw [look_bk, k.find]
  split
  · rename_i h; rw [h]; rfl
  · rfl
theorem Bk.keys {b : List (Plc × D)} {f : Plc → D} (k : Bk b f) (p : Plc) : p ∈ b.map (·.1) ↔ f p ≠ .non := by
  refine ⟨fun m => ?_, fun h => ?_⟩
  · obtain ⟨x, hx, rfl⟩ := List.mem_map.mp m
    obtain ⟨v1, v2⟩ := k.val x hx
    rw [v1]; exact v2
  · by_cases m : p ∈ b.map (·.1)
    · exact m
    · exact absurd (k.out p m) h
theorem bk_drop {b : List (Plc × D)} {p : Plc} : dropD p.d (bkD b) = bkD (b.filter fun x => !decide (x.1 = p)) := by
  unfold bkD
  rw [dropD_map (kf := fun x : Plc × D => x.1.d) (vf := fun x => x.2)]
  simp only [Plc.eqD]
def setB (b : List (Plc × D)) (p : Plc) (v : D) : List (Plc × D) := if (b.any fun x => decide (x.1 = p)) = true then b.map (fun x => if x.1 = p then (p, v) else x) else b ++ [(p, v)]
theorem bk_store {b : List (Plc × D)} {p : Plc} {v : D} : storeD p.d v (bkD b) = bkD (setB b p v) := by
  have := storeD_map (kf := fun x : Plc × D => x.1.d) (vf := fun x => x.2) (l := b) (x := (p, v)) (fun y _ q => by
    simp only [Plc.eqD, decide_eq_true_eq] at q
    rw [q])
  simp only [Plc.eqD, decide_eq_true_eq] at this
  exact this
theorem Bk.drop {b : List (Plc × D)} {f : Plc → D} (k : Bk b f) (p : Plc) : Bk (b.filter fun x => !decide (x.1 = p)) fun q => if q = p then .non else f q := by
  refine ⟨k.nd.sublist (List.filter_sublist.map _), fun x hx => ?_, fun q hq => ?_⟩
  · obtain ⟨h1, h2⟩ := List.mem_filter.mp hx
    have : x.1 ≠ p := by simpa using h2
    simp only [this, if_false]
    exact k.val x h1
  · by_cases c : q = p
    · simp [c]
    · simp only [c, if_false]
      refine k.out q fun m => hq ?_
      obtain ⟨x, hx, rfl⟩ := List.mem_map.mp m
      exact List.mem_map.mpr ⟨x, List.mem_filter.mpr ⟨hx, by simpa using c⟩, rfl⟩
theorem Bk.store {b : List (Plc × D)} {f : Plc → D} (k : Bk b f) (p : Plc) {v : D} (hv : v ≠ .non) : Bk (setB b p v) fun q => if q = p then v else f q := by
  unfold setB
  split
  · rename_i h
    have e : (b.map fun x => if x.1 = p then (p, v) else x).map (·.1) = b.map (·.1) := by
      rw [List.map_map]
      refine List.map_congr_left fun x _ => ?_
      simp only [Function.comp_apply]
      split
      · rename_i z; exact z.symm
      · rfl
    refine ⟨by rw [e]; exact k.nd, fun x hx => ?_, fun q hq => ?_⟩
    · obtain ⟨y, hy, rfl⟩ := List.mem_map.mp hx
      by_cases c : y.1 = p
      · simp [c, hv]
      · simp only [c, if_false]
        exact k.val y hy
    · rw [e] at hq
      have : q ≠ p := fun z => by
        subst z
        obtain ⟨x, hx, hp⟩ := List.any_eq_true.mp h
        exact hq (List.mem_map.mpr ⟨x, hx, by simpa using hp⟩)
      simp only [this, if_false]
      exact k.out q hq
  · rename_i h
    have hp : p ∉ b.map (·.1) := fun m => by
      obtain ⟨x, hx, e⟩ := List.mem_map.mp m
      exact h (List.any_eq_true.mpr ⟨x, hx, by simpa using e⟩)
    refine ⟨?_, fun x hx => ?_, fun q hq => ?_⟩
    · rw [List.map_append]
      exact List.nodup_append.mpr ⟨k.nd, by simp, fun a ha b hb e => hp (by simp at hb; rw [← hb, ← e]; exact ha)⟩
    · rcases List.mem_append.mp hx with hx | hx
      · have : x.1 ≠ p := fun z => hp (List.mem_map.mpr ⟨x, hx, z⟩)
        simp only [this, if_false]
        exact k.val x hx
      · rw [List.mem_singleton.mp hx]
        simp [hv]
    · rw [List.map_append, List.mem_append] at hq
      have h1 : q ∉ b.map (·.1) := fun z => hq (.inl z)
      have h2 : q ≠ p := fun z => hq (.inr (by simp [z]))
      simp only [h2, if_false]
      exact k.out q h1
theorem setB_len {b : List (Plc × D)} {p : Plc} {v : D} : (setB b p v).length ≤ b.length + 1 := by
  unfold setB
  split
  · rw [List.length_map]; omega
  · simp
theorem bkD_len {b : List (Plc × D)} : (bkD b).length = b.length := List.length_map ..
theorem Bk.of {w : World} (o : w.shared.length = 4) : Bk (book w) (vD w) := by
  have e : (book w).map (·.1) = plcs w.slots.length := by
    unfold book
    rw [List.map_map]
    exact List.map_id _
  refine ⟨by rw [e]; exact plcs_nd, fun x hx => ?_, fun p hp => ?_⟩
  · obtain ⟨p, hp, rfl⟩ := List.mem_map.mp hx
    exact ⟨rfl, (vD_no o).mpr hp⟩
  · rw [e] at hp
    by_cases z : vD w p = .non
    · exact z
    · exact absurd ((vD_no o).mp z) hp
theorem Bk.len {b : List (Plc × D)} {v : World} (k : Bk b (vD v)) (o : v.shared.length = 4) : b.length = v.slots.length + 4 := by
  have p : (b.map (·.1)).Perm (plcs v.slots.length) := (List.perm_ext_iff_of_nodup k.nd plcs_nd).mpr fun p => by rw [k.keys, vD_no o]
  have := p.length_eq
  rw [List.length_map, plcs_len] at this
  exact this
local macro_rules | `(tactic| array_get_dec) => `(tactic| first | exact vD_pl _ _ | exact Plc.pl _)
theorem world_by_eq {h : Hp} {v : World} {b : List (Plc × D)} {a : Nat} {n : Nat} (o : WOk v) (k : Bk b (vD v)) (g : get h a = some (.dic false (bkD b))) (hn : 1 ≤ n) : call pr n ("", "world_by_place") [.ref a] h = .ok v.d h := by
  refine go_world_by_place (by omega) fun n e => ?_
  have hl := k.len o.shr
  have hf := o.few
  have e1 : ((bkD b).length : Int) - (lets.length : Int) = (v.slots.length : Int) := by
    rw [bkD_len, hl, show lets.length = 4 from rfl]; omega
  have gl : pr.glo "LETTERS" = some (.str lets) := gl_LETTERS
  have gn : ∀ i ∈ List.range v.slots.length, lookD (.int (i : Int)) (bkD b) = some (vD v (.num i)) := fun i hi => by
    have := look_bk (b := b) (p := .num i)
    rw [k.find, if_neg ((vD_no o.shr).mpr (mem_plcs.mpr (List.mem_range.mp hi)))] at this
    exact this
  have gc : ∀ c ∈ lets, lookD (.str [c]) (bkD b) = some (vD v (.let c)) := fun c hc => by
    have := look_bk (b := b) (p := .let c)
    rw [k.find, if_neg ((vD_no o.shr).mpr (mem_plcs.mpr hc))] at this
    exact this
  have pw := World.pl v
  have ew : v.d = .tup [.tup ((List.range v.slots.length).map fun i => vD v (.num i)), .tup (lets.map fun c => vD v (.let c))] := by
    have a1 : v.slots.map Slot.d = (List.range v.slots.length).map fun i => vD v (.num i) := by
      refine List.ext_getElem (by simp) fun i h1 h2 => ?_
      have : i < v.slots.length := by simpa using h1
      simp [vD, this]
    have a2 : v.shared.map D.int = lets.map fun c => vD v (.let c) := by
      have hs := o.shr
      obtain ⟨a, b, c, d, e⟩ : ∃ a b c d, v.shared = [a, b, c, d] := by
        match v.shared, hs with
        | [a, b, c, d], _ => exact ⟨a, b, c, d, rfl⟩
      simp [lets, vD, e]
    rw [World.d, a1, a2]
  nomatch gl, g, e1, Int.toNat_natCast
  refine forW_typ (enc := fun i : Nat => .int (i : Int)) (I := fun pre ρ h' => h' = h ∧ ∃ x, ρ = [some (.ref a), some (.int v.slots.length), x, none]) ⟨rfl, _, Eq.refl _⟩ (fun _ _ _ _ => same_nil) ?_ ?_
  · rintro pre i rest ρ h' e ⟨rfl, x, rfl⟩
    have hi : i ∈ List.range v.slots.length := by rw [e]; simp
    nomatch g, gn i hi
    exact ⟨_, Eq.refl _⟩
  · rintro ρ h' ⟨rfl, x, rfl⟩
    nomatch g, Int.toNat_natCast, gn, gl, gc
    rw [← ew]
    nomatch g
theorem changed_eq {h : Hp} {w v : World} {n : Nat} (k : WOk w) (k2 : WOk v) (hn : 3 ≤ n) : call pr n ("", "changed_by") [w.d, .tup ((change w v).map rowD)] h = .ok v.d h := by
  refine go_changed_by (by omega) fun n e => ?_
  obtain ⟨run1, run2⟩ := change_run k.shr k2.shr
  have ok := change_ok (w := w) (v := v)
  have f1 := k.few
  have f2 := k2.few
  have ll := change_len (w := w) (v := v)
  have pw := World.pl v
  generalize change w v = l at *
  nomatch amounts_eq k
  refine forW_typ (enc := rowD) (I := fun pre ρ h' => ∃ x y z b, ρ = [some w.d, some (.tup (l.map rowD)), some (.ref h.length), x, y, z] ∧ h' = .dic false (bkD b) :: h ∧ Bk b (pre.foldl stF (vD w)) ∧ b.length ≤ 44 + pre.length) ⟨_, _, _, book w, Eq.refl _, Eq.refl _, Bk.of k.shr, by rw [← bkD_len, book_len]; simp; omega⟩ (fun _ _ _ _ => same_nil) ?_ ?_
  · rintro pre ⟨p, a, c⟩ rest ρ h' e ⟨x, y, z, b, rfl, rfl, bk, bl⟩
    have hr : (p, a, c) ∈ l := by rw [e]; simp
    obtain ⟨⟨p1, p2⟩, n1, n2⟩ := ok _ hr
    have n1 := nb_up (nb_up (nb_up n1))
    have n2 := nb_up (nb_up (nb_up n2))
    obtain ⟨o1, o2⟩ := okR_at (by rw [e] at run1; exact run1)
    have o1 : pre.foldl stF (vD w) p = a := o1
    have o2 : a ≠ c := o2
    have lp : pre.length ≤ 44 := by
      have := congrArg List.length e
      simp at this
      omega
    have bl2 : (bkD b).length < 16777216 := by rw [bkD_len]; omega
    have g1 := bk.get p
    rw [o1] at g1
    have kp := Plc.key p
    have ef : (pre ++ [(p, a, c)]).foldl stF (vD w) = fun q => if q = p then c else pre.foldl stF (vD w) q := by
      rw [List.foldl_append]
      exact Eq.refl _
    by_cases hc : c = .non
    · subst hc
      have lk : lookD p.d (bkD b) = some a := by
        rw [look_bk, bk.find, o1, if_neg o2]
      nomatch bT_row, g1, lk, bk_drop
      refine ⟨_, _, _, _, Eq.refl _, Eq.refl _, by rw [ef]; exact bk.drop p, ?_⟩
      have := List.length_filter_le (fun x : Plc × D => !decide (x.1 = p)) b
      simp
      omega
    · nomatch bT_row, g1, bk_store, hc
      refine ⟨_, _, _, _, Eq.refl _, Eq.refl _, by rw [ef]; exact bk.store p hc, ?_⟩
      have := setB_len (b := b) (p := p) (v := c)
      simp
      omega
  · rintro ρ h' ⟨x, y, z, b, rfl, rfl, bk, bl⟩
    rw [run2] at bk
    have wb := world_by_eq (h := .dic false (bkD b) :: h) (a := h.length) (n := n) k2 bk (by nofun) (by omega)
    nomatch wb
theorem law_ok {s : D} {ns : List Int} {h : Hp} {n : Nat} (hs : Scr s ns h) (hn : 20 ≤ n) : call pr n ("", "law") [s] h = .ok (.bl true) h := by
  refine go_law (by omega) fun n e => ?_
  have k := some_world_ok ns 0
  have k2 := near_ok (ns := ns) (k := 510) k
  have f1 := some_world_eq (n := n) (k := 0) hs (by decide) (by omega)
  have f2 := near_eq (n := n) (k := 510) hs k (by decide) (by omega)
  generalize near ns 510 (someWorld ns 0) = v at *
  generalize someWorld ns 0 = w at *
  have c1 := change_eq (h := h) (n := n) k k2 (by omega)
  have c2 := change_eq (h := h) (n := n) k2 k (by omega)
  have c3 := change_eq (h := h) (n := n) k k (by omega)
  have d1 := changed_eq (h := h) (n := n) k k2 (by omega)
  have d2 := changed_eq (h := h) (n := n) k2 k (by omega)
  have d3 := changed_eq (h := h) (n := n) k2 k2 (by omega)
  have t1 := turned_back_eq (h := h) (n := n) (change_ok (w := w) (v := v)) (by omega)
  have t2 := turned_back_eq (h := h) (n := n) (change_ok (w := v) (v := w)) (by omega)
  rw [change_self, List.map_nil] at c3 d3
  rw [swap_change] at t1 t2
  have q1 := rows_pl (change_ok (w := w) (v := v))
  have q2 := rows_pl (change_ok (w := v) (v := w))
  have q3 := rows_nb (change_ok (w := w) (v := v))
  have q4 := rows_nb (change_ok (w := v) (v := w))
  generalize change w v = l1 at *
  generalize change v w = l2 at *
  nomatch hs.sto, f1, f2, c1, c2, c3, d1, d2, d3, t1, t2
  simp
theorem holds : ∀ ns : List Int, ns.length ≤ 63 → ∃ h', call pr 40 ("", "law") [.cst (ns.map .int)] [] = .ok (.bl true) h' := fun ns _ => ⟨[], law_ok (scr_cst (xs := ns)) (by decide)⟩
end Law
theorem Law.chkd : Law.pt.ok HT.tups HT.fa HT.fn 60 30 = true := by decide +kernel
open PySem PySem.W PySem.Calls PyProof.Rows
theorem PySem.Challenge.cw_partworld_k81_whole_there_and_back_holds : PySem.Challenge.rw_partworld_k81_whole_there_and_back.Holds := by
  w_on; o_law
  refine HandSHeadRun.head_any (r := OpenLaw.row PySem.Challenge.rw_partworld_k81_whole_there_and_back) (q := view (OpenLaw.row PySem.Challenge.rw_partworld_k81_whole_there_and_back).prog [24]) (H := HT.hk) (ob := HT.ob) (M := 6000) (loose := HT.names) (d := HandSHeadRun.topDef (OpenLaw.row PySem.Challenge.rw_partworld_k81_whole_there_and_back).prog 24) (kwd := []) HT.ob_eq
    (by as_aux_lemma => kernel_rfl) (fun s => by as_aux_lemma => kernel_rfl) HT.run (by as_aux_lemma => kernel_rfl) (by as_aux_lemma => kernel_rfl) (by as_aux_lemma => kernel_rfl) (by as_aux_lemma => rfl) (by first | assumption | decide +kernel) (by decide +kernel) ⟨rfl, rfl, rfl, rfl, rfl, by decide +kernel⟩ ?hw ?hc
  case hw => w_witness2
  case hc =>
    refine L2.walk_ofE (l := PySem.Challenge.rw_partworld_k81_whole_there_and_back) (n := 63) (k := 40) (x := "_law_script") (CX := L2.CX0) rfl (by decide) (by as_aux_lemma => kernel_rfl) ⟨rfl, by decide, by decide⟩ ?F (fun _ _ _ _ z => z)
    intro w mg fa h Y G hmg0
    obtain ⟨K, KX, c⟩ := Y
    have hmg : mg ("law" : PySem.Str) = some (.ref fa) := by
      have e : (HandSHeadRun.topDef (OpenLaw.row PySem.Challenge.rw_partworld_k81_whole_there_and_back).prog 24).name = ("law" : PySem.Str) := by as_aux_lemma => kernel_rfl
      rw [← e]
      exact hmg0
    obtain ⟨fd, sp, e1, e2, e3, e4⟩ := Mi.law_all (P := (PySem.Challenge.rw_partworld_k81_whole_there_and_back).prog) (w := w) (p := Law.pt) (ts := HT.tups) ⟨He.SaysT.d c.t, c.more⟩ KX G Law.chkd 40 63 (i := Law.ptf.getD 18 ⟨"", "", [], ⟨0, 0, []⟩⟩) (x := "_law_script") (by as_aux_lemma => kernel_rfl) (by as_aux_lemma => kernel_rfl) Law.holds
    rw [hmg] at e1
    obtain rfl : fa = He.ga K ("law" : PySem.Str) := PySem.Value.ref.inj (Option.some.inj e1)
    exact ⟨K, fd, sp, KX, e2, e3, e4⟩

