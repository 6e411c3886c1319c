import PyProof.Rows.All
import Wide.All
import OpenK.AllK
import Wide.FinOn
import PySem.Syntax
import PyProof.P3Statements
import PyProof.ReprReads
import KE.KeyNested
import HandS.ForMost
import HandS.Exc
import HandS.WordsExc
import HandS.ExcInit
import HandS.Flow
import HandS.Style
import HandS.IsInst
import HandS.TupAny
import HandS.TupMul
import HandS.TryMany
import HandS.ExcCtx
import HandS.Hot
import HandS.RaiseMore
import KE.KDictWalk
import HandS.Text
import HandS.Deep
import PyProof.NeKinds
import KE.SortData
import KE.KDictSum
import PyProof.Rows.TupTab
import PyProof.DictRoadsH
import HandS.ExcValue
import PySem.Eval
import HandS.Comp
import HandS.Dict
import HandS.ExcSuper
import HandS.Ends
import KE.KExcSuper
import HandS.ExcIs
import HandS.ExcField
import KE.KExcIs
import HandS.Words
import HandS.Codes
import PyProof.ReprLen
import PyProof.PureStr
import PySem.Challenge.RW_lettersgone_k01_what_is_no_name_no_sayin
set_option Elab.async false
set_option linter.all false
set_option maxRecDepth 100000
/-! LG1: plain data, a store, results; the operations by values. -/
namespace LG
open PySem

abbrev Cs := List Nat
inductive D where
  | non | bl (b : Bool) | int (i : Int) | str (s : Cs) | tup (xs : List D) | ref (n : Nat) | kl (xs : List D)
  deriving Inhabited
inductive MO where
  | lst (xs : List D) | dct (kvs : List (D × D)) | exc (c : Nat) (v : D) | box (kvs : List (D × D))
  deriving Inhabited
abbrev Sto := List MO
abbrev Fr := List (Option D)
inductive Res (α : Type) where
  | ok (a : α) (s : Sto) | err (c : Nat) (v : D) (s : Sto) | bad
abbrev M (α : Type) := Sto → Res α
@[reducible] def LIM : Nat := 16777216

section
variable {α β : Type}
@[inline] def ret (a : α) : M α := fun s => .ok a s
@[inline] def bnd (m : M α) (f : α → M β) : M β := fun s => match m s with
  | .ok a s' => f a s'
  | .err c v s' => .err c v s'
  | .bad => .bad
@[inline] def opt (o : Option α) : M α := fun s => match o with
  | some a => .ok a s
  | none => .bad
def noErr (m : M α) : M α := fun s => match m s with
  | .ok a s' => .ok a s'
  | _ => .bad
end
def alloc (o : MO) : M D := fun s => .ok (.ref s.length) (s ++ [o])

/-! ### data, lists looked through -/
def allO {α β : Type} (f : α → Option β) : List α → Option (List β)
  | [] => some []
  | x :: xs => match f x with
    | some y => match allO f xs with
      | some ys => some (y :: ys)
      | none => none
    | none => none
def toPD (st : Sto) : Nat → D → Option PyData
  | _, .non => some .none
  | _, .bl b => some (.bool b)
  | _, .int i => some (.int i)
  | _, .str s => if s.all (fun c => decide (c < 1114112)) then some (.str ⟨s.toArray⟩) else none
  | _, .kl _ => none
  | 0, _ => none
  | n + 1, .tup xs => match allO (toPD st n) xs with
    | some ys => some (.tuple ys)
    | none => none
  | n + 1, .ref a => match st[a]? with
    | some (.lst xs) => match allO (toPD st n) xs with
      | some ys => some (.list ys)
      | none => none
    | _ => none

/-! ### sequences -/
def sIx (n d : Nat) : Option Int → Nat
  | none => d
  | some v => if v < 0 then (v + (n : Int)).toNat else min v.toNat n
def cut {α : Type} (xs : List α) (lo hi : Option Int) : List α := (xs.drop (sIx xs.length 0 lo)).take (sIx xs.length xs.length hi - sIx xs.length 0 lo)
def ixN (n : Nat) (i : Int) : Option Nat := if 0 ≤ i then (if i < n then some i.toNat else none) else if -(n : Int) ≤ i then some (i + n).toNat else none
def atI {α : Type} (xs : List α) (i : Int) : Option α := (ixN xs.length i).bind fun j => xs[j]?

/-- the items of a sequence that stands -/
def seqOf (st : Sto) : D → Option (List D)
  | .tup xs => some xs
  | .kl xs => some xs
  | .ref n => match st[n]? with
    | some (.lst xs) => some xs
    | _ => none
  | _ => none
def lstOf (st : Sto) (n : Nat) : Option (List D) := match st[n]? with
  | some (.lst xs) => some xs
  | _ => none

/-! ### truth, length -/
def truth (st : Sto) : D → Option Bool
  | .kl xs => some (!xs.isEmpty)
  | .non => some false
  | .bl b => some b
  | .int i => some (i != 0)
  | .str s => if s.length ≤ LIM then some (!s.isEmpty) else none
  | .tup xs => some (!xs.isEmpty)
  | .ref n => match st[n]? with
    | some (.lst xs) => some (!xs.isEmpty)
    | _ => none
def lenO (st : Sto) : D → Option Nat
  | .str s => if s.length ≤ LIM then some s.length else none
  | .tup xs => some xs.length
  | .ref n => match st[n]? with
    | some (.lst xs) => some xs.length
    | _ => none
  | _ => none

/-! ### == and < -/
def eqO (st : Sto) (a b : D) : Option Bool := match toPD st 60 a, toPD st 60 b with
  | some x, some y => some (PyData.eqv x y)
  | _, _ => none
/-- x in ys -/
def inO (st : Sto) (x : D) (ys : List D) : Option Bool := match toPD st 60 x, allO (toPD st 59) ys with
  | some p, some qs => some (qs.any fun q => PyData.eqv q p)
  | _, _ => none
def ltL : Cs → Cs → Bool
  | _, [] => false
  | [], _ :: _ => true
  | a :: as, b :: bs => decide (a < b) || (a == b && ltL as bs)
mutual
/-- x < y for data, where Python tells it -/
def ltP : PyData → PyData → Option Bool
  | .int a, .int b => some (decide (a < b))
  | .bool a, .bool b => some (!a && b)
  | .str a, .str b => some (ltL a.cps.toList b.cps.toList)
  | .tuple xs, .tuple ys => ltPs xs ys
  | _, _ => none
def ltPs : List PyData → List PyData → Option Bool
  | _, [] => some false
  | [], _ :: _ => some true
  | x :: xs, y :: ys => if PyData.eqv x y then ltPs xs ys else ltP x y
end
def ltO (st : Sto) (a b : D) : Option Bool := match toPD st 60 a, toPD st 60 b with
  | some x, some y => ltP x y
  | _, _ => none
def occ (sub s : Cs) : Bool := match s with
  | [] => sub.isEmpty
  | c :: r => sub.isPrefixOf (c :: r) || occ sub r

/-! ### operators by values -/
abbrev Op2 := D → D → M D
def opAdd : Op2 := fun a b s => match a, b with
  | .int i, .int j => .ok (.int (i + j)) s
  | .str x, .str y => if x.length + y.length ≤ LIM then .ok (.str (x ++ y)) s else .bad
  | .tup xs, .tup ys => if xs.length + ys.length ≤ LIM then .ok (.tup (xs ++ ys)) s else .bad
  | .ref n, .ref m => match s[n]?, s[m]? with
    | some (.lst xs), some (.lst ys) => if xs.length + ys.length ≤ LIM then alloc (.lst (xs ++ ys)) s else .bad
    | _, _ => .bad
  | _, _ => .bad
def opAddI : Op2 := fun a b s => match a, b with
  | .int i, .int j => .ok (.int (i + j)) s
  | _, _ => .bad
def opSub : Op2 := fun a b s => match a, b with
  | .int i, .int j => .ok (.int (i - j)) s
  | _, _ => .bad
def opMul : Op2 := fun a b s => match a, b with
  | .int i, .int j => if (-(2 ^ 64) < i ∧ i < 2 ^ 64) ∨ (-(2 ^ 64) < j ∧ j < 2 ^ 64) then .ok (.int (i * j)) s else .bad
  | .ref n, .int k => match s[n]? with
    | some (.lst xs) => if 0 ≤ k ∧ k ≤ 1000 ∧ xs.length ≤ 1000 then alloc (.lst (List.replicate k.toNat xs).flatten) s else .bad
    | _ => .bad
  | .tup xs, .int k => if xs ≠ [] ∧ 2 ≤ k ∧ k ≤ 1000 ∧ xs.length ≤ 1000 then .ok (.tup (List.replicate k.toNat xs).flatten) s else .bad
  | _, _ => .bad
def opFdiv : Op2 := fun a b s => match a, b with
  | .int i, .int j => if j ≠ 0 ∧ j.natAbs < 1073741824 then .ok (.int (i.fdiv j)) s else .bad
  | _, _ => .bad
def opMod : Op2 := fun a b s => match a, b with
  | .int i, .int j => if j ≠ 0 then .ok (.int (i.fmod j)) s else .bad
  | _, _ => .bad
def opPow : Op2 := fun a b s => match a, b with
  | .int i, .int j => if 0 ≤ j ∧ j ≤ 1000000 ∧ i.natAbs < 2 ^ 64 then .ok (.int (i ^ j.toNat)) s else .bad
  | _, _ => .bad
def opShl : Op2 := fun a b s => match a, b with
  | .int i, .int j => if 0 ≤ j ∧ j ≤ 1000000 ∧ i.natAbs < 2 ^ 64 then .ok (.int (i * 2 ^ j.toNat)) s else .bad
  | _, _ => .bad
def opShr : Op2 := fun a b s => match a, b with
  | .int i, .int j => if 0 ≤ j then .ok (.int (i / 2 ^ j.toNat)) s else .bad
  | _, _ => .bad
def opBand : Op2 := fun a b s => match a, b with
  | .int i, .int j => .ok (.int (Builtin.bitAnd i j)) s
  | _, _ => .bad
def opBor : Op2 := fun a b s => match a, b with
  | .int i, .int j => .ok (.int (Builtin.bitOr i j)) s
  | _, _ => .bad
def opNeg : D → M D := fun a s => match a with
  | .int i => .ok (.int (-i)) s
  | _ => .bad

def cmpEq : Op2 := fun a b s => match eqO s a b with
  | some k => .ok (.bl k) s
  | none => .bad
/-- pairs of a text and the very same object -/
def sameB : D → D → Bool
  | .tup [.str x, .ref n], .tup [.str y, .ref m] => x == y && n == m
  | _, _ => false
def cmpNe : Op2 := fun a b s => match eqO s a b with
  | some k => .ok (.bl (!k)) s
  | none => if sameB a b then .ok (.bl false) s else .bad
def cmpLt : Op2 := fun a b s => match ltO s a b with
  | some k => .ok (.bl k) s
  | none => .bad
def cmpLe : Op2 := fun a b s => match a, b with
  | .int i, .int j => .ok (.bl (decide (i ≤ j))) s
  | .str x, .str y => .ok (.bl (!ltL y x)) s
  | _, _ => .bad
def cmpGt : Op2 := fun a b s => match a, b with
  | .int i, .int j => .ok (.bl (decide (j < i))) s
  | _, _ => .bad
def cmpGe : Op2 := fun a b s => match a, b with
  | .int i, .int j => .ok (.bl (decide (j ≤ i))) s
  | _, _ => .bad
/-- is: of None, of truth values -/
def isO (s : Sto) : D → D → Option Bool
  | .non, .non => some true
  | .bl a, .bl b => some (a == b)
  | .non, _ => none
  | _, .non => some false
  | _, _ => none
def cmpIs : Op2 := fun a b s => match isO s a b with
  | some k => .ok (.bl k) s
  | none => .bad
def cmpIsNot : Op2 := fun a b s => match isO s a b with
  | some k => .ok (.bl (!k)) s
  | none => .bad
mutual
/-- the key that a datum is, up to == -/
def keyD : D → Option NestedKey
  | .non => some .none
  | .bl b => some (.num (if b = true then 1 else 0))
  | .int i => some (.num i)
  | .str x => some (.text ⟨x.toArray⟩)
  | .tup xs => match keyDs xs with
    | some ks => some (.tup ks)
    | none => none
  | _ => none
def keyDs : List D → Option (List NestedKey)
  | [] => some []
  | x :: xs => match keyD x with
    | some k => match keyDs xs with
      | some ks => some (k :: ks)
      | none => none
    | none => none
end
/-- the key of a tuple, not too deep -/
def keyT (d : D) : Option NestedKey := match keyD d with
  | some (.tup ks) => if (NestedKey.tup ks).depth ≤ 8 then some (.tup ks) else none
  | _ => none
def keyIs (k : NestedKey) (d : D) : Bool := match keyD d with
  | some y => NestedKey.beq y k
  | none => false
def dGet (k : NestedKey) (kvs : List (D × D)) : Option D := (kvs.find? fun p => keyIs k p.1).map (·.2)
/-- the pairs with k's value put -/
def dPut (k : NestedKey) (d v : D) (kvs : List (D × D)) : List (D × D) := if (dGet k kvs).isSome then kvs.map fun p => if keyIs k p.1 then (p.1, v) else p else kvs ++ [(d, v)]
def memO (s : Sto) (x : D) : D → Option Bool
  | .str y => match x with
    | .str [c] => some (decide (c ∈ y))
    | _ => none
  | .tup ys => inO s x ys
  | .ref n => match s[n]? with
    | some (.lst ys) => inO s x ys
    | some (.dct kvs) => (keyT x).map fun k => (dGet k kvs).isSome
    | _ => none
  | _ => none
def cmpIn : Op2 := fun a b s => match memO s a b with
  | some k => .ok (.bl k) s
  | none => .bad
def cmpNotIn : Op2 := fun a b s => match memO s a b with
  | some k => .ok (.bl (!k)) s
  | none => .bad

/-! ### subscripts -/
def idx : Op2 := fun a b s => match b with
  | .int i => match a with
    | .str x => if x.length ≤ LIM then (match atI x i with | some c => .ok (.str [c]) s | none => .bad) else .bad
    | .tup xs => match atI xs i with
      | some d => .ok d s
      | none => .bad
    | .ref n => match s[n]? with
      | some (.lst xs) => match atI xs i with
        | some d => .ok d s
        | none => .bad
      | _ => .bad
    | _ => .bad
  | .tup ys => match a with
    | .ref n => match s[n]? with
      | some (.dct kvs) => match keyT (.tup ys) with
        | some k => match dGet k kvs with
          | some d => .ok d s
          | none => .bad
        | none => .bad
      | _ => .bad
    | _ => .bad
  | _ => .bad
def slc (lo hi : Option Int) : D → M D := fun a s => match a with
  | .str x => if x.length ≤ LIM then .ok (.str (cut x lo hi)) s else .bad
  | .tup xs => .ok (.tup (cut xs lo hi)) s
  | .ref n => match s[n]? with
    | some (.lst xs) => alloc (.lst (cut xs lo hi)) s
    | _ => .bad
  | _ => .bad
def revS : D → M D := fun a s => match a with
  | .ref n => match s[n]? with
    | some (.lst xs) => alloc (.lst xs.reverse) s
    | _ => .bad
  | _ => .bad
def setI (o i v : D) : M Unit := fun s => match o with
  | .ref n => match s[n]? with
    | some (.lst xs) => match i with
      | .int k => match ixN xs.length k with
        | some j => .ok () (s.set n (.lst (xs.set j v)))
        | none => .bad
      | _ => .bad
    | some (.dct kvs) => match keyT i with
      | some k => if kvs.length < LIM then .ok () (s.set n (.dct (dPut k i v kvs))) else .bad
      | none => .bad
    | _ => .bad
  | _ => .bad

/-! ### built-in functions -/
abbrev Fn := List D → M D
def bLen : Fn := fun a s => match a with
  | [x] => match lenO s x with
    | some n => .ok (.int n) s
    | none => .bad
  | _ => .bad
def bInt : Fn := fun a s => match a with
  | [.int i] => .ok (.int i) s
  | [.bl b] => .ok (.int (if b then 1 else 0)) s
  | _ => .bad
def bList : Fn := fun a s => match a with
  | [x] => match seqOf s x with
    | some xs => alloc (.lst xs) s
    | none => .bad
  | _ => .bad
def bTuple : Fn := fun a s => match a with
  | [.tup xs] => .ok (.tup xs) s
  | [.ref n] => match s[n]? with
    | some (.lst xs) => .ok (.tup xs) s
    | _ => .bad
  | _ => .bad
def blsOf : List D → Option (List Bool)
  | [] => some []
  | .bl b :: r => (blsOf r).map (b :: ·)
  | _ => none
def intsOf : List D → Option (List Int)
  | [] => some []
  | .int b :: r => (intsOf r).map (b :: ·)
  | _ => none
def lstArg (s : Sto) : List D → Option (List D)
  | [.ref n] => match s[n]? with
    | some (.lst xs) => some xs
    | _ => none
  | _ => none
def bAll : Fn := fun a s => match (lstArg s a).bind blsOf with
  | some bs => .ok (.bl (bs.all id)) s
  | none => .bad
def bAny : Fn := fun a s => match (lstArg s a).bind blsOf with
  | some bs => .ok (.bl (bs.any id)) s
  | none => .bad
def bSum : Fn := fun a s => match (lstArg s a).bind intsOf with
  | some ns => .ok (.int ns.sum) s
  | none => .bad
def maxI : Int → List Int → Int
  | m, [] => m
  | m, x :: r => maxI (if m < x then x else m) r
def minI : Int → List Int → Int
  | m, [] => m
  | m, x :: r => minI (if x < m then x else m) r
def bMax : Fn := fun a s => match a with
  | [.int i, .int j] => .ok (.int (if j > i then j else i)) s
  | _ => match (lstArg s a).bind intsOf with
    | some (m :: r) => .ok (.int (maxI m r)) s
    | _ => .bad
def bMin : Fn := fun a s => match a with
  | [.int i, .int j] => .ok (.int (if j < i then j else i)) s
  | _ => match (lstArg s a).bind intsOf with
    | some (m :: r) => .ok (.int (minI m r)) s
    | _ => .bad
def digits : Nat → Nat → Cs → Cs
  | 0, _, acc => acc
  | f + 1, n, acc => if n < 10 then (48 + n) :: acc else digits f (n / 10) ((48 + n % 10) :: acc)
def bStr : Fn := fun a s => match a with
  | [.int i] => if 0 ≤ i ∧ i < 1000000000000000000 then .ok (.str (digits 20 i.toNat [])) s else .bad
  | _ => .bad

/-- a stable sort by < -/
def insD (lt : PyData → PyData → Bool) (x : PyData × D) : List (PyData × D) → List (PyData × D)
  | [] => [x]
  | y :: r => if lt y.1 x.1 then y :: insD lt x r else x :: y :: r
def sortD (lt : PyData → PyData → Bool) : List (PyData × D) → List (PyData × D)
  | [] => []
  | x :: r => insD lt x (sortD lt r)
def allCmp (x : PyData) : List PyData → Bool
  | [] => true
  | y :: r => (ltP x y).isSome && (ltP y x).isSome && allCmp x r
def allCmps : List PyData → Bool
  | [] => true
  | x :: r => (ltP x x).isSome && allCmp x r && allCmps r
/-- the kind of a key, as sorting looks at it -/
def tagP : PyData → Nat
  | .none => 0 | .bool _ => 1 | .int _ => 2 | .str _ => 3 | .list _ => 4 | .tuple _ => 5 | .dict _ => 6
def headTag : PyData → Nat
  | .tuple (x :: _) => 10 + tagP x
  | p => tagP p
/-- all keys are tuples with first items of one kind, or all are of one plain kind -/
def kindOk : List PyData → Bool
  | [] => true
  | p :: r => (decide (1 ≤ headTag p ∧ headTag p ≤ 3) || decide (11 ≤ headTag p ∧ headTag p ≠ 14)) && r.all fun q => headTag q == headTag p
def ltB (x y : PyData) : Bool := (ltP x y).getD false
def sortO (st : Sto) (xs : List D) : Option (List D) := match allO (toPD st 60) xs with
  | some ps => if allCmps ps && kindOk ps then some ((sortD ltB (ps.zip xs)).map (·.2)) else none
  | none => none
/-- sorted of a list; of a dict: its keys -/
def bSorted : Fn := fun a s => match a with
  | [.ref n] => match s[n]? with
    | some (.lst xs) => match sortO s xs with
      | some ys => alloc (.lst ys) s
      | none => .bad
    | some (.dct kvs) => match sortO s (kvs.map (·.1)) with
      | some ys => alloc (.lst ys) s
      | none => .bad
    | _ => .bad
  | _ => .bad
/-- sorted(set(x)): each once -/
def nubP : List (PyData × D) → List (PyData × D)
  | [] => []
  | x :: r => if (nubP r).any fun y => PyData.eqv y.1 x.1 then nubP r else x :: nubP r
def nubO (st : Sto) (xs : List D) : Option (List D) := match allO (toPD st 60) xs with
  | some ps => some ((nubP (ps.zip xs)).map (·.2))
  | none => none
def bSortedSet : Fn := fun a s => match a with
  | [x] => match seqOf s x with
    | some xs => match nubO s xs with
      | some ys => match sortO s ys with
        | some zs => alloc (.lst zs) s
        | none => .bad
      | none => .bad
    | none => .bad
  | _ => .bad

/-! ### repr -/
def cpS (s : String) : Cs := s.toList.map Char.toNat
/-- of plain texts: letters that repr leaves as they are, no ' and no \ in them -/
def plainC (c : Nat) : Bool := 32 ≤ c && c ≤ 126 && c != 39 && c != 92
/-! ### isinstance -/
inductive Ty where
  | int | bool | str | tuple | list | dict | cls (c : Nat)
  deriving DecidableEq
inductive TK where
  | non | bl | int | str | tup | lst | dct
def tyD (s : Sto) : D → Option TK
  | .kl _ => none
  | .non => some .non
  | .bl _ => some .bl
  | .int _ => some .int
  | .str _ => some .str
  | .tup _ => some .tup
  | .ref n => match s[n]? with
    | some (.lst _) => some .lst
    | some (.box _) => some .dct
    | _ => none
def tkIs : Ty → TK → Bool
  | .int, .int => true
  | .int, .bl => true
  | .bool, .bl => true
  | .str, .str => true
  | .tuple, .tup => true
  | .list, .lst => true
  | .dict, .dct => true
  | _, _ => false
def excOf (s : Sto) : D → Option (Nat × D)
  | .ref n => match s[n]? with
    | some (.exc c v) => some (c, v)
    | _ => none
  | _ => none
def isinst (sub : Nat → Nat → Option Bool) (t : Ty) (s : Sto) (d : D) : Option Bool := match t with
  | .cls k => (excOf s d).bind fun p => sub p.1 k
  | t => (tyD s d).map (tkIs t)

/-! ### methods -/
abbrev Mt := D → List D → M D
def mAppend : Mt := fun o a s => match o, a with
  | .ref n, [x] => match s[n]? with
    | some (.lst xs) => if xs.length < LIM then .ok .non (s.set n (.lst (xs ++ [x]))) else .bad
    | _ => .bad
  | _, _ => .bad
def mExtend : Mt := fun o a s => match o, a with
  | .ref n, [.tup ys] => match s[n]? with
    | some (.lst xs) => if xs.length + ys.length ≤ LIM then .ok .non (s.set n (.lst (xs ++ ys))) else .bad
    | _ => .bad
  | .ref n, [.ref m] => match s[n]?, s[m]? with
    | some (.lst xs), some (.lst ys) => if xs.length + ys.length ≤ LIM then .ok .non (s.set n (.lst (xs ++ ys))) else .bad
    | _, _ => .bad
  | _, _ => .bad
def mPop : Mt := fun o a s => match o, a with
  | .ref n, [] => match s[n]? with
    | some (.lst xs) => match xs[xs.length - 1]? with
      | some y => .ok y (s.set n (.lst xs.dropLast))
      | none => .bad
    | _ => .bad
  | .ref n, [.int i] => match s[n]? with
    | some (.lst xs) => match ixN xs.length i with
      | some k => match xs[k]? with
        | some y => .ok y (s.set n (.lst (xs.eraseIdx k)))
        | none => .bad
      | none => .bad
    | _ => .bad
  | _, _ => .bad
def ixOf (p : PyData) : List PyData → Option Nat
  | [] => none
  | q :: qs => if PyData.eqv q p then some 0 else (ixOf p qs).map (· + 1)
def mIndex : Mt := fun o a s => match o, a with
  | .ref n, [x] => match s[n]? with
    | some (.lst xs) => match toPD s 60 x, allO (toPD s 59) xs with
      | some p, some qs => match ixOf p qs with
        | some k => .ok (.int k) s
        | none => .bad
      | _, _ => .bad
    | _ => .bad
  | _, _ => .bad

/-! ### expressions -/
abbrev EX := Fr → M D
abbrev AX := Fr → M (List D)
abbrev TX := Fr → M Bool
def eVar (i : Nat) : EX := fun f s => match f[i]? with
  | some (some d) => .ok d s
  | _ => .bad
def eC (d : D) : EX := fun _ s => .ok d s
def aNil : AX := fun _ s => .ok [] s
def aCons (e : EX) (r : AX) : AX := fun f => bnd (e f) fun x => bnd (r f) fun xs => ret (x :: xs)
def aApp (a b : AX) : AX := fun f => bnd (a f) fun xs => bnd (b f) fun ys => ret (xs ++ ys)
def eTup (a : AX) : EX := fun f => bnd (a f) fun xs s => if xs.length ≤ LIM then .ok (.tup xs) s else .bad
def eLst (a : AX) : EX := fun f => bnd (a f) fun xs s => if xs.length ≤ LIM then alloc (.lst xs) s else .bad
def eUn (o : D → M D) (a : EX) : EX := fun f => bnd (a f) o
def eBin (o : Op2) (a b : EX) : EX := fun f => bnd (a f) fun x => bnd (b f) fun y => o x y
def blM : D → M Bool := fun d s => match d with
  | .bl b => .ok b s
  | _ => .bad
/-- a o b p c: b once -/
def eChain (o p : Op2) (a b c : EX) : EX := fun f => bnd (a f) fun x => bnd (b f) fun y => bnd (o x y) fun z => bnd (blM z) fun k =>
  if k then bnd (c f) fun w => p y w else ret (.bl false)
def tVal (e : EX) : TX := fun f => bnd (e f) fun d s => match truth s d with
  | some b => .ok b s
  | none => .bad
def tAnd (a b : TX) : TX := fun f => bnd (a f) fun k => if k then b f else ret false
def tOr (a b : TX) : TX := fun f => bnd (a f) fun k => if k then ret true else b f
def tNot (a : TX) : TX := fun f => bnd (a f) fun k => ret (!k)
def eAnd (a b : EX) : EX := fun f => bnd (a f) fun x s => match truth s x with
  | some true => b f s
  | some false => .ok x s
  | none => .bad
def eOr (a b : EX) : EX := fun f => bnd (a f) fun x s => match truth s x with
  | some true => .ok x s
  | some false => b f s
  | none => .bad
def eNot (a : EX) : EX := fun f => bnd (a f) fun x s => match truth s x with
  | some b => .ok (.bl (!b)) s
  | none => .bad
def eIf (t : TX) (a b : EX) : EX := fun f => bnd (t f) fun k => if k then a f else b f
/-- a bound of a slice: none, or an int -/
def oNone : Fr → M (Option Int) := fun _ => ret none
def oSome (e : EX) : Fr → M (Option Int) := fun f => bnd (e f) fun d s => match d with
  | .int i => .ok (some i) s
  | _ => .bad
def eSlc (e : EX) (lo hi : Fr → M (Option Int)) : EX := fun f => bnd (e f) fun x => bnd (lo f) fun a => bnd (hi f) fun b => slc a b x
def eFn (g : Fn) (a : AX) : EX := fun f => bnd (a f) g
def isLst (s : Sto) : D → Bool
  | .ref n => match s[n]? with
    | some (.lst _) => true
    | _ => false
  | _ => false
def eMt (m : Mt) (o : EX) (a : AX) : EX := fun f => bnd (o f) fun x s => if isLst s x then bnd (a f) (fun xs => m x xs) s else .bad
def eIs (sub : Nat → Nat → Option Bool) (t : Ty) (e : EX) : EX := fun f => bnd (e f) fun d s => match isinst sub t s d with
  | some b => .ok (.bl b) s
  | none => .bad
def bRepr : Fn := fun a s => match a with
  | [d] => match toPD s 60 d with
    | some p => if p.showable = true ∧ p.shown.length ≤ LIM then .ok (.str p.shown.cps.toList) s else .bad
    | none => .bad
  | _ => .bad
/-- the value of a caught exception; n: the number of classes -/
def eFld (n : Nat) (e : EX) : EX := fun f => bnd (e f) fun d s => match d with
  | .ref m => match s[m]? with
    | some (.exc c v) => if c < n then .ok v s else .bad
    | _ => .bad
  | _ => .bad
def eDct : EX := fun _ s => alloc (.dct []) s
def eBox (k : Cs) (e : EX) : EX := fun f => bnd (e f) fun y s => alloc (.box [(.str k, y)]) s
/-! ### what is walked -/
inductive Itr where
  | lst (n : Nat) | tup (xs : List D) | rng (lo c : Int) (n : Nat) | enum (a : Itr) | zip (a b : Itr)
/-- at turn i: no answer; the end; an item -/
def nextI (s : Sto) : Itr → Nat → Option (Option D)
  | .lst n, i => match s[n]? with
    | some (.lst xs) => some xs[i]?
    | _ => none
  | .tup xs, i => some xs[i]?
  | .rng lo c n, i => some (if i < n then some (.int (lo + c * i)) else none)
  | .enum a, i => match nextI s a i with
    | some (some d) => some (some (.tup [.int i, d]))
    | some none => some none
    | none => none
  | .zip a b, i => match nextI s a i with
    | some (some x) => match nextI s b i with
      | some (some y) => some (some (.tup [x, y]))
      | some none => some none
      | none => none
    | some none => some none
    | none => none
abbrev IX := Fr → M Itr
def iSeq (e : EX) : IX := fun f => bnd (e f) fun d s => match d with
  | .tup xs => .ok (.tup xs) s
  | .ref n => match s[n]? with
    | some (.lst _) => .ok (.lst n) s
    | _ => .bad
  | _ => .bad
@[reducible] def RB : Int := 4611686018427387904
def rngOk (i : Int) : Bool := decide (-RB ≤ i) && decide (i < RB)
def iRng1 (e : EX) : IX := fun f => bnd (e f) fun d s => match d with
  | .int j => if rngOk j then .ok (.rng 0 1 j.toNat) s else .bad
  | _ => .bad
def iRng2 (e g : EX) : IX := fun f => bnd (e f) fun d => bnd (g f) fun d' s => match d, d' with
  | .int i, .int j => if rngOk i && rngOk j then .ok (.rng i 1 (j - i).toNat) s else .bad
  | _, _ => .bad
def iEnum (a : IX) : IX := fun f => bnd (a f) fun x => ret (.enum x)
def iZip (a b : IX) : IX := fun f => bnd (a f) fun x => bnd (b f) fun y => ret (.zip x y)

/-! ### targets -/
abbrev GX := D → Fr → Option Fr
def gVar (i : Nat) : GX := fun d f => some (f.set i (some d))
def gTups : List GX → List D → Fr → Option Fr
  | [], [], f => some f
  | g :: gs, d :: ds, f => match g d f with
    | some f' => gTups gs ds f'
    | none => none
  | _, _, _ => none
def gTup (gs : List GX) : GX := fun d f => match d with
  | .tup ds => gTups gs ds f
  | _ => none

/-! ### list comprehensions -/
def wipeF (f : Fr) : List Nat → Fr
  | [] => f
  | v :: vs => (wipeF f vs).set v none
@[reducible] def LF : Nat := 100000000
def lcI (it : Itr) (g : GX) (t : TX) (e : EX) (f : Fr) : Nat → Nat → List D → M (List D)
  | 0, _, _ => fun _ => .bad
  | n + 1, i, acc => fun s => match nextI s it i with
    | none => .bad
    | some none => .ok acc s
    | some (some d) => match g d f with
      | none => .bad
      | some f' => match t f' s with
        | .ok true s1 => match e f' s1 with
          | .ok y s2 => if acc.length < LIM then lcI it g t e f n (i + 1) (acc ++ [y]) s2 else .bad
          | _ => .bad
        | .ok false s1 => lcI it g t e f n (i + 1) acc s1
        | _ => .bad
def tTrue : TX := fun _ => ret true
def eLc (own : List Nat) (it : IX) (g : GX) (t : TX) (e : EX) : EX := fun f => bnd (it f) fun x => bnd (lcI x g t e (wipeF f own) LF 0 []) fun ys => alloc (.lst ys)

/-! ### statements -/
inductive SR where
  | next (f : Fr) (s : Sto) | ret (d : D) (s : Sto) | brk (f : Fr) (s : Sto) | cont (f : Fr) (s : Sto) | err (f : Fr) (c : Nat) (v : D) (s : Sto) | bad
abbrev SX := Fr → Sto → SR
def sLift {α : Type} (m : Fr → M α) (k : α → SX) : SX := fun f s => match m f s with
  | .ok a s' => k a f s'
  | .err c v s' => .err f c v s'
  | .bad => .bad
def sSkip : SX := fun f s => .next f s
def sSeq (a b : SX) : SX := fun f s => match a f s with
  | .next f' s' => b f' s'
  | r => r
def sBrk : SX := fun f s => .brk f s
def sCont : SX := fun f s => .cont f s
def sExpr (e : EX) : SX := sLift e fun _ f s => .next f s
def sRet (e : EX) : SX := sLift e fun d _ s => .ret d s
def sRetN : SX := fun _ s => .ret .non s
def sIf (t : TX) (a b : SX) : SX := sLift t fun k => if k then a else b
def sAsg (g : GX) (e : EX) : SX := sLift e fun d f s => match g d f with
  | some f' => .next f' s
  | none => .bad
/-- i, j, .. = values, stored from the right -/
def setAll : List Nat → List D → Fr → Option Fr
  | [], [], f => some f
  | i :: is, d :: ds, f => (setAll is ds f).map fun f' => f'.set i (some d)
  | _, _, _ => none
def sPar (is : List Nat) (a : AX) : SX := sLift a fun ds f s => match setAll is ds f with
  | some f' => .next f' s
  | none => .bad
def sSetI (o i e : EX) : SX := sLift (fun f => bnd (e f) fun v => bnd (o f) fun x => bnd (i f) fun k => setI x k v) fun _ f s => .next f s
def sAug (i : Nat) (o : Op2) (e : EX) : SX := sLift (eBin o (eVar i) e) fun d f s => .next (f.set i (some d)) s
def forI (it : Itr) (g : GX) (b : SX) : Nat → Nat → SX
  | 0, _, _, _ => .bad
  | n + 1, i, f, s => match nextI s it i with
    | none => .bad
    | some none => .next f s
    | some (some d) => match g d f with
      | none => .bad
      | some f1 => match b f1 s with
        | .next f2 s2 => forI it g b n (i + 1) f2 s2
        | .cont f2 s2 => forI it g b n (i + 1) f2 s2
        | .brk f2 s2 => .next f2 s2
        | r => r
def sFor (it : IX) (g : GX) (b : SX) : SX := sLift it fun x => forI x g b LF 0
def whileI (t : TX) (b : SX) : Nat → SX
  | 0, _, _ => .bad
  | n + 1, f, s => match t f s with
    | .ok true s1 => match b f s1 with
      | .next f2 s2 => whileI t b n f2 s2
      | .cont f2 s2 => whileI t b n f2 s2
      | .brk f2 s2 => .next f2 s2
      | r => r
    | .ok false s1 => .next f s1
    | .err c v s1 => .err f c v s1
    | .bad => .bad
def sWhile (t : TX) (b : SX) : SX := whileI t b LF
def sRaise (c : Nat) (e : EX) : SX := fun f s => match e f s with
  | .ok v s' => .err f c v s'
  | .err c v s' => .err f c v s'
  | .bad => .bad
/-- the clauses: a class, the slot of its name, its suite -/
def hands (sub : Nat → Nat → Option Bool) : List (Nat × Option Nat × SX) → Fr → Nat → D → Sto → SR
  | [], f, c, v, s => .err f c v s
  | (k, sl, b) :: r, f, c, v, s => match sub c k with
    | some true => match sl with
      | none => (match b f s with | .next f' s' => .next f' s' | .ret d s' => .ret d s' | .cont f' s' => .cont f' s' | _ => .bad)
      | some i => match b (f.set i (some (.ref s.length))) (s ++ [.exc c v]) with
        | .next f' s' => .next (f'.set i none) s'
        | .ret d s' => .ret d s'
        | _ => .bad
    | some false => hands sub r f c v s
    | none => .bad
def sTry (sub : Nat → Nat → Option Bool) (b : SX) (hs : List (Nat × Option Nat × SX)) : SX := fun f s => match b f s with
  | .err f' c v s' => hands sub hs f' c v s'
  | r => r

/-! ### calls -/
abbrev Call := Nat → List D → M D
def eCall (call : Call) (i : Nat) (a : AX) : EX := fun f => bnd (a f) fun xs => call i xs
def fnRes (r : SR) : Res D := match r with
  | .next _ s => .ok .non s
  | .ret d s => .ok d s
  | .err _ c v s => .err c v s
  | _ => .bad
structure DefI where
  ps : Nat
  N : Nat
  body : Call → SX
def runF (defs : List DefI) : Nat → Call
  | 0, _, _ => fun _ => .bad
  | k + 1, i, ds => fun s => match defs[i]? with
    | some d => if ds.length = d.ps then fnRes (d.body (runF defs k) (ds.map some ++ List.replicate (d.N - ds.length) none) s) else .bad
    | none => .bad
end LG
set_option Elab.async false
set_option linter.all false
set_option maxRecDepth 100000
/-! LG2: how data, store and frames stand in the abstract heap. -/
namespace LG
open PySem PySem.Spec PyProof.Rows L2

/-- a tuple that never changes: tracked, or of the written part -/
def TupAt (K : PySem.W.Frag) (H : Hp) (a : Addr) (xs : List V) : Prop :=
  H a = some (.tup xs) ∨
    ∃ (o : Obj) (its : Array Value) (n : Nat), K.lookup a = some o ∧ o.cls = .type "tuple" ∧ o.data = .seq its n ∧ its.size ≤ sizeLine ∧ Vals xs its.toList
theorem TupAt.sq {K : PySem.W.Frag} {H : Hp} {a : Addr} {xs : List V} (h : TupAt K H a xs) : SqT K H a xs := by
  rcases h with h | h
  · exact .inl (.inl h)
  · exact .inr h

/-- a list that never changes: locked, or of the written part -/
def KlAt (K : PySem.W.Frag) (H : Hp) (a : Addr) (xs : List V) : Prop :=
  (∃ o, H a = some (.frz o (.lst xs))) ∨
    ∃ (o : Obj) (its : Array Value) (n : Nat), K.lookup a = some o ∧ o.cls = .type "list" ∧ o.dict = none ∧ o.data = .seq its n ∧ its.size ≤ sizeLine ∧ Vals xs its.toList
theorem KlAt.sq {K : PySem.W.Frag} {H : Hp} {a : Addr} {xs : List V} (h : KlAt K H a xs) : SqL K H a xs := by
  rcases h with ⟨o, h⟩ | h
  · exact .inl (.inr ⟨o, h⟩)
  · exact .inr h

mutual
inductive RV (K : PySem.W.Frag) (μ : List Addr) (H : Hp) : V → D → Prop
  | non : RV K μ H .non .non
  | bl (b : Bool) : RV K μ H (.bl b) (.bl b)
  | int (i : Int) : RV K μ H (.int i) (.int i)
  | str (x : Str) : RV K μ H (.str x) (.str x.cps.toList)
  | tup {a : Addr} {vs : List V} {ds : List D} : TupAt K H a vs → RVs K μ H vs ds → RV K μ H (.ref a) (.tup ds)
  | ref {a : Addr} {n : Nat} : μ[n]? = some a → RV K μ H (.ref a) (.ref n)
  | kl {a : Addr} {vs : List V} {ds : List D} : KlAt K H a vs → RVs K μ H vs ds → RV K μ H (.ref a) (.kl ds)
inductive RVs (K : PySem.W.Frag) (μ : List Addr) (H : Hp) : List V → List D → Prop
  | nil : RVs K μ H [] []
  | cons {v : V} {d : D} {vs : List V} {ds : List D} : RV K μ H v d → RVs K μ H vs ds → RVs K μ H (v :: vs) (d :: ds)
end

/-- the dict of an exception: its value -/
abbrev valF : Str := Str.ofString "value"
/-- an exception that was caught, at a, its own dict at d; its context is None -/
def excO (a C d : Addr) : HO := .ext fun h => ∃ (o : Obj) (vs : Array Value), h.get? a = some o ∧ o.cls = .ref C ∧ o.dict = some d ∧ o.data = .fields vs ∧ vs[2]? = some .none
theorem excO_ne_lst {a C d : Addr} {vs : List V} : excO a C d ≠ .lst vs := fun z => by
  have z' : HO.ext _ = HO.lst vs := z
  cases z'
theorem excO_ne_xd {a C d : Addr} {fs : List (Str × V)} : excO a C d ≠ .xd fs := fun z => by
  have z' : HO.ext _ = HO.xd fs := z
  cases z'
theorem excO_ne_tup {a C d : Addr} {fs : List V} : excO a C d ≠ .tup fs := fun z => by
  have z' : HO.ext _ = HO.tup fs := z
  cases z'

/-- an entry of a dict whose keys are tuples -/
def entN (w : World) (x : NestedKey × Addr × Value) : DictEntry := ⟨x.1.hash w, .ref x.2.1, x.2.2⟩
/-- a dict whose keys are tuples, nested -/
def dctO (w : World) (a : Addr) (xs : List (NestedKey × Addr × Value)) : HO := .ext fun h => ∃ ep, PySem.Heap.DictRaw h a (xs.map (entN w)).toArray ep
theorem dctO_ne_lst {w : World} {a : Addr} {xs : List (NestedKey × Addr × Value)} {vs : List V} : dctO w a xs ≠ .lst vs := fun z => by
  have z' : HO.ext _ = HO.lst vs := z
  cases z'
theorem dctO_ne_tup {w : World} {a : Addr} {xs : List (NestedKey × Addr × Value)} {vs : List V} : dctO w a xs ≠ .tup vs := fun z => by
  have z' : HO.ext _ = HO.tup vs := z
  cases z'
theorem dctO_ne_frz {w : World} {a : Addr} {xs : List (NestedKey × Addr × Value)} {o : Obj} {u : HO} : dctO w a xs ≠ .frz o u := fun z => by
  have z' : HO.ext _ = HO.frz o u := z
  cases z'
theorem dctO_ne_xd {w : World} {a : Addr} {xs : List (NestedKey × Addr × Value)} {fs : List (Str × V)} : dctO w a xs ≠ .xd fs := fun z => by
  have z' : HO.ext _ = HO.xd fs := z
  cases z'
theorem heap_at : ∀ n : Nat, ∃ h : Heap, h.objs.size = n
  | 0 => ⟨{ objs := #[] }, rfl⟩
  | n + 1 => let ⟨h, e⟩ := heap_at n; ⟨h.push { cls := .none, data := .fields #[] }, by rw [Heap.size_push, e]⟩
theorem dctO_ne_exc {w : World} {a C d : Addr} {xs : List (NestedKey × Addr × Value)} : dctO w a xs ≠ excO a C d := fun z => by
  have z' : (HO.ext fun h => ∃ ep, PySem.Heap.DictRaw h a (xs.map (entN w)).toArray ep) = HO.ext _ := z
  obtain ⟨h, rfl⟩ := heap_at a
  have q := congrFun (HO.ext.inj z') (h.push { cls := .type "dict", data := .dict (xs.map (entN w)).toArray 0 })
  have y : ∃ ep, PySem.Heap.DictRaw (h.push { cls := .type "dict", data := .dict (xs.map (entN w)).toArray 0 }) h.objs.size (xs.map (entN w)).toArray ep := ⟨0, _, Heap.get?_push_size _ rfl, ⟨rfl, rfl, rfl⟩, rfl⟩
  rw [q] at y
  obtain ⟨o, vs, h1, h2, _⟩ := y
  rw [Heap.get?_push_size _ rfl] at h1
  cases h1
  cases h2
structure Mono0 (K : PySem.W.Frag) (μ : List Addr) (H : Hp) (μ' : List Addr) (H' : Hp) : Prop where
  ix : ∀ (n : Nat) (a : Addr), μ[n]? = some a → μ'[n]? = some a
  tup : ∀ a xs, H a = some (.tup xs) → H' a = some (.tup xs)
  frz : ∀ a o u, H a = some (.frz o u) → H' a = some (.frz o u)
structure Mono (K : PySem.W.Frag) (μ : List Addr) (H : Hp) (μ' : List Addr) (H' : Hp) : Prop where
  ix : ∀ (n : Nat) (a : Addr), μ[n]? = some a → μ'[n]? = some a
  tup : ∀ a xs, H a = some (.tup xs) → H' a = some (.tup xs)
  frz : ∀ a o u, H a = some (.frz o u) → H' a = some (.frz o u)
  keep : ∀ a, a ∉ μ → H a ≠ none → H' a = H a
  new : ∀ a, a ∈ μ' → a ∉ μ → H a = none
  exc : ∀ a C d, H a = some (excO a C d) → H' a = some (excO a C d)
theorem Mono.m0 {K : PySem.W.Frag} {μ : List Addr} {H : Hp} {μ' : List Addr} {H' : Hp} (m : Mono K μ H μ' H') : Mono0 K μ H μ' H' := ⟨m.ix, m.tup, m.frz⟩
theorem Mono.refl {K : PySem.W.Frag} {μ : List Addr} {H : Hp} : Mono K μ H μ H := ⟨fun _ _ h => h, fun _ _ h => h, fun _ _ _ h => h, fun _ _ _ => rfl, fun _ h n => absurd h n, fun _ _ _ h => h⟩
theorem Mono.trans {K : PySem.W.Frag} {μ μ1 μ2 : List Addr} {H H1 H2 : Hp} (a : Mono K μ H μ1 H1) (b : Mono K μ1 H1 μ2 H2) : Mono K μ H μ2 H2 := by
  refine ⟨fun n x h => b.ix n x (a.ix n x h), fun x xs h => b.tup x xs (a.tup x xs h), fun x o u h => b.frz x o u (a.frz x o u h), fun x h n => ?_, fun x h n => ?_, fun x C d h => b.exc x C d (a.exc x C d h)⟩
  · have e1 := a.keep x h n
    have h1 : x ∉ μ1 := fun z => n (a.new x z h)
    rw [b.keep x h1 (by rw [e1]; exact n), e1]
  · by_cases z : x ∈ μ1
    · exact a.new x z n
    · have e2 := b.new x h z
      by_cases q : H x = none
      · exact q
      · rw [a.keep x n q] at e2; exact e2
section
variable {K : PySem.W.Frag} {μ μ' : List Addr} {H H' : Hp}
theorem TupAt.mono0 {a : Addr} {xs : List V} (h : TupAt K H a xs) (m : Mono0 K μ H μ' H') : TupAt K H' a xs := by
  rcases h with h | h
  · exact .inl (m.tup _ _ h)
  · exact .inr h
theorem KlAt.mono0 {a : Addr} {xs : List V} (h : KlAt K H a xs) (m : Mono0 K μ H μ' H') : KlAt K H' a xs := by
  rcases h with ⟨o, h⟩ | h
  · exact .inl ⟨o, m.frz _ _ _ h⟩
  · exact .inr h
mutual
theorem RV.mono0 (m : Mono0 K μ H μ' H') : ∀ {v : V} {d : D}, RV K μ H v d → RV K μ' H' v d
  | _, _, .non => .non
  | _, _, .bl b => .bl b
  | _, _, .int i => .int i
  | _, _, .str x => .str x
  | _, _, .tup h r => .tup (h.mono0 m) (RVs.mono0 m r)
  | _, _, .ref h => .ref (m.ix _ _ h)
  | _, _, .kl h r => .kl (h.mono0 m) (RVs.mono0 m r)
theorem RVs.mono0 (m : Mono0 K μ H μ' H') : ∀ {vs : List V} {ds : List D}, RVs K μ H vs ds → RVs K μ' H' vs ds
  | _, _, .nil => .nil
  | _, _, .cons r rs => .cons (RV.mono0 m r) (RVs.mono0 m rs)
end
theorem RV.mono (m : Mono K μ H μ' H') {v : V} {d : D} (r : RV K μ H v d) : RV K μ' H' v d := RV.mono0 m.m0 r
theorem RVs.mono (m : Mono K μ H μ' H') {v : List V} {d : List D} (r : RVs K μ H v d) : RVs K μ' H' v d := RVs.mono0 m.m0 r
theorem RVs.length : ∀ {vs : List V} {ds : List D}, RVs K μ H vs ds → vs.length = ds.length
  | _, _, .nil => rfl
  | _, _, .cons _ t => by simp [RVs.length t]
theorem RVs.get : ∀ {vs : List V} {ds : List D} {i : Nat} {d : D}, RVs K μ H vs ds → ds[i]? = some d → ∃ v, vs[i]? = some v ∧ RV K μ H v d
  | _, _, _, _, .nil, e => by simp at e
  | _, _, 0, _, .cons r _, e => by simp at e; subst e; exact ⟨_, rfl, r⟩
  | _, _, i + 1, d, .cons _ t, e => by
    obtain ⟨u, h1, h2⟩ := RVs.get (i := i) (d := d) t (by simpa using e)
    exact ⟨u, by simpa using h1, h2⟩
theorem RVs.get' : ∀ {vs : List V} {ds : List D} {i : Nat} {v : V}, RVs K μ H vs ds → vs[i]? = some v → ∃ d, ds[i]? = some d ∧ RV K μ H v d
  | _, _, _, _, .nil, e => by simp at e
  | _, _, 0, _, .cons r _, e => by simp at e; subst e; exact ⟨_, rfl, r⟩
  | _, _, i + 1, d, .cons _ t, e => by
    obtain ⟨u, h1, h2⟩ := RVs.get' (i := i) (v := d) t (by simpa using e)
    exact ⟨u, by simpa using h1, h2⟩
theorem RVs.set {x : V} {u : D} (r : RV K μ H x u) : ∀ {xs : List V} {us : List D} (i : Nat), RVs K μ H xs us → RVs K μ H (xs.set i x) (us.set i u)
  | _, _, _, .nil => .nil
  | _, _, 0, .cons _ t => .cons r t
  | _, _, i + 1, .cons q t => .cons q (RVs.set r i t)
theorem RVs.append : ∀ {xs ys : List V} {us ws : List D}, RVs K μ H xs us → RVs K μ H ys ws → RVs K μ H (xs ++ ys) (us ++ ws)
  | _, _, _, _, .nil, s => s
  | _, _, _, _, .cons r t, s => .cons r (RVs.append t s)
theorem RVs.take : ∀ {xs : List V} {us : List D} (n : Nat), RVs K μ H xs us → RVs K μ H (xs.take n) (us.take n)
  | _, _, 0, _ => .nil
  | _, _, _ + 1, .nil => .nil
  | _, _, n + 1, .cons r t => .cons r (RVs.take n t)
theorem RVs.drop : ∀ {xs : List V} {us : List D} (n : Nat), RVs K μ H xs us → RVs K μ H (xs.drop n) (us.drop n)
  | _, _, 0, r => r
  | _, _, _ + 1, .nil => .nil
  | _, _, n + 1, .cons _ t => RVs.drop n t
theorem RVs.eraseIdx : ∀ {xs : List V} {us : List D} (n : Nat), RVs K μ H xs us → RVs K μ H (xs.eraseIdx n) (us.eraseIdx n)
  | _, _, _, .nil => .nil
  | _, _, 0, .cons _ t => t
  | _, _, n + 1, .cons r t => .cons r (RVs.eraseIdx n t)
theorem RVs.reverse : ∀ {xs : List V} {us : List D}, RVs K μ H xs us → RVs K μ H xs.reverse us.reverse
  | _, _, .nil => .nil
  | _, _, .cons r t => by
    rw [List.reverse_cons, List.reverse_cons]
    exact (RVs.reverse t).append (.cons r .nil)
theorem RVs.rep {xs : List V} {us : List D} (r : RVs K μ H xs us) : ∀ n : Nat, RVs K μ H (List.replicate n xs).flatten (List.replicate n us).flatten
  | 0 => .nil
  | n + 1 => by
    rw [List.replicate_succ, List.replicate_succ, List.flatten_cons, List.flatten_cons]
    exact r.append (RVs.rep r n)
end

theorem sIx_eq (n d : Nat) (o : Option Int) : HT.sIx n d o = sIx n d o := by cases o <;> rfl
theorem RVs.cut {K : PySem.W.Frag} {μ : List Addr} {H : Hp} {xs : List V} {us : List D} (r : RVs K μ H xs us) (lo hi : Option Int) : RVs K μ H (cutV xs lo hi) (LG.cut us lo hi) := by
  unfold cutV LG.cut
  rw [r.length, sIx_eq, sIx_eq]
  exact (r.drop _).take _

/-! ### the store -/
/-- the written part, and where the classes of the exceptions stand -/
structure PK where
  K : PySem.W.Frag
  ca : Nat → Addr
  w : World

/-- a pair of a dict, and the entry -/
def DRel (K : PySem.W.Frag) (μ : List Addr) (H : Hp) (p : D × D) (x : NestedKey × Addr × Value) : Prop :=
  keyD p.1 = some x.1 ∧ x.1.depth ≤ 8 ∧ RV K μ H (.ref x.2.1) p.1 ∧ ∃ v, RelV v x.2.2 ∧ RV K μ H v p.2
theorem DRel.mono0 {K : PySem.W.Frag} {μ μ' : List Addr} {H H' : Hp} (m : Mono0 K μ H μ' H') {p : D × D} {x : NestedKey × Addr × Value} (h : DRel K μ H p x) : DRel K μ' H' p x :=
  let ⟨h1, h2, h3, v, h4, h5⟩ := h; ⟨h1, h2, RV.mono0 m h3, v, h4, RV.mono0 m h5⟩
def RO (P : PK) (μ : List Addr) (H : Hp) (a : Addr) : MO → Prop
  | .lst ds => ∃ vs, H a = some (.lst vs) ∧ RVs P.K μ H vs ds ∧ ds.length ≤ LIM
  | .exc c x => ∃ d v, H a = some (excO a (P.ca c) d) ∧ H d = some (.xd [(valF, v)]) ∧ RV P.K μ H v x
  | .dct kvs => ∃ xs, H a = some (dctO P.w a xs) ∧ Paired (DRel P.K μ H) kvs xs ∧ (xs.map (·.1)).Nodup ∧ kvs.length ≤ LIM ∧ (a == sysModules) = false
  | .box _ => ∃ ks : List (Key × V), H a = some (.dK ks)
structure RS (P : PK) (μ : List Addr) (H : Hp) (s : Sto) : Prop where
  len : μ.length = s.length
  nd : μ.Nodup
  ob : ∀ (n : Nat) (a : Addr) (o : MO), μ[n]? = some a → s[n]? = some o → RO P μ H a o
  nn : ∀ a ∈ μ, H a ≠ none
/-- a frame -/
structure RF (P : PK) (μ : List Addr) (H : Hp) (σ : L2.St) (f : Fr) : Prop where
  len : σ.length = f.length
  at_ : ∀ (i : Nat) (d : D), f[i]? = some (some d) → ∃ v, σ[i]? = some (some v) ∧ RV P.K μ H v d
section
variable {P : PK} {μ μ' : List Addr} {H H' : Hp}
theorem RF.mono {σ : L2.St} {f : Fr} (r : RF P μ H σ f) (m : Mono P.K μ H μ' H') : RF P μ' H' σ f :=
  ⟨r.len, fun i d e => let ⟨v, h1, h2⟩ := r.at_ i d e; ⟨v, h1, h2.mono m⟩⟩
theorem RF.set {σ : L2.St} {f : Fr} (r : RF P μ H σ f) {v : V} {d : D} (q : RV P.K μ H v d) (i : Nat) : RF P μ H (σ.set i (some v)) (f.set i (some d)) := by
  refine ⟨by simpa using r.len, fun j e h => ?_⟩
  by_cases hj : i = j
  · subst hj
    by_cases hi : i < f.length
    · rw [List.getElem?_set_self hi] at h
      cases h
      exact ⟨v, by rw [List.getElem?_set_self (by rw [r.len]; exact hi)], q⟩
    · rw [List.getElem?_eq_none (by simpa using hi)] at h; cases h
  · rw [List.getElem?_set_ne hj] at h ⊢
    exact r.at_ j e h
theorem RF.unset {σ : L2.St} {f : Fr} (r : RF P μ H σ f) (i : Nat) : RF P μ H (σ.set i none) (f.set i none) := by
  refine ⟨by simpa using r.len, fun j e h => ?_⟩
  by_cases hj : i = j
  · subst hj
    by_cases hi : i < f.length
    · rw [List.getElem?_set_self hi] at h; cases h
    · rw [List.getElem?_eq_none (by simpa using hi)] at h; cases h
  · rw [List.getElem?_set_ne hj] at h ⊢
    exact r.at_ j e h
theorem RF.wipe {σ : L2.St} {f : Fr} (r : RF P μ H σ f) : ∀ vs : List Nat, RF P μ H (L2.wipe σ vs) (wipeF f vs)
  | [] => r
  | v :: vs => (RF.wipe r vs).unset v
/-- an object of the store stays while its place and what never changes stay -/
theorem RO.mono {a : Addr} {o : MO} (r : RO P μ H a o) (m : Mono P.K μ H μ' H') (ha : H' a = H a) (hx : ∀ d fs, H d = some (.xd fs) → H' d = some (.xd fs)) : RO P μ' H' a o := by
  cases o with
  | lst ds => obtain ⟨vs, h, r, z⟩ := r; exact ⟨vs, ha.trans h, r.mono m, z⟩
  | exc c x => obtain ⟨d, v, h1, h2, r⟩ := r; exact ⟨d, v, ha.trans h1, hx _ _ h2, r.mono m⟩
  | dct kvs => obtain ⟨xs, h1, h2, h3⟩ := r; exact ⟨xs, ha.trans h1, Paired.mapP h2 fun _ _ q => q.mono0 m.m0, h3⟩
  | box kvs => obtain ⟨ks, h1⟩ := r; exact ⟨ks, ha.trans h1⟩
/-- the lists of the store -/
theorem RS.lst {s : Sto} (r : RS P μ H s) {n : Nat} {ds : List D} (h : s[n]? = some (.lst ds)) : ∃ a vs, μ[n]? = some a ∧ H a = some (.lst vs) ∧ RVs P.K μ H vs ds ∧ ds.length ≤ LIM := by
  obtain ⟨hn, _⟩ := List.getElem?_eq_some_iff.mp h
  have hn' : n < μ.length := by rw [r.len]; exact hn
  have hm : μ[n]? = some μ[n] := List.getElem?_eq_getElem hn'
  obtain ⟨vs, h1, h2, h3⟩ := r.ob n _ _ hm h
  exact ⟨_, vs, hm, h1, h2, h3⟩
theorem RS.seq {s : Sto} (r : RS P μ H s) {n : Nat} {ds : List D} (h : lstOf s n = some ds) : ∃ a vs, μ[n]? = some a ∧ SqL P.K H a vs ∧ RVs P.K μ H vs ds := by
  unfold lstOf at h
  cases e : s[n]? with
  | none => rw [e] at h; cases h
  | some o =>
    rw [e] at h
    obtain ⟨hn, _⟩ := List.getElem?_eq_some_iff.mp e
    have hn' : n < μ.length := by rw [r.len]; exact hn
    have hm : μ[n]? = some μ[n] := List.getElem?_eq_getElem hn'
    have q := r.ob n _ _ hm e
    cases o with
    | lst xs =>
      cases h
      obtain ⟨vs, h1, h2, h3⟩ := q
      exact ⟨_, vs, hm, .inl (.inl h1), h2⟩
    | exc c x => cases h
    | dct kvs => cases h
    | box kvs => cases h
theorem RS.fresh {s : Sto} (r : RS P μ H s) {p : Addr} (hp : H p = none) : p ∉ μ := fun hm => r.nn p hm hp
/-- a tuple was laid -/
theorem mono_upd {p : Addr} {o : HO} (hp : H p = none) : Mono P.K μ H μ (upd H p o) :=
  ⟨fun _ _ h => h, fun a xs h => by rw [upd_ne (ne_of_none h hp)]; exact h, fun a o u h => by rw [upd_ne (ne_of_none h hp)]; exact h, fun a _ n => upd_ne fun z => n (by rw [z]; exact hp), fun _ h n => absurd h n, fun a C d h => by rw [upd_ne (ne_of_none h hp)]; exact h⟩
theorem mono_new {p : Addr} {o : HO} (hp : H p = none) : Mono P.K μ H (μ ++ [p]) (upd H p o) :=
  ⟨fun n a h => by
    obtain ⟨hn, _⟩ := List.getElem?_eq_some_iff.mp h
    rw [List.getElem?_append_left hn]; exact h, fun a xs h => by rw [upd_ne (ne_of_none h hp)]; exact h, fun a o u h => by rw [upd_ne (ne_of_none h hp)]; exact h, fun a _ n => upd_ne fun z => n (by rw [z]; exact hp), fun a h n => by
    rcases List.mem_append.mp h with h | h
    · exact absurd h n
    · have : a = p := by simpa using h
      rw [this]; exact hp, fun a C d h => by rw [upd_ne (ne_of_none h hp)]; exact h⟩
theorem RS.upd_free {s : Sto} (r : RS P μ H s) {p : Addr} {o : HO} (hp : H p = none) (hm : p ∉ μ := r.fresh hp) : RS P μ (upd H p o) s :=
  ⟨r.len, r.nd, fun n a x e1 e2 => (r.ob n a x e1 e2).mono (mono_upd hp) (upd_ne fun z => hm (by rw [← z]; exact List.mem_of_getElem? e1)) fun d fs q => by rw [upd_ne (ne_of_none q hp)]; exact q,
    fun a ha => by
      have hne : a ≠ p := fun z => hm (by rw [← z]; exact ha)
      rw [upd_ne hne]; exact r.nn a ha⟩
/-- a new object of the store -/
theorem RS.push {s : Sto} (r : RS P μ H s) {p : Addr} {o : HO} {x : MO} (hp : H p = none) (hx : RO P (μ ++ [p]) (upd H p o) p x) : RS P (μ ++ [p]) (upd H p o) (s ++ [x]) := by
  have hm : p ∉ μ := r.fresh hp
  refine ⟨by simp [r.len], ?_, fun n a y e1 e2 => ?_, fun a ha => ?_⟩
  · rw [List.nodup_append]
    refine ⟨r.nd, by simp, fun a h1 b h2 z => ?_⟩
    have : b = p := by simpa using h2
    exact hm (by rw [← this, ← z]; exact h1)
  · by_cases hn : n < s.length
    · rw [List.getElem?_append_left hn] at e2
      rw [List.getElem?_append_left (by rw [r.len]; exact hn)] at e1
      refine (r.ob n a y e1 e2).mono (mono_new hp) (upd_ne fun z => hm (by rw [← z]; exact List.mem_of_getElem? e1)) fun d fs q => by rw [upd_ne (ne_of_none q hp)]; exact q
    · have hn' : n = s.length := by
        obtain ⟨h1, _⟩ := List.getElem?_eq_some_iff.mp e2
        simp at h1; omega
      subst hn'
      rw [List.getElem?_append_right (Nat.le_refl _)] at e2
      rw [List.getElem?_append_right (by rw [r.len]; exact Nat.le_refl _)] at e1
      simp [r.len] at e1 e2
      subst e1; subst e2
      exact hx
  · rcases List.mem_append.mp ha with h | h
    · have hne : a ≠ p := fun z => hm (by rw [← z]; exact h)
      rw [upd_ne hne]; exact r.nn a h
    · have : a = p := by simpa using h
      subst this
      exact (by rw [upd_same]; simp)
/-- a list of the store is written -/
theorem RS.write {s : Sto} (r : RS P μ H s) {n : Nat} {a : Addr} {vs vs' : List V} {ds' : List D} (ha : μ[n]? = some a) (hv : H a = some (.lst vs)) (hr : RVs P.K μ H vs' ds') (hz : ds'.length ≤ LIM) :
    Mono P.K μ H μ (upd H a (.lst vs')) ∧ RS P μ (upd H a (.lst vs')) (s.set n (.lst ds')) := by
  have m : Mono P.K μ H μ (upd H a (.lst vs')) := ⟨fun _ _ h => h, fun b xs h => by
    rw [upd_ne fun z => by rw [z, hv] at h; cases h]; exact h, fun b o u h => by
    rw [upd_ne fun z => by rw [z, hv] at h; cases h]; exact h, fun b hb _ => upd_ne fun z => hb (by rw [z]; exact List.mem_of_getElem? ha), fun _ h n => absurd h n, fun b C d h => by
    rw [upd_ne fun z => by rw [z, hv] at h; exact absurd (Option.some.inj h) excO_ne_lst.symm]; exact h⟩
  refine ⟨m, by simp [r.len], r.nd, fun j b y e1 e2 => ?_, fun b hb => ?_⟩
  · by_cases hj : n = j
    · subst hj
      rw [ha] at e1; cases e1
      have hn : n < s.length := by
        obtain ⟨h1, _⟩ := List.getElem?_eq_some_iff.mp e2
        simpa using h1
      rw [List.getElem?_set_self hn] at e2
      cases e2
      exact ⟨vs', upd_same, hr.mono m, hz⟩
    · rw [List.getElem?_set_ne hj] at e2
      refine (r.ob j b y e1 e2).mono m (upd_ne fun z => ?_) fun d fs q => by
        rw [upd_ne fun z => by rw [z, hv] at q; cases q]; exact q
      subst z
      obtain ⟨h1, g1⟩ := List.getElem?_eq_some_iff.mp ha
      obtain ⟨h2, g2⟩ := List.getElem?_eq_some_iff.mp e1
      exact hj ((List.getElem_inj r.nd).mp (g1.trans g2.symm))
  · by_cases hba : b = a
    · exact (by rw [hba, upd_same]; simp)
    · rw [upd_ne hba]; exact r.nn b hb
end

/-- the dicts of the store -/
theorem RS.dct {P : PK} {μ : List Addr} {H : Hp} {s : Sto} (r : RS P μ H s) {n : Nat} {kvs : List (D × D)} (h : s[n]? = some (.dct kvs)) : ∃ a xs, μ[n]? = some a ∧ H a = some (dctO P.w a xs) ∧ Paired (DRel P.K μ H) kvs xs ∧ (xs.map (·.1)).Nodup ∧ kvs.length ≤ LIM ∧ (a == sysModules) = false := by
  obtain ⟨hn, _⟩ := List.getElem?_eq_some_iff.mp h
  have hn' : n < μ.length := by rw [r.len]; exact hn
  have hm : μ[n]? = some μ[n] := List.getElem?_eq_getElem hn'
  obtain ⟨xs, h1⟩ := r.ob n _ _ hm h
  exact ⟨_, xs, hm, h1⟩
/-- a dict of the store is written -/
theorem RS.writeD {P : PK} {μ : List Addr} {H : Hp} {s : Sto} (r : RS P μ H s) {n : Nat} {a : Addr} {xs xs' : List (NestedKey × Addr × Value)} {kvs' : List (D × D)} (ha : μ[n]? = some a) (hv : H a = some (dctO P.w a xs)) (hr : Paired (DRel P.K μ H) kvs' xs') (hn : (xs'.map (·.1)).Nodup) (hz : kvs'.length ≤ LIM) (hs : (a == sysModules) = false) :
    Mono P.K μ H μ (upd H a (dctO P.w a xs')) ∧ RS P μ (upd H a (dctO P.w a xs')) (s.set n (.dct kvs')) := by
  have m : Mono P.K μ H μ (upd H a (dctO P.w a xs')) := ⟨fun _ _ h => h, fun b xs h => by
    rw [upd_ne fun z => by rw [z, hv] at h; exact absurd (Option.some.inj h) dctO_ne_tup]; exact h, fun b o u h => by
    rw [upd_ne fun z => by rw [z, hv] at h; exact absurd (Option.some.inj h) dctO_ne_frz]; exact h, fun b hb _ => upd_ne fun z => hb (by rw [z]; exact List.mem_of_getElem? ha), fun _ h n => absurd h n, fun b C d h => by
    rw [upd_ne fun z => by subst z; rw [hv] at h; exact absurd (Option.some.inj h) dctO_ne_exc]; exact h⟩
  refine ⟨m, by simp [r.len], r.nd, fun j b y e1 e2 => ?_, fun b hb => ?_⟩
  · by_cases hj : n = j
    · subst hj
      rw [ha] at e1; cases e1
      have hn : n < s.length := by
        obtain ⟨h1, _⟩ := List.getElem?_eq_some_iff.mp e2
        simpa using h1
      rw [List.getElem?_set_self hn] at e2
      cases e2
      exact ⟨xs', upd_same, Paired.mapP hr fun _ _ q => q.mono0 m.m0, by assumption, hz, hs⟩
    · rw [List.getElem?_set_ne hj] at e2
      refine (r.ob j b y e1 e2).mono m (upd_ne fun z => ?_) fun d fs q => by
        rw [upd_ne fun z => by rw [z, hv] at q; exact absurd (Option.some.inj q) dctO_ne_xd]; exact q
      subst z
      obtain ⟨h1, g1⟩ := List.getElem?_eq_some_iff.mp ha
      obtain ⟨h2, g2⟩ := List.getElem?_eq_some_iff.mp e1
      exact hj ((List.getElem_inj r.nd).mp (g1.trans g2.symm))
  · by_cases hba : b = a
    · exact (by rw [hba, upd_same]; simp)
    · rw [upd_ne hba]; exact r.nn b hb

/-! ### results -/
/-- what is wanted of an exception: W at its class, its own dict, the frame, the heap -/
def ErrO (P : PK) (W : WX) (σ : L2.St) (μ : List Addr) (H : Hp) (c : Nat) (x : D) (s : Sto) : Prop :=
  ∀ μ' H' d v, Mono P.K μ H μ' H' → RS P μ' H' s → RV P.K μ' H' v x → H' d = some (.xd [(valF, v)]) → W (.ref (P.ca c)) (some d) σ H'
/-- what is wanted behind a result: R tells how a value stands for a datum -/
def Out (P : PK) (W : WX) (σ : L2.St) (μ : List Addr) (H : Hp) {α ω : Type} (R : List Addr → Hp → ω → α → Prop) (r : Res α) (Q : ω → Hp → Prop) : Prop :=
  match r with
  | .ok a s => ∀ μ' H' v, Mono P.K μ H μ' H' → RS P μ' H' s → R μ' H' v a → Q v H'
  | .err c x s => ErrO P W σ μ H c x s
  | .bad => False
theorem ErrO.mono {P : PK} {W : WX} {σ : L2.St} {μ μ1 : List Addr} {H H1 : Hp} {c : Nat} {x : D} {s : Sto} (e : ErrO P W σ μ H c x s) (m : Mono P.K μ H μ1 H1) : ErrO P W σ μ1 H1 c x s :=
  fun μ' H' d v m' => e μ' H' d v (m.trans m')
theorem Out.mono {P : PK} {W : WX} {σ : L2.St} {μ μ1 : List Addr} {H H1 : Hp} {α ω : Type} {R : List Addr → Hp → ω → α → Prop} {r : Res α} {Q : ω → Hp → Prop} (o : Out P W σ μ H R r Q) (m : Mono P.K μ H μ1 H1) : Out P W σ μ1 H1 R r Q := by
  cases r with
  | ok a s => exact fun μ' H' v m' => o μ' H' v (m.trans m')
  | err c x s => exact ErrO.mono o m
  | bad => exact o
def RE (P : PK) : List Addr → Hp → V → D → Prop := fun μ H v d => RV P.K μ H v d
def RA (P : PK) : List Addr → Hp → List V → List D → Prop := fun μ H v d => RVs P.K μ H v d
def RB' : List Addr → Hp → Bool → Bool → Prop := fun _ _ v d => v = d

/-- the reading of compiled code -/
def tX (P : PK) (W : WX) {α ω : Type} (R : List Addr → Hp → ω → α → Prop) (m : Fr → M α) : L2.St → Hp → (ω → Hp → Prop) → Prop :=
  fun σ H Q => ∃ μ f s, RS P μ H s ∧ RF P μ H σ f ∧ Out P W σ μ H R (m f s) Q
abbrev tE (P : PK) (W : WX) (m : EX) : TE := tX P W (RE P) m
abbrev tA (P : PK) (W : WX) (m : AX) : TA := tX P W (RA P) m
abbrev tT (P : PK) (W : WX) (m : TX) : TT := tX P W RB' m
/-- by values: what a built-in wants -/
def rFn (P : PK) (W : WX) (σ : L2.St) (g : Fn) : List V → Hp → VK → Prop := fun vs H Q => ∃ μ ds s, RS P μ H s ∧ RVs P.K μ H vs ds ∧ Out P W σ μ H (RE P) (g ds s) Q

theorem Out.bnd {P : PK} {W : WX} {σ : L2.St} {μ : List Addr} {H : Hp} {α β ω ω' : Type} {R : List Addr → Hp → ω → α → Prop} {R' : List Addr → Hp → ω' → β → Prop} {m : M α} {g : α → M β} {s : Sto} {Q : ω' → Hp → Prop}
    (o : Out P W σ μ H R' (bnd m g s) Q) : Out P W σ μ H R (m s) fun v H1 => ∃ μ1 a s1, Mono P.K μ H μ1 H1 ∧ RS P μ1 H1 s1 ∧ R μ1 H1 v a ∧ Out P W σ μ1 H1 R' (g a s1) Q := by
  unfold LG.bnd at o
  cases e : m s with
  | ok a s1 =>
    rw [e] at o
    exact fun μ' H' v m' r' q' => ⟨μ', a, s1, m', r', q', Out.mono o m'⟩
  | err c x s1 => rw [e] at o; exact o
  | bad => rw [e] at o; exact o
theorem Out.ok {P : PK} {W : WX} {σ : L2.St} {μ : List Addr} {H : Hp} {α ω : Type} {R : List Addr → Hp → ω → α → Prop} {a : α} {s : Sto} {Q : ω → Hp → Prop} {v : ω}
    (o : Out P W σ μ H R (.ok a s) Q) (r : RS P μ H s) (q : R μ H v a) : Q v H := o μ H v Mono.refl r q
theorem Out.imp {P : PK} {W : WX} {σ : L2.St} {μ : List Addr} {H : Hp} {α ω : Type} {R : List Addr → Hp → ω → α → Prop} {r : Res α} {Q Q' : ω → Hp → Prop} (o : Out P W σ μ H R r Q) (h : ∀ v H, Q v H → Q' v H) : Out P W σ μ H R r Q' := by
  cases r with
  | ok a s => exact fun μ' H' v m r q => h _ _ (o μ' H' v m r q)
  | err c x s => exact o
  | bad => exact o

/-- PE by a weaker reading -/
theorem PE.imp {X : Cx} {e : Expr} {t t' : TE} (h : PE X e t) (i : ∀ σ H Q, t' σ H Q → t σ H Q) : PE X e t' := ⟨fun pins s σ H Q I q => h.run pins s σ H Q I (i _ _ _ q)⟩
theorem PT.imp {X : Cx} {e : Expr} {t t' : TT} (h : PT X e t) (i : ∀ σ H Q, t' σ H Q → t σ H Q) : PT X e t' := ⟨fun pins s σ H Q I q => h.run pins s σ H Q I (i _ _ _ q)⟩
theorem PW.imp {X : Cx} {e : Expr} {t t' : TT} (h : PW X e t) (i : ∀ σ H Q, t' σ H Q → t σ H Q) : PW X e t' := ⟨fun w pins s σ H Q I q => h.run w pins s σ H Q I (i _ _ _ q)⟩
theorem PA.imp {X : Cx} {e : List Expr} {t t' : TA} (h : PA X e t) (i : ∀ σ H Q, t' σ H Q → t σ H Q) : PA X e t' := ⟨fun p pins s σ H Q I q => h.run p pins s σ H Q I (i _ _ _ q)⟩
theorem PS.imp {X : Cx} {e : Stmt} {t t' : TS} (h : PS X e t) (i : ∀ D σ H, t' D σ H → t D σ H) : PS X e t' := ⟨fun pins s σ H D I q => h.run pins s σ H D I (i _ _ _ q)⟩
theorem PSs.imp {X : Cx} {e : List Stmt} {t t' : TS} (h : PSs X e t) (i : ∀ D σ H, t' D σ H → t D σ H) : PSs X e t' := ⟨fun pins s σ H D I q => h.run pins s σ H D I (i _ _ _ q)⟩
theorem PI.imp {X : Cx} {tg e : Expr} {t t' : TI} (h : PI X tg e t) (i : ∀ σ H Q, t' σ H Q → t σ H Q) : PI X tg e t' := ⟨fun pins s σ H Q I q => h.run pins s σ H Q I (i _ _ _ q)⟩
theorem PG.imp {X : Cx} {e : Expr} {t t' : TG} (h : PG X e t) (i : ∀ v σ H Q, t' v σ H Q → t v σ H Q) : PG X e t' := ⟨fun pins s σ H v u Q I r q => h.run pins s σ H v u Q I r (i _ _ _ _ q)⟩
end LG
set_option Elab.async false
set_option linter.all false
set_option maxRecDepth 100000
/-! LG3: the operations by values, by the rules of the hand layer. -/
namespace LG
open PySem PySem.Spec PyProof.Rows L2

theorem lim_eq : sizeLine = LIM := sizeLine_eq
abbrev pk (X : Cx) (ca : Nat → Addr) : PK := ⟨X.K, ca, X.w⟩
/-- an operation by values -/
def rOp (P : PK) (W : WX) (σ : L2.St) (o : Op2) : R2 := fun x y H Q => ∃ μ a b s, RS P μ H s ∧ RV P.K μ H x a ∧ RV P.K μ H y b ∧ Out P W σ μ H (RE P) (o a b s) Q
def rUn (P : PK) (W : WX) (σ : L2.St) (o : D → M D) : V → Hp → VK → Prop := fun x H Q => ∃ μ a s, RS P μ H s ∧ RV P.K μ H x a ∧ Out P W σ μ H (RE P) (o a s) Q

theorem canAll_nil : PyData.canLayAll0 [] = true := by simp [PyData.canLayAll0]
section
variable {P : PK} {μ : List Addr} {H : Hp} {s : Sto}
mutual
theorem toPD_ok (r : RS P μ H s) : ∀ (n : Nat) (d : D) (v : V) (p : PyData), RV P.K μ H v d → toPD s n d = some p → Dp P.K H v p ∧ p.canLay0 = true ∧ p.depth ≤ n
  | n, .non, _, p, h, e => by
    cases h
    have e' : p = .none := by cases n <;> (simp only [toPD] at e; exact (Option.some.inj e).symm)
    subst e'
    exact ⟨.non, by simp [PyData.canLay0], by simp [PyData.depth]⟩
  | n, .bl b, _, p, h, e => by
    cases h
    have e' : p = .bool b := by cases n <;> (simp only [toPD] at e; exact (Option.some.inj e).symm)
    subst e'
    exact ⟨.bl _, by simp [PyData.canLay0], by simp [PyData.depth]⟩
  | n, .int b, _, p, h, e => by
    cases h
    have e' : p = .int b := by cases n <;> (simp only [toPD] at e; exact (Option.some.inj e).symm)
    subst e'
    exact ⟨.int _, by simp [PyData.canLay0], by simp [PyData.depth]⟩
  | n, .str b, _, p, h, e => by
    cases h with
    | str x =>
      have e' : x.cps.toList.all (fun c => decide (c < 1114112)) = true ∧ p = .str x := by
        cases n <;>
          (simp only [toPD] at e
           split at e
           · rename_i hc
             exact ⟨hc, (Option.some.inj e).symm⟩
           · cases e)
      obtain ⟨h1, e'⟩ := e'
      subst e'
      refine ⟨.str _, ?_, by simp [PyData.depth]⟩
      simp only [PyData.canLay0, PyData.strOk]
      rw [← Array.all_toList]
      exact h1
  | _, .kl _, _, _, _, e => by
    rename_i n _ _ _ _
    cases n <;> (simp only [toPD] at e; cases e)
  | 0, .tup _, _, _, _, e => by simp [toPD] at e
  | 0, .ref _, _, _, _, e => by simp [toPD] at e
  | n + 1, .tup ds, _, p, h, e => by
    cases h with
    | tup ht hr =>
      simp only [toPD] at e
      cases q : allO (toPD s n) ds with
      | none => rw [q] at e; cases e
      | some ys =>
        rw [q] at e
        cases e
        obtain ⟨h1, h2, h3⟩ := toPDs_ok r n ds _ ys hr q
        exact ⟨.tup ht.sq h1, by simpa [PyData.canLay0] using h2, by simp only [PyData.depth]; omega⟩
  | n + 1, .ref k, _, p, h, e => by
    cases h with
    | ref hm =>
      simp only [toPD] at e
      cases q0 : s[k]? with
      | none => rw [q0] at e; cases e
      | some o =>
        rw [q0] at e
        cases o with
        | lst xs =>
          simp only at e
          cases q : allO (toPD s n) xs with
          | none => rw [q] at e; cases e
          | some ys =>
            rw [q] at e
            cases e
            obtain ⟨vs, hv, hr, _⟩ := r.ob k _ _ hm q0
            obtain ⟨h1, h2, h3⟩ := toPDs_ok r n xs _ ys hr q
            exact ⟨.lst (.inl (.inl hv)) h1, by simpa [PyData.canLay0] using h2, by simp only [PyData.depth]; omega⟩
        | dct kvs => cases e
        | box kvs => cases e
        | exc c x => cases e
  termination_by n d => (n, 0, sizeOf d)
theorem toPDs_ok (r : RS P μ H s) : ∀ (n : Nat) (ds : List D) (vs : List V) (ps : List PyData), RVs P.K μ H vs ds → allO (toPD s n) ds = some ps → DpAll P.K H vs ps ∧ PyData.canLayAll0 ps = true ∧ PyData.depthAll ps ≤ n
  | _, [], _, _, h, e => by
    cases h
    simp only [allO] at e
    cases e
    exact ⟨.nil, canAll_nil, by simp [PyData.depthAll]⟩
  | n, d :: ds, _, ps, h, e => by
    cases h with
    | cons h1 h2 =>
      simp only [allO] at e
      cases q1 : toPD s n d with
      | none => rw [q1] at e; cases e
      | some y =>
        rw [q1] at e
        simp only at e
        cases q2 : allO (toPD s n) ds with
        | none => rw [q2] at e; cases e
        | some ys =>
          rw [q2] at e
          cases e
          obtain ⟨a1, a2, a3⟩ := toPD_ok r n d _ y h1 q1
          obtain ⟨b1, b2, b3⟩ := toPDs_ok r n ds _ ys h2 q2
          exact ⟨.cons a1 b1, by simp [PyData.canLayAll0, a2, b2], by simp only [PyData.depthAll]; omega⟩
  termination_by n ds => (n, 1, sizeOf ds)
end
end

section
variable {P : PK} {W : WX} {σ : L2.St} {μ : List Addr} {H : Hp} {s : Sto} {Q : VK} {p : Addr} {vs : List V} {ds : List D}
theorem Out.lst (o : Out P W σ μ H (RE P) (alloc (.lst ds) s) Q) (r : RS P μ H s) (hp : H p = none) (hr : RVs P.K μ H vs ds) (hz : ds.length ≤ LIM) : Q (.ref p) (upd H p (.lst vs)) :=
  o (μ ++ [p]) _ (.ref p) (mono_new hp) (r.push hp ⟨vs, upd_same, hr.mono (mono_new hp), hz⟩) (.ref (by rw [← r.len]; simp))
theorem Out.tup (o : Out P W σ μ H (RE P) (.ok (.tup ds) s) Q) (r : RS P μ H s) (hp : H p = none) (hr : RVs P.K μ H vs ds) : Q (.ref p) (upd H p (.tup vs)) :=
  o μ _ (.ref p) (mono_upd hp) (r.upd_free hp) (.tup (.inl upd_same) (hr.mono (mono_upd hp)))
/-- a list is written -/
theorem Out.write {v : V} {d : D} {n : Nat} {a : Addr} {vs0 : List V} (o : Out P W σ μ H (RE P) (.ok d (s.set n (.lst ds))) Q) (r : RS P μ H s) (ha : μ[n]? = some a) (hv : H a = some (.lst vs0)) (hr : RVs P.K μ H vs ds) (hz : ds.length ≤ LIM) (hd : RV P.K μ H v d) :
    Q v (upd H a (.lst vs)) := by
  obtain ⟨m, r'⟩ := r.write ha hv hr hz
  exact o μ _ v m r' (hd.mono m)
theorem Out.here {v : V} {d : D} (o : Out P W σ μ H (RE P) (.ok d s) Q) (r : RS P μ H s) (q : RV P.K μ H v d) : Q v H := o μ H v Mono.refl r q
theorem seq_ok {v : V} {d : D} {ds : List D} (r : RS P μ H s) (h : RV P.K μ H v d) (e : seqOf s d = some ds) : ∃ a vs, v = .ref a ∧ (SqL P.K H a vs ∨ SqT P.K H a vs) ∧ RVs P.K μ H vs ds := by
  cases h with
  | tup h1 h2 => simp only [seqOf] at e; cases e; exact ⟨_, _, rfl, .inr h1.sq, h2⟩
  | kl h1 h2 => simp only [seqOf] at e; cases e; exact ⟨_, _, rfl, .inl h1.sq, h2⟩
  | ref h1 =>
    obtain ⟨a, vs, e1, e2, e3⟩ := r.seq (n := _) (ds := ds) (by unfold lstOf; simpa [seqOf] using e)
    rw [h1] at e1; cases e1
    exact ⟨_, _, rfl, .inl e2, e3⟩
  | _ => simp [seqOf] at e
end

section
variable {X : Cx} {ca : Nat → Addr} {W : WX} {σ₀ : L2.St}
theorem ok_add : OpR X (binaryOp .Add) (rOp (pk X ca) W σ₀ opAdd) := by
  intro pins s σ H x y v u Q I rx ry h
  obtain ⟨μ, a, b, st, hs, ha, hb, o⟩ := h
  cases ha with
  | int i =>
    cases hb with
    | int j => exact op_add pins s σ H _ _ v u Q I rx ry ⟨i, j, rfl, rfl, o.here hs (.int _)⟩
    | _ => exact o.elim
  | str i =>
    cases hb with
    | str j =>
      simp only [opAdd] at o
      split at o
      · rename_i hz
        refine op_add_str pins s σ H _ _ v u Q I rx ry ⟨i, j, rfl, rfl, by rw [lim_eq]; simpa [Str.length] using hz, o.here hs ?_⟩
        have e : (i ++ j).cps.toList = i.cps.toList ++ j.cps.toList := Array.toList_append
        rw [← e]
        exact .str (i ++ j)
      · exact o.elim
    | _ => exact o.elim
  | @tup a vs ds h1 h2 =>
    cases hb with
    | @tup b ws es h3 h4 =>
      simp only [opAdd] at o
      split at o
      · rename_i hz
        refine op_catA pins s σ H _ _ v u Q I rx ry ⟨a, b, vs, ws, rfl, rfl, h1.sq, h3.sq, by rw [lim_eq, h2.length, h4.length]; exact hz, fun e => ?_, fun _ e => ?_, fun _ _ p hp => ?_⟩
        · subst e; cases h2; exact o.here hs (.tup h3 (by simpa using h4))
        · subst e; cases h4; exact o.here hs (.tup h1 (by simpa using h2))
        · exact o.tup hs hp (h2.append h4)
      · exact o.elim
    | _ => exact o.elim
  | @ref a n h1 =>
    cases hb with
    | @ref b m h2 =>
      simp only [opAdd] at o
      split at o
      · rename_i xs ys e1 e2
        split at o
        · rename_i hz
          obtain ⟨a', vs, q1, q2, q3, _⟩ := hs.lst e1
          obtain ⟨b', ws, q4, q5, q6, _⟩ := hs.lst e2
          rw [h1] at q1; cases q1
          rw [h2] at q4; cases q4
          exact op_cat pins s σ H _ _ v u Q I rx ry ⟨a, b, vs, ws, rfl, rfl, q2, q5, by rw [lim_eq, q3.length, q6.length]; exact hz, fun p hp => o.lst hs hp (q3.append q6) (by rw [List.length_append]; exact hz)⟩
        · exact o.elim
      · exact o.elim
    | _ => exact o.elim
  | non => exact o.elim
  | bl b => exact o.elim
  | kl _ _ => exact o.elim
theorem ok_sub : OpR X (binaryOp .Sub) (rOp (pk X ca) W σ₀ opSub) := by
  intro pins s σ H x y v u Q I rx ry h
  obtain ⟨μ, a, b, st, hs, ha, hb, o⟩ := h
  cases ha with
  | int i =>
    cases hb with
    | int j => exact op_sub pins s σ H _ _ v u Q I rx ry ⟨i, j, rfl, rfl, o.here hs (.int _)⟩
    | _ => exact o.elim
  | _ => exact o.elim
theorem ok_mul : OpR X (binaryOp .Mult) (rOp (pk X ca) W σ₀ opMul) := by
  intro pins s σ H x y v u Q I rx ry h
  obtain ⟨μ, a, b, st, hs, ha, hb, o⟩ := h
  cases ha with
  | int i =>
    cases hb with
    | int j =>
      simp only [opMul] at o
      split at o
      · rename_i hz
        exact op_mul pins s σ H _ _ v u Q I rx ry ⟨i, j, rfl, rfl, hz, o.here hs (.int _)⟩
      · exact o.elim
    | _ => exact o.elim
  | @tup a vs ds h1 h2 =>
    cases hb with
    | int k =>
      simp only [opMul] at o
      split at o
      · rename_i hz
        obtain ⟨z1, z2, z3, z4⟩ := hz
        exact op_repT pins s σ H _ _ v u Q I rx ry ⟨a, k, vs, rfl, rfl, h1.sq, fun e => z1 (by subst e; cases h2; rfl), z2, z3, by rw [h2.length]; exact z4, fun p hp => o.tup hs hp (h2.rep _)⟩
      · exact o.elim
    | _ => exact o.elim
  | @ref a n h1 =>
    cases hb with
    | int k =>
      simp only [opMul] at o
      split at o
      · rename_i xs e1
        split at o
        · rename_i hz
          obtain ⟨z1, z2, z3⟩ := hz
          obtain ⟨a', vs, q1, q2, q3, _⟩ := hs.lst e1
          rw [h1] at q1; cases q1
          have hl : xs.length * k.toNat ≤ LIM := by
            have : k.toNat ≤ 1000 := by omega
            have h2 := Nat.mul_le_mul z3 this
            exact Nat.le_trans h2 (by decide)
          refine op_rep pins s σ H _ _ v u Q I rx ry ⟨a, k, vs, rfl, rfl, q2, by omega, by omega, by rw [lim_eq, q3.length]; exact hl, fun p hp => o.lst hs hp (q3.rep _) ?_⟩
          rw [List.length_flatten, List.map_replicate, List.sum_replicate_nat, Nat.mul_comm]
          exact hl
        · exact o.elim
      · exact o.elim
    | _ => exact o.elim
  | _ => exact o.elim
theorem ok_band : OpR X (binaryOp .BitAnd) (rOp (pk X ca) W σ₀ opBand) := by
  intro pins s σ H x y v u Q I rx ry h
  obtain ⟨μ, a, b, st, hs, ha, hb, o⟩ := h
  cases ha with
  | int i =>
    cases hb with
    | int j => exact op_and pins s σ H _ _ v u Q I rx ry ⟨i, j, rfl, rfl, o.here hs (.int _)⟩
    | _ => exact o.elim
  | _ => exact o.elim
theorem ok_bor : OpR X (binaryOp .BitOr) (rOp (pk X ca) W σ₀ opBor) := by
  intro pins s σ H x y v u Q I rx ry h
  obtain ⟨μ, a, b, st, hs, ha, hb, o⟩ := h
  cases ha with
  | int i =>
    cases hb with
    | int j => exact op_or pins s σ H _ _ v u Q I rx ry ⟨i, j, rfl, rfl, o.here hs (.int _)⟩
    | _ => exact o.elim
  | _ => exact o.elim
theorem ok_fdiv : OpR X (binaryOp .FloorDiv) (rOp (pk X ca) W σ₀ opFdiv) := by
  intro pins s σ H x y v u Q I rx ry h
  obtain ⟨μ, a, b, st, hs, ha, hb, o⟩ := h
  cases ha with
  | int i =>
    cases hb with
    | int j =>
      simp only [opFdiv] at o
      split at o
      · rename_i hz
        exact op_fdivN pins s σ H _ _ v u Q I rx ry ⟨i, j, rfl, rfl, hz, o.here hs (.int _)⟩
      · exact o.elim
    | _ => exact o.elim
  | _ => exact o.elim
theorem ok_mod : OpR X (binaryOp .Mod) (rOp (pk X ca) W σ₀ opMod) := by
  intro pins s σ H x y v u Q I rx ry h
  obtain ⟨μ, a, b, st, hs, ha, hb, o⟩ := h
  cases ha with
  | int i =>
    cases hb with
    | int j =>
      simp only [opMod] at o
      split at o
      · rename_i hz
        exact op_modN pins s σ H _ _ v u Q I rx ry ⟨i, j, rfl, rfl, hz, o.here hs (.int _)⟩
      · exact o.elim
    | _ => exact o.elim
  | _ => exact o.elim
theorem ok_pow : OpR X (binaryOp .Pow) (rOp (pk X ca) W σ₀ opPow) := by
  intro pins s σ H x y v u Q I rx ry h
  obtain ⟨μ, a, b, st, hs, ha, hb, o⟩ := h
  cases ha with
  | int i =>
    cases hb with
    | int j =>
      simp only [opPow] at o
      split at o
      · rename_i hz
        exact op_pow pins s σ H _ _ v u Q I rx ry ⟨i, j, rfl, rfl, hz, o.here hs (.int _)⟩
      · exact o.elim
    | _ => exact o.elim
  | _ => exact o.elim
theorem ok_shl : OpR X (binaryOp .LShift) (rOp (pk X ca) W σ₀ opShl) := by
  intro pins s σ H x y v u Q I rx ry h
  obtain ⟨μ, a, b, st, hs, ha, hb, o⟩ := h
  cases ha with
  | int i =>
    cases hb with
    | int j =>
      simp only [opShl] at o
      split at o
      · rename_i hz
        exact op_shl pins s σ H _ _ v u Q I rx ry ⟨i, j, rfl, rfl, hz, o.here hs (.int _)⟩
      · exact o.elim
    | _ => exact o.elim
  | _ => exact o.elim
theorem ok_shr : OpR X (binaryOp .RShift) (rOp (pk X ca) W σ₀ opShr) := by
  intro pins s σ H x y v u Q I rx ry h
  obtain ⟨μ, a, b, st, hs, ha, hb, o⟩ := h
  cases ha with
  | int i =>
    cases hb with
    | int j =>
      simp only [opShr] at o
      split at o
      · rename_i hz
        exact op_shr pins s σ H _ _ v u Q I rx ry ⟨i, j, rfl, rfl, hz, o.here hs (.int _)⟩
      · exact o.elim
    | _ => exact o.elim
  | _ => exact o.elim
theorem ok_neg : UnR X (unaryOp .USub) (rUn (pk X ca) W σ₀ opNeg) := by
  intro pins s σ H x v Q I rx h
  obtain ⟨μ, a, st, hs, ha, o⟩ := h
  cases ha with
  | int i => exact un_neg pins s σ H _ v Q I rx ⟨i, rfl, o.here hs (.int _)⟩
  | _ => exact o.elim

theorem shaped_of {p : PyData} (h1 : p.canLay0 = true) (h2 : p.depth ≤ 60) : SeqAt.shaped p = true := by
  show (p.canLay0 && decide (p.depth ≤ 64)) = true
  rw [h1, Bool.true_and]
  exact decide_eq_true (by omega)
theorem eqO_ok {P : PK} {μ : List Addr} {H : Hp} {s : Sto} {x y : V} {a b : D} {k : Bool} (r : RS P μ H s) (ha : RV P.K μ H x a) (hb : RV P.K μ H y b) (e : eqO s a b = some k) :
    ∃ p q, Dp P.K H x p ∧ Dp P.K H y q ∧ SeqAt.shaped p = true ∧ SeqAt.shaped q = true ∧ k = PyData.eqv p q ∧ toPD s 60 a = some p ∧ toPD s 60 b = some q := by
  unfold eqO at e
  split at e
  · rename_i p q e1 e2
    obtain ⟨h1, h2, h3⟩ := toPD_ok r 60 a x p ha e1
    obtain ⟨h4, h5, h6⟩ := toPD_ok r 60 b y q hb e2
    exact ⟨p, q, h1, h4, shaped_of h2 h3, shaped_of h5 h6, (Option.some.inj e).symm, e1, e2⟩
  · cases e
theorem ok_eq (hu : X.A.units + 64 < cLine) : OpR X (compareOp .Eq) (rOp (pk X ca) W σ₀ cmpEq) := by
  intro pins s σ H x y v u Q I rx ry h
  obtain ⟨μ, a, b, st, hs, ha, hb, o⟩ := h
  unfold cmpEq at o
  split at o
  · rename_i k e
    obtain ⟨p, q, h1, h2, h3, h4, rfl, _⟩ := eqO_ok hs ha hb e
    exact op_eqD hu pins s σ H x y v u Q I rx ry ⟨p, q, h1, h2, h3, h4, o.here hs (.bl _)⟩
  · exact o.elim
theorem ok_ne (hu : X.A.units + 64 < cLine) : OpR X (compareOp .NotEq) (rOp (pk X ca) W σ₀ cmpNe) := by
  intro pins s σ H x y v u Q I rx ry h
  obtain ⟨μ, a, b, st, hs, ha, hb, o⟩ := h
  unfold cmpNe at o
  split at o
  · rename_i k e
    obtain ⟨p, q, h1, h2, h3, h4, rfl, _⟩ := eqO_ok hs ha hb e
    exact op_neD hu pins s σ H x y v u Q I rx ry ⟨p, q, h1, h2, h3, h4, o.here hs (.bl _)⟩
  · split at o
    · rename_i hb'
      unfold sameB at hb'
      split at hb'
      · rename_i x1 n y1 m _
        rw [Bool.and_eq_true, beq_iff_eq, beq_iff_eq] at hb'
        obtain ⟨rfl, rfl⟩ := hb'
        obtain ⟨a1, vs1, rfl, t1, r1⟩ : ∃ a1 vs1, x = .ref a1 ∧ TupAt X.K H a1 vs1 ∧ RVs X.K μ H vs1 [.str x1, .ref n] := by cases ha with | tup h1 h2 => exact ⟨_, _, rfl, h1, h2⟩
        obtain ⟨a2, vs2, rfl, t2, r2⟩ : ∃ a1 vs1, y = .ref a1 ∧ TupAt X.K H a1 vs1 ∧ RVs X.K μ H vs1 [.str x1, .ref n] := by cases hb with | tup h1 h2 => exact ⟨_, _, rfl, h1, h2⟩
        obtain ⟨z1, c1, rfl, q1, k1⟩ : ∃ (z : Str) (c : Addr), vs1 = [.str z, .ref c] ∧ z.cps.toList = x1 ∧ μ[n]? = some c := by
          cases r1 with | cons p1 p2 => cases p2 with | cons p3 p4 => cases p4; cases p3 with | ref hm => cases p1 with | str z => exact ⟨z, _, rfl, rfl, hm⟩
        obtain ⟨z2, c2, rfl, q2, k2⟩ : ∃ (z : Str) (c : Addr), vs2 = [.str z, .ref c] ∧ z.cps.toList = x1 ∧ μ[n]? = some c := by
          cases r2 with | cons p1 p2 => cases p2 with | cons p3 p4 => cases p4; cases p3 with | ref hm => cases p1 with | str z => exact ⟨z, _, rfl, rfl, hm⟩
        rw [k1] at k2; cases k2
        have hz : z1 = z2 := by
          cases z1; cases z2
          simp only at q1 q2
          rw [Array.toList_inj.mp (q1.trans q2.symm)]
        subst hz
        cases (show v = Value.ref a1 from rx)
        cases (show u = Value.ref a2 from ry)
        obtain ⟨its1, rv1, i1, _⟩ := I.tuple t1.sq
        obtain ⟨its2, rv2, i2, _⟩ := I.tuple t2.sq
        obtain ⟨u1, w1, rfl, g1, g2⟩ : ∃ u w, its1 = [u, w] ∧ RelV (.str z1) u ∧ RelV (.ref c1) w := by
          cases rv1 with | cons p1 p2 => cases p2 with | cons p3 p4 => cases p4; exact ⟨_, _, rfl, p1, p3⟩
        obtain ⟨u2, w2, rfl, g3, g4⟩ : ∃ u w, its2 = [u, w] ∧ RelV (.str z1) u ∧ RelV (.ref c1) w := by
          cases rv2 with | cons p1 p2 => cases p2 with | cons p3 p4 => cases p4; exact ⟨_, _, rfl, p1, p3⟩
        obtain ⟨tk1, rfl⟩ := (show ∃ t, u1 = Value.str z1 t from g1)
        obtain ⟨tk2, rfl⟩ := (show ∃ t, u2 = Value.str z1 t from g3)
        cases (show w1 = Value.ref c1 from g2)
        cases (show w2 = Value.ref c1 from g4)
        have key := SeqAt.RcNeAt.tuples (A := X.A) (s := s) (e := fun _ => true) i1 i2 (by omega) (fun j h1 h2 => by
          have hj : j < 2 := h1
          match j, hj with
          | 0, _ =>
            have := SeqAt.EqAt.str_str (A := X.A.in1) (s := s) z1 tk1 z1 tk2
            rw [beq_self_eq_true] at this
            exact this
          | 1, _ => exact SeqAt.EqAt.same _)
        exact key X.prog X.w _ _ ⟨.bl false, H, I, rfl, o.here hs (.bl _)⟩
      · cases hb'
    · exact o.elim
end
end LG
set_option Elab.async false
set_option linter.all false
set_option maxRecDepth 100000
/-! LG4: a < b of data, told by the first place that differs; sorting by it. -/
namespace PySem.SeqAt
open AutoSeq1 (wpAny_loadPart')
open MeetsSeq MeetsSeq2 MeetsSeq3 SeqRoads2
/-- tuples: only the first place that differs is asked for its own < -/
theorem lg_tuple_ltAt (l b : Addr) (items items2 : Array Value) (n n2 : Nat) (dd dd2 : Option Addr) (sl sl2 : Array (Option Value)) (e r : Nat → Bool) :
    Meets (Builtin.«tuple.__lt__» ⟨[.ref l, .ref b], []⟩)
      (fun A R s => s.heap.get? l = some { cls := .type "tuple", dict := dd, data := .seq items n, slots := sl } ∧ s.heap.get? b = some { cls := .type "tuple", dict := dd2, data := .seq items2 n2, slots := sl2 } ∧
        (∀ j (h1 : j < items.size) (h2 : j < items2.size), EqAt A.in1 s items[j] items2[j] (e j)) ∧ (∀ j (h1 : j < items.size) (h2 : j < items2.size), (∀ i, i < j → e i = true) → e j = false → RcLt A.in1 s items[j] items2[j] (r j)) ∧
        R (.ok (.ret (.bool (firstLt e r (decide (items.size < items2.size)) (List.range (min items.size items2.size)))))) s) :=
  .of_wp fun prog w A R s h => by
    obtain ⟨hp, g, d, tk, os⟩ := s; obtain ⟨hl, hb, he, hr, h⟩ := h
    have f2 := AutoSeq1.sub_tuple_tuple
    have hZ : (items.toList.zip items2.toList).length = min items.size items2.size := by simp
    wp_walk using wpAny_loadPart' hl, wpAny_loadPart' hb, wpAny_forIn_list _ (fun rest b s' => b.1 = none ∧ s' = ⟨hp, g, d, tk, os⟩ ∧ ∃ i, rest = (items.toList.zip items2.toList).drop i ∧ (∀ j, j < i → e j = true) ∧
      R (.ok (.ret (.bool (firstLt e r (decide (items.size < items2.size)) ((List.range (min items.size items2.size)).drop i))))) ⟨hp, g, d, tk, os⟩) _
    case turn =>
      rintro ⟨y, x⟩ rest b s' ⟨hb', rfl, i, hz, hpre, hR⟩
      have hlt : i < (items.toList.zip items2.toList).length := by
        rcases Nat.lt_or_ge i (items.toList.zip items2.toList).length with h' | h'
        · exact h'
        · rw [List.drop_of_length_le h'] at hz; cases hz
      have hm : i < min items.size items2.size := hZ ▸ hlt
      have h1 : i < items.size := Nat.lt_of_lt_of_le hm (Nat.min_le_left _ _)
      have h2 : i < items2.size := Nat.lt_of_lt_of_le hm (Nat.min_le_right _ _)
      rw [List.drop_eq_getElem_cons hlt] at hz
      injection hz with hyx hrest
      have hy : y = items[i] := by have := congrArg Prod.fst hyx; simpa using this
      have hx : x = items2[i] := by have := congrArg Prod.snd hyx; simpa using this
      subst hy hx
      have hd : (List.range (min items.size items2.size)).drop i = i :: (List.range (min items.size items2.size)).drop (i + 1) := by simp [List.drop_eq_getElem_cons, hm]
      rw [hd] at hR
      refine wpAny_bind (he i h1 h2 prog w _ _ ?_)
      cases hy : e i with
      | true =>
        rw [firstLt_yes hy] at hR
        wp_walk
        refine ⟨rfl, rfl, i + 1, hrest, fun j hj => ?_, hR⟩
        rcases Nat.lt_succ_iff_lt_or_eq.mp hj with h | h
        · exact hpre j h
        · rw [h]; exact hy
      | false =>
        rw [firstLt_no hy] at hR
        have hh : ∀ (E : Value → Shared → Prop) (Q : Value → Shared → Prop), Q (.bool (r i)) ⟨hp, g, d, tk, os⟩ → wpAny (model prog w) A.in1 (richCompare .Lt items[i] items2[i]) Q E ⟨hp, g, d, tk, os⟩ := fun E Q h => hr i h1 h2 hpre hy prog w E Q h
        generalize richCompare .Lt items[i] items2[i] = rc at hh ⊢
        wp_walk
        refine hh _ _ ?_
        wp_walk
        exact ⟨_, rfl, hR⟩
    case fin =>
      rintro ⟨b1, b2⟩ s' ⟨hb', rfl, i, hz, hpre, hR⟩
      simp only at hb'
      subst hb'
      have hge : min items.size items2.size ≤ i := by
        rcases Nat.lt_or_ge i (items.toList.zip items2.toList).length with h' | h'
        · rw [List.drop_eq_getElem_cons h'] at hz; cases hz
        · exact hZ ▸ h'
      rw [List.drop_of_length_le (by simpa using hge)] at hR
      wp_walk
      exact ⟨_, rfl, by simpa [Builtin.Tuple.tupleCompareSizes, firstLt] using hR⟩
    case h =>
      exact ⟨rfl, rfl, 0, rfl, fun j hj => absurd hj (Nat.not_lt_zero _), by simpa using h⟩
theorem lg_RcLt_tuples {A : Around} {s : Shared} {l b : Addr} {items items2 : Array Value} {e r : Nat → Bool} (hl : s.heap.IsTuple l items) (hb : s.heap.IsTuple b items2) (hu : A.units < cLine)
    (he : ∀ j (h1 : j < items.size) (h2 : j < items2.size), EqAt A.in1 s items[j] items2[j] (e j)) (hr : ∀ j (h1 : j < items.size) (h2 : j < items2.size), (∀ i, i < j → e i = true) → e j = false → RcLt A.in1 s items[j] items2[j] (r j)) :
    RcLt A s (.ref l) (.ref b) (firstLt e r (decide (items.size < items2.size)) (List.range (min items.size items2.size))) := fun prog w E Q h => by
  obtain ⟨⟨cls, dd, data, sl⟩, ho, hc, n, hd⟩ := id hl
  obtain ⟨⟨cls2, dd2, data2, sl2⟩, ho2, hc2, n2, hd2⟩ := id hb
  simp only at hc hd hc2 hd2
  subst hc hd hc2 hd2
  exact richCompare_meets_room (op := .Lt) ⟨_, ho, rfl⟩ ⟨_, ho2, rfl⟩ F.slot_tuple_lt F.entry_tuple_lt (F.args_tuple_lt_2 _ _) (lg_tuple_ltAt l b items items2 n n2 dd dd2 sl sl2 e r)
    ⟨ho, ho2, he, hr, show Value.bool (firstLt e r (decide (items.size < items2.size)) (List.range (min items.size items2.size))) ≠ Value.notImplemented ∧ Q (.bool (firstLt e r (decide (items.size < items2.size)) (List.range (min items.size items2.size)))) s from ⟨(fun x => nomatch x), h⟩⟩ hu
end PySem.SeqAt
namespace LG
open PySem PySem.Spec PyProof.Rows L2 PySem.SeqAt PySem.W
theorem ltL_eq : ∀ a b : List Nat, ltL a b = decide (a < b)
  | [], [] => by simp [ltL]
  | [], b :: bs => by simp [ltL]
  | a :: as, [] => by simp [ltL]
  | a :: as, b :: bs => by
    rw [ltL, ltL_eq as bs]
    by_cases h1 : a < b
    · have : (a :: as) < (b :: bs) := List.cons_lt_cons_iff.mpr (.inl h1)
      simp [h1, this]
    · by_cases h2 : a = b
      · subst h2
        by_cases h3 : as < bs
        · have : (a :: as) < (a :: bs) := List.cons_lt_cons_iff.mpr (.inr ⟨rfl, h3⟩)
          simp [h3, this]
        · have : ¬ (a :: as) < (a :: bs) := fun z => by
            rcases List.cons_lt_cons_iff.mp z with z | z
            · exact absurd z (Nat.lt_irrefl _)
            · exact h3 z.2
          simp [h3, this]
      · have : ¬ (a :: as) < (b :: bs) := fun z => by
          rcases List.cons_lt_cons_iff.mp z with z | z
          · exact h1 z
          · exact h2 z.1
        simp [h1, h2, this]

theorem firstLt_all {xs ys : List PyData} {k : Bool} : ltPs xs ys = some k →
    firstLt (pairEq xs ys) (fun j => (ltP (xs.getD j .none) (ys.getD j .none)).getD false) (decide (xs.length < ys.length)) (List.range (min xs.length ys.length)) = k := by
  induction xs generalizing ys with
  | nil =>
    intro h
    cases ys with
    | nil => simp only [ltPs] at h; cases h; simp [firstLt]
    | cons y ys => simp only [ltPs] at h; cases h; simp [firstLt]
  | cons x xs ih =>
    intro h
    cases ys with
    | nil => simp only [ltPs] at h; cases h; simp [firstLt]
    | cons y ys =>
      have em : min (x :: xs).length (y :: ys).length = min xs.length ys.length + 1 := by
        rw [List.length_cons, List.length_cons]; omega
      have ed : decide ((x :: xs).length < (y :: ys).length) = decide (xs.length < ys.length) := by
        rw [List.length_cons, List.length_cons]
        exact decide_eq_decide.mpr (by omega)
      rw [em, ed, List.range_succ_eq_map]
      rw [ltPs] at h
      cases hx : PyData.eqv x y with
      | true =>
        rw [hx, if_pos rfl] at h
        rw [firstLt_yes (show pairEq (x :: xs) (y :: ys) 0 = true from hx), firstLt_map, ← ih h]
        rfl
      | false =>
        rw [hx, if_neg Bool.false_ne_true] at h
        rw [firstLt_no (show pairEq (x :: xs) (y :: ys) 0 = false from hx)]
        show (ltP x y).getD false = k
        rw [h]
        rfl

mutual
theorem rcLt_ltP : ∀ (da db : PyData) (k : Bool) (A : Around) (s : Shared) (a b : Value) (as bs : List Addr), Reads s.heap a da as → Reads s.heap b db bs → da.canLay0 = true → db.canLay0 = true → ltP da db = some k → A.units + min da.depth db.depth < cLine → RcLt A s a b k
  | .none, _, _, _, _, _, _, _, _, _, _, _, _, h, _ => by simp [ltP] at h
  | .bool x, db, k, A, s, a, b, as, bs, ra, rb, _, _, h, _ => by
    cases db with
    | bool y =>
      cases ra
      cases rb
      simp only [ltP] at h
      cases h
      intro prog w E Q hq
      refine lt_bool ?_
      have e : decide (b2i x < b2i y) = (!x && y) := by cases x <;> cases y <;> decide
      rw [e]; exact hq
    | _ => simp [ltP] at h
  | .int x, db, k, A, s, a, b, as, bs, ra, rb, _, _, h, _ => by
    cases db with
    | int y =>
      cases ra
      cases rb
      simp only [ltP] at h
      cases h
      intro prog w E Q hq
      exact P.lt_int hq
    | _ => simp [ltP] at h
  | .str x, db, k, A, s, a, b, as, bs, ra, rb, _, _, h, _ => by
    cases db with
    | str y =>
      cases ra
      cases rb
      simp only [ltP] at h
      cases h
      intro prog w E Q hq
      rw [ltL_eq] at hq
      exact P.lt_str hq
    | _ => simp [ltP] at h
  | .list xs, _, _, _, _, _, _, _, _, _, _, _, _, h, _ => by simp [ltP] at h
  | .tuple xs, db, k, A, s, a, b, as, bs, ra, rb, ca, cb, h, hu => by
    cases db with
    | tuple ys =>
      have hal : ltPs xs ys = some k := by simpa [ltP] using h
      cases ra with
      | @tuple l o vs n _ as₁ h1 h2 h3 h4 =>
        cases rb with
        | @tuple l' o' vs' n' _ bs₁ k1 k2 k3 k4 =>
          have n1 : vs.size = xs.length := by simpa using ReadsAll.length _ _ _ h4
          have n2 : vs'.size = ys.length := by simpa using ReadsAll.length _ _ _ k4
          have c1 : PyData.canLayAll0 xs = true := by simpa [PyData.canLay0] using ca
          have c2 : PyData.canLayAll0 ys = true := by simpa [PyData.canLay0] using cb
          rw [← firstLt_all hal, ← n1, ← n2]
          refine lg_RcLt_tuples ⟨_, h1, h2, _, h3⟩ ⟨_, k1, k2, _, k3⟩ (room_here hu) (fun j j1 j2 => ?_) fun j j1 j2 hpre hj => ?_
          · have := eqAt_readsAll xs ys A.in1 s vs.toList vs'.toList _ _ h4 k4 c1 c2 (room_in hu) j (by simpa using j1) (by simpa using j2)
            simpa using this
          · have := rcLt_ltPs xs ys k A.in1 s vs.toList vs'.toList _ _ h4 k4 c1 c2 hal (room_in hu) j (by simpa using j1) (by simpa using j2) hpre hj
            simpa using this
    | _ => simp [ltP] at h
  | .dict _, db, _, _, _, _, _, _, _, _, _, _, _, h, _ => by simp [ltP] at h
theorem rcLt_ltPs : ∀ (xs ys : List PyData) (k : Bool) (A : Around) (s : Shared) (vs ws : List Value) (as bs : List Addr), ReadsAll s.heap vs xs as → ReadsAll s.heap ws ys bs → PyData.canLayAll0 xs = true → PyData.canLayAll0 ys = true → ltPs xs ys = some k →
    A.units + min (PyData.depthAll xs) (PyData.depthAll ys) < cLine → ∀ j (h1 : j < vs.length) (h2 : j < ws.length), (∀ i, i < j → pairEq xs ys i = true) → pairEq xs ys j = false → RcLt A s vs[j] ws[j] ((ltP (xs.getD j .none) (ys.getD j .none)).getD false)
  | [], _, _, _, _, _, _, _, _, ra, _, _, _, _, _, j, h1, _, _, _ => by cases ra; exact absurd h1 (Nat.not_lt_zero _)
  | _ :: _, [], _, _, _, _, _, _, _, _, rb, _, _, _, _, j, _, h2, _, _ => by cases rb; exact absurd h2 (Nat.not_lt_zero _)
  | x :: xs, y :: ys, k, A, s, _, _, _, _, ra, rb, ca, cb, h, hu, j, h1, h2, hpre, hj => by
    have ca' : x.canLay0 = true ∧ PyData.canLayAll0 xs = true := by simpa [PyData.canLayAll0] using ca
    have cb' : y.canLay0 = true ∧ PyData.canLayAll0 ys = true := by simpa [PyData.canLayAll0] using cb
    rw [ltPs] at h
    cases ra with
    | cons r rs =>
      cases rb with
      | cons r' rs' =>
        cases j with
        | zero =>
          have hx : PyData.eqv x y = false := hj
          rw [hx, if_neg Bool.false_ne_true] at h
          show RcLt A s _ _ ((ltP x y).getD false)
          rw [h]
          exact rcLt_ltP x y k A s _ _ _ _ r r' ca'.1 cb'.1 h (room_head hu)
        | succ j =>
          have hx : PyData.eqv x y = true := hpre 0 (Nat.succ_pos _)
          rw [hx, if_pos rfl] at h
          exact rcLt_ltPs xs ys k A s _ _ _ _ rs rs' ca'.2 cb'.2 h (room_tail hu) j (Nat.lt_of_succ_lt_succ h1) (Nat.lt_of_succ_lt_succ h2) (fun i hi => hpre (i + 1) (Nat.succ_lt_succ hi)) hj
end

theorem ltP_tag : ∀ {x y : PyData} {k : Bool}, ltP x y = some k → tagP x ≠ 0 ∧ tagP x ≠ 4 ∧ tagP x ≠ 6
  | .none, _, _, h => by simp only [ltP] at h; cases h
  | .list _, _, _, h => by simp only [ltP] at h; cases h
  | .dict _, _, _, h => by simp only [ltP] at h; cases h
  | .bool _, _, _, _ => by simp only [tagP]; decide
  | .int _, _, _, _ => by simp only [tagP]; decide
  | .str _, _, _, _ => by simp only [tagP]; decide
  | .tuple _, _, _, _ => by simp only [tagP]; decide
theorem tag_tup : ∀ {x : PyData}, tagP x = 5 → ∃ xs, x = .tuple xs
  | .tuple xs, _ => ⟨xs, rfl⟩
  | .none, h => by simp only [tagP] at h; cases h
  | .list _, h => by simp only [tagP] at h; omega
  | .dict _, h => by simp only [tagP] at h; omega
  | .bool _, h => by simp only [tagP] at h; omega
  | .int _, h => by simp only [tagP] at h; omega
  | .str _, h => by simp only [tagP] at h; omega
theorem sortable_atom {x y : PyData} (h : tagP x = tagP y) (h1 : tagP x ≠ 4) (h2 : tagP x ≠ 5) (h3 : tagP x ≠ 6) : alike x y = true := by
  cases x <;> cases y <;> simp_all [tagP, alike]
mutual
theorem eqv_toks : ∀ (x y : PyData), PyData.eqv x y = true → keyToks x = keyToks y
  | .none, y, h => by cases y <;> simp_all [PyData.eqv, keyToks]
  | .bool a, y, h => by
    cases y with
    | bool b => have e : a = b := by simpa [PyData.eqv] using h
                rw [e]
    | int b =>
      simp only [PyData.eqv, beq_iff_eq] at h
      simp only [keyToks]
      rw [← h]
    | _ => simp [PyData.eqv] at h
  | .int a, y, h => by
    cases y with
    | int b => have e : a = b := by simpa [PyData.eqv] using h
               rw [e]
    | bool b =>
      simp only [PyData.eqv, beq_iff_eq] at h
      simp only [keyToks]
      rw [h]
    | _ => simp [PyData.eqv] at h
  | .str a, y, h => by
    cases y with
    | str b => have e : a = b := by simpa [PyData.eqv] using h
               rw [e]
    | _ => simp [PyData.eqv] at h
  | .list xs, y, h => by
    cases y with
    | list ys => simp only [PyData.eqv] at h; simp only [keyToks]; exact eqvs_toks xs ys h
    | _ => simp [PyData.eqv] at h
  | .tuple xs, y, h => by
    cases y with
    | tuple ys => simp only [PyData.eqv] at h; simp only [keyToks]; exact eqvs_toks xs ys h
    | _ => simp [PyData.eqv] at h
  | .dict _, y, h => by cases y <;> simp [PyData.eqv] at h
theorem eqvs_toks : ∀ (xs ys : List PyData), PyData.eqvAll xs ys = true → keyToksAll xs = keyToksAll ys
  | [], [], _ => rfl
  | [], _ :: _, h => by simp [PyData.eqvAll] at h
  | _ :: _, [], h => by simp [PyData.eqvAll] at h
  | x :: xs, y :: ys, h => by
    simp only [PyData.eqvAll, Bool.and_eq_true] at h
    rw [toks_all_cons, toks_all_cons, eqv_toks x y h.1, eqvs_toks xs ys h.2]
end
mutual
/-- the rows of signs tell the same order -/
theorem ltP_toks : ∀ (x y : PyData) (k : Bool), ltP x y = some k → PyProof.Rows.lexLt itemOrd (keyToks x) (keyToks y) = k ∧ (PyData.eqv x y = false → ∀ l m, PyProof.Rows.lexLt itemOrd (keyToks x ++ l) (keyToks y ++ m) = k)
  | .none, y, k, h => by simp [ltP] at h
  | .bool a, y, k, h => by
    cases y with
    | bool b =>
      have al : alike (.bool a) (.bool b) = true := rfl
      have e1 : PyProof.Rows.lexLt itemOrd (keyToks (.bool a)) (keyToks (.bool b)) = k := by
        have := dataLt_bool a b
        unfold dataLt at this
        rw [this]
        simp only [ltP] at h
        cases h
        cases a <;> cases b <;> decide
      exact ⟨e1, fun e l m => ((toks_eqv _ _ al).2 e l m).trans e1⟩
    | _ => simp [ltP] at h
  | .int a, y, k, h => by
    cases y with
    | int b =>
      have al : alike (.int a) (.int b) = true := rfl
      have e1 : PyProof.Rows.lexLt itemOrd (keyToks (.int a)) (keyToks (.int b)) = k := by
        have := dataLt_int a b
        unfold dataLt at this
        rw [this]
        simp only [ltP] at h
        exact Option.some.inj h
      exact ⟨e1, fun e l m => ((toks_eqv _ _ al).2 e l m).trans e1⟩
    | _ => simp [ltP] at h
  | .str a, y, k, h => by
    cases y with
    | str b =>
      have al : alike (.str a) (.str b) = true := rfl
      have e1 : PyProof.Rows.lexLt itemOrd (keyToks (.str a)) (keyToks (.str b)) = k := by
        have := dataLt_str a b
        unfold dataLt at this
        rw [this, ← ltL_eq]
        simp only [ltP] at h
        exact Option.some.inj h
      exact ⟨e1, fun e l m => ((toks_eqv _ _ al).2 e l m).trans e1⟩
    | _ => simp [ltP] at h
  | .list xs, y, k, h => by simp [ltP] at h
  | .tuple xs, y, k, h => by
    cases y with
    | tuple ys =>
      simp only [ltP] at h
      simp only [keyToks, PyData.eqv]
      exact ltPs_toks xs ys k h
    | _ => simp [ltP] at h
  | .dict _, y, k, h => by simp [ltP] at h
theorem ltPs_toks : ∀ (xs ys : List PyData) (k : Bool), ltPs xs ys = some k → PyProof.Rows.lexLt itemOrd (keyToksAll xs) (keyToksAll ys) = k ∧ (PyData.eqvAll xs ys = false → ∀ l m, PyProof.Rows.lexLt itemOrd (keyToksAll xs ++ l) (keyToksAll ys ++ m) = k)
  | [], [], k, h => by
    simp only [ltPs] at h; cases h
    exact ⟨lex_irrefl _, fun e => absurd e (by simp [PyData.eqvAll])⟩
  | [], y :: ys, k, h => by
    simp only [ltPs] at h; cases h
    simp only [toks_all_cons, keyToksAll, List.cons_append, List.nil_append]
    exact ⟨by rw [lex_diff (O := itemOrd) (by simp)]; simp [itemLt], fun _ l m => by rw [lex_diff (O := itemOrd) (by simp)]; simp [itemLt]⟩
  | x :: xs, [], k, h => by
    simp only [ltPs] at h; cases h
    simp only [toks_all_cons, keyToksAll, List.cons_append, List.nil_append]
    exact ⟨by rw [lex_diff (O := itemOrd) (by simp)]; simp [itemLt], fun _ l m => by rw [lex_diff (O := itemOrd) (by simp)]; simp [itemLt]⟩
  | x :: xs, y :: ys, k, h => by
    rw [ltPs] at h
    rw [eqv_all_cons, toks_all_cons, toks_all_cons]
    cases hx : PyData.eqv x y with
    | true =>
      rw [hx, if_pos rfl] at h
      obtain ⟨a1, a2⟩ := ltPs_toks xs ys k h
      rw [eqv_toks x y hx, Bool.true_and]
      refine ⟨(lex_self (O := itemOrd) _ _ _).trans ((lex_pre _ _ _).trans a1), fun e l m => ?_⟩
      simp only [List.cons_append, List.append_assoc]
      exact (lex_self (O := itemOrd) _ _ _).trans ((lex_pre _ _ _).trans (a2 e l m))
    | false =>
      rw [hx, if_neg Bool.false_ne_true] at h
      obtain ⟨a1, a2⟩ := ltP_toks x y k h
      refine ⟨(lex_self (O := itemOrd) _ _ _).trans (a2 hx _ _), fun _ l m => ?_⟩
      simp only [List.cons_append, List.append_assoc]
      exact (lex_self (O := itemOrd) _ _ _).trans (a2 hx _ _)
end
mutual
/-- a value reads as one datum -/
theorem reads_one {h : Heap} : ∀ (d d' : PyData) (v : Value) (as as' : List Addr), d.canLay0 = true → Reads h v d as → Reads h v d' as' → d = d'
  | .none, _, _, _, _, _, r, r' => by cases r; cases r'; rfl
  | .bool _, _, _, _, _, _, r, r' => by cases r; cases r'; rfl
  | .int _, _, _, _, _, _, r, r' => by cases r; cases r'; rfl
  | .str _, _, _, _, _, _, r, r' => by cases r; cases r'; rfl
  | .list xs, d', _, _, _, c, r, r' => by
    have c' : PyData.canLayAll0 xs = true := by simpa [PyData.canLay0] using c
    cases r with
    | list h1 h2 h3 h4 =>
      cases r' with
      | list k1 k2 k3 k4 =>
        rw [h1] at k1; cases k1
        rw [h3] at k3; cases k3
        rw [reads_ones xs _ _ _ _ c' h4 k4]
      | tuple k1 k2 k3 k4 => rw [h1] at k1; cases k1; rw [h2] at k2; simp at k2
      | dict k1 k2 k3 k4 k5 => rw [h1] at k1; cases k1; rw [h2] at k2; simp at k2
  | .tuple xs, d', _, _, _, c, r, r' => by
    have c' : PyData.canLayAll0 xs = true := by simpa [PyData.canLay0] using c
    cases r with
    | tuple h1 h2 h3 h4 =>
      cases r' with
      | tuple k1 k2 k3 k4 =>
        rw [h1] at k1; cases k1
        rw [h3] at k3; cases k3
        rw [reads_ones xs _ _ _ _ c' h4 k4]
      | list k1 k2 k3 k4 => rw [h1] at k1; cases k1; rw [h2] at k2; simp at k2
      | dict k1 k2 k3 k4 k5 => rw [h1] at k1; cases k1; rw [h2] at k2; simp at k2
  | .dict _, _, _, _, _, c, _, _ => by simp [PyData.canLay0] at c
theorem reads_ones {h : Heap} : ∀ (xs ys : List PyData) (vs : List Value) (as as' : List Addr), PyData.canLayAll0 xs = true → ReadsAll h vs xs as → ReadsAll h vs ys as' → xs = ys
  | [], _, _, _, _, _, r, r' => by cases r; cases r'; rfl
  | x :: xs, _, _, _, _, c, r, r' => by
    have c' : x.canLay0 = true ∧ PyData.canLayAll0 xs = true := by simpa [PyData.canLayAll0] using c
    cases r with
    | cons h1 h2 =>
      cases r' with
      | cons k1 k2 => rw [reads_one x _ _ _ _ c'.1 h1 k1, reads_ones xs _ _ _ _ c'.2 h2 k2]
end
theorem dataKind_cmp {h : Heap} {ds : List PyData} (hal : ∀ d, d ∈ ds → d.canLay0 = true) {v : Value} {d : PyData} {as : List Addr} (hd : d ∈ ds) (r : Reads h v d as) : (dataKind h ds).keyOf v = some (keyToks d) := by
  have q : ∃ d, d ∈ ds ∧ ∃ as, Reads h v d as := ⟨d, hd, as, r⟩
  have e : (dataKind h ds).keyOf v = some (keyToks q.choose) := by
    show (open Classical in if q : ∃ d, d ∈ ds ∧ ∃ as, Reads h v d as then some (keyToks q.choose) else none) = _
    rw [dif_pos q]
  obtain ⟨h1, as', h2⟩ := q.choose_spec
  rw [e, reads_one _ _ _ _ _ (hal _ h1) h2 r]
/-- every two can be compared -/
def Cmps (ds : List PyData) : Prop := ∀ d, d ∈ ds → ∀ d', d' ∈ ds → ∃ k, ltP d d' = some k
theorem allCmp_of {x : PyData} : ∀ {r : List PyData}, allCmp x r = true → ∀ y, y ∈ r → (∃ k, ltP x y = some k) ∧ ∃ k, ltP y x = some k
  | [], _, y, h => absurd h (by simp)
  | z :: r, h, y, hy => by
    simp only [allCmp, Bool.and_eq_true] at h
    rcases List.mem_cons.mp hy with rfl | hy
    · exact ⟨Option.isSome_iff_exists.mp h.1.1, Option.isSome_iff_exists.mp h.1.2⟩
    · exact allCmp_of h.2 y hy
theorem cmps_of : ∀ {ds : List PyData}, allCmps ds = true → Cmps ds
  | [], _, d, h, _, _ => absurd h (by simp)
  | x :: r, h, d, hd, d', hd' => by
    simp only [allCmps, Bool.and_eq_true] at h
    rcases List.mem_cons.mp hd with e | hd
    · rcases List.mem_cons.mp hd' with e' | hd'
      · rw [e, e']; exact Option.isSome_iff_exists.mp h.1.1
      · rw [e]; exact (allCmp_of h.1.2 d' hd').1
    · rcases List.mem_cons.mp hd' with e' | hd'
      · rw [e']; exact (allCmp_of h.1.2 d hd).2
      · exact cmps_of h.2 d hd d' hd'
theorem tag_type {x y : PyData} (h : tagP x = tagP y) : dataType x = dataType y := by
  cases x <;> cases y <;> simp_all [tagP, dataType]

section
variable {prog : Program} {w : World} {A : Around} {E : Value → Shared → Prop} {s : Shared}
theorem oneLt_cmp {f : Bool} {da db : PyData} {k : Bool} {a b : Value} {as bs : List Addr} {Q : Bool → Shared → Prop} (hf : f = true → tagP da = tagP db ∧ (∀ xs, da ≠ .tuple xs)) (ra : Reads s.heap a da as) (rb : Reads s.heap b db bs) (ca : da.canLay0 = true) (cb : db.canLay0 = true) (h : ltP da db = some k)
    (hu : A.units + min da.depth db.depth < cLine) (hq : Q k s) : wpAny (model prog w) A (oneLt' f a b) Q E s := by
  cases f with
  | false =>
    rw [oneLt'_eq]
    simp only [Bool.false_eq_true, if_false]
    exact wpAny_bind (rcLt_ltP da db k A s a b as bs ra rb ca cb h hu prog w E _ (wpAny_truthy_bool hq))
  | true =>
    obtain ⟨t1, t2⟩ := hf rfl
    have tg := ltP_tag h
    have hn : da ≠ .none := fun e => tg.1 (by rw [e]; rfl)
    have al : alike da db = true := sortable_atom t1 tg.2.1 (fun e => let ⟨xs, e'⟩ := tag_tup e; t2 xs e') tg.2.2
    refine oneLt_alike (fun _ => t2) ra rb al hn hu ?_
    have e : dataLt da db = k := (ltP_toks da db k h).1
    rw [e]; exact hq
theorem katLex_cmp {b fin k : Bool} {Q : Bool → Shared → Prop} : ∀ (xs ys : List PyData) (i : Nat) (vs ws : List Value) (as bs : List Addr), ReadsAll s.heap vs xs as → ReadsAll s.heap ws ys bs → PyData.canLayAll0 xs = true → PyData.canLayAll0 ys = true → ltPs xs ys = some k →
    A.units + min (PyData.depthAll xs) (PyData.depthAll ys) < cLine → (b = true → i = 0 → ∀ x r y t, xs = x :: r → ys = y :: t → tagP x = tagP y ∧ ∀ t, x ≠ .tuple t) → fin = decide (xs.length < ys.length) → Q k s → KatLex prog w A b fin Q (vs.zip ws) i s
  | [], [], i, _, _, _, _, ra, rb, _, _, h, _, _, hf, hq => by
    cases ra
    cases rb
    have e : fin = false := by rw [hf]; rfl
    subst e
    simp only [ltPs] at h; cases h
    exact kat_nil hq
  | [], y :: ys, i, _, _, _, _, ra, rb, _, _, h, _, _, hf, hq => by
    cases ra
    have e : fin = true := by rw [hf]; exact decide_eq_true (Nat.succ_pos _)
    subst e
    simp only [ltPs] at h; cases h
    rw [List.zip_nil_left]
    exact kat_nil hq
  | x :: xs, [], i, _, _, _, _, ra, rb, _, _, h, _, _, hf, hq => by
    cases rb
    have e : fin = false := by rw [hf]; exact decide_eq_false (Nat.not_lt_zero _)
    subst e
    simp only [ltPs] at h; cases h
    rw [List.zip_nil_right]
    exact kat_nil hq
  | x :: xs, y :: ys, i, _, _, _, _, ra, rb, ca, cb, h, hu, hb, hf, hq => by
    have ca' : x.canLay0 = true ∧ PyData.canLayAll0 xs = true := by simpa [PyData.canLayAll0] using ca
    have cb' : y.canLay0 = true ∧ PyData.canLayAll0 ys = true := by simpa [PyData.canLayAll0] using cb
    have hf' : fin = decide (xs.length < ys.length) := by
      rw [hf]
      simp only [List.length_cons, Nat.add_lt_add_iff_right]
    rw [ltPs] at h
    cases ra with
    | cons r rs =>
      cases rb with
      | cons r' rs' =>
        rw [List.zip_cons_cons]
        refine kat_cons (eqAt_reads x y A s _ _ _ _ r r' ca'.1 cb'.1 (room_head hu) prog w _ _ ?_)
        cases hx : PyData.eqv x y with
        | true =>
          rw [hx, if_pos rfl] at h
          exact kat_yes (katLex_cmp xs ys (i + 1) _ _ _ _ rs rs' ca'.2 cb'.2 h (room_tail hu) (fun _ hi => absurd hi (Nat.succ_ne_zero i)) hf' hq)
        | false =>
          rw [hx, if_neg Bool.false_ne_true] at h
          refine kat_no (oneLt_cmp (fun hbi => ?_) r r' ca'.1 cb'.1 h (room_head hu) hq)
          rw [Bool.and_eq_true] at hbi
          exact hb hbi.1 (by simpa using hbi.2) x xs y ys rfl rfl
theorem head_atom {p : PyData} (h : 1 ≤ headTag p ∧ headTag p ≤ 3) : headTag p = tagP p ∧ ∀ xs, p ≠ .tuple xs := by
  cases p with
  | tuple xs => cases xs <;> simp_all [headTag, tagP] <;> omega
  | _ => exact ⟨rfl, fun xs e => by cases e⟩
theorem head_tup {p : PyData} (h : 11 ≤ headTag p) : ∃ x r, p = .tuple (x :: r) ∧ headTag p = 10 + tagP x := by
  cases p with
  | tuple xs =>
    cases xs with
    | nil => simp [headTag, tagP] at h
    | cons x r => exact ⟨x, r, rfl, rfl⟩
  | _ => simp [headTag, tagP] at h
/-- values that read as data of which any two can be compared can be sorted -/
theorem sortsAt_cmp {vs : List Value} {ds : List PyData} (e : EachIs (fun v d => ∃ as, Reads s.heap v d as) vs ds) (hc : ∀ d, d ∈ ds → d.canLay0 = true) (hal : Cmps ds) (hk : kindOk ds = true) (hu : ∀ d, d ∈ ds → A.units + d.depth < cLine) : SortsAt prog w A s (dataKind s.heap ds) vs := by
  have room : ∀ {d d' : PyData}, d ∈ ds → A.units + min d.depth d'.depth < cLine := fun {d d'} hd => Nat.lt_of_le_of_lt (Nat.add_le_add_left (Nat.min_le_left _ _) _) (hu d hd)
  refine ⟨fun v hv => ?_, ?_⟩
  · obtain ⟨d, hd, as, r⟩ := e.left v hv
    exact ⟨_, dataKind_cmp hc hd r⟩
  · cases ds with
    | nil =>
      cases e
      exact ⟨general', fun E x y a b Q ha _ _ => (by
        obtain ⟨d, _, hd, _⟩ := dataKind_inv ha
        exact absurd hd (by simp)), fun h2 => absurd h2 (by simp)⟩
    | cons d₀ ds₀ =>
      simp only [kindOk, Bool.and_eq_true, Bool.or_eq_true, decide_eq_true_eq, List.all_eq_true, beq_iff_eq] at hk
      obtain ⟨hk0, hk1⟩ := hk
      have same : ∀ d, d ∈ d₀ :: ds₀ → headTag d = headTag d₀ := fun d hd => by
        rcases List.mem_cons.mp hd with rfl | hd
        · rfl
        · exact hk1 d hd
      rcases hk0 with ha | ht
      · -- one plain kind
        have atom : ∀ d, d ∈ d₀ :: ds₀ → tagP d = tagP d₀ ∧ ∀ xs, d ≠ .tuple xs := fun d hd => by
          obtain ⟨a1, a2⟩ := head_atom (p := d) (by rw [same d hd]; exact ha)
          obtain ⟨b1, _⟩ := head_atom (p := d₀) ha
          exact ⟨by rw [← a1, ← b1]; exact same d hd, a2⟩
        refine ⟨oneType', ?_, fun h2 E Q hq => ?_⟩
        · intro E x y a b Q ha hb hq
          obtain ⟨d, as, hd, ra, rfl⟩ := dataKind_inv ha
          obtain ⟨d', as', hd', rb, rfl⟩ := dataKind_inv hb
          rw [keyLt'_oneType]
          obtain ⟨k, hk⟩ := hal d hd d' hd'
          have hq' : Q (PyProof.Rows.lexLt itemOrd (keyToks d) (keyToks d')) s := hq
          rw [(ltP_toks d d' k hk).1] at hq'
          exact oneLt_cmp (fun _ => ⟨(atom d hd).1.trans (atom d' hd').1.symm, (atom d hd).2⟩) ra rb (hc d hd) (hc d' hd') hk (room hd) hq'
        · refine kas_kind (T := dataType d₀) h2 (fun v hv => ?_) (dataType_other (atom d₀ (List.mem_cons_self ..)).2) (beq_self_eq_true _) hq
          obtain ⟨d, hd, as, r⟩ := e.left v hv
          rw [← tag_type (atom d hd).1]
          exact looks_reads r
      · obtain ⟨x₀, r₀, e₀, t₀⟩ := head_tup ht.1
        have tups : ∀ d, d ∈ d₀ :: ds₀ → ∃ x r, d = .tuple (x :: r) ∧ tagP x = tagP x₀ := fun d hd => by
          obtain ⟨x, r, ex, tx⟩ := head_tup (p := d) (by rw [same d hd]; exact ht.1)
          refine ⟨x, r, ex, ?_⟩
          have := same d hd
          omega
        refine ⟨tuples' (dataType x₀ != Value.type "tuple"), ?_, fun h2 E Q hq => ?_⟩
        · intro E x y a b Q ha hb hq
          obtain ⟨d, as, hd, ra, rfl⟩ := dataKind_inv ha
          obtain ⟨d', as', hd', rb, rfl⟩ := dataKind_inv hb
          obtain ⟨k, hk⟩ := hal d hd d' hd'
          have hroom := room (d' := d') hd
          have cd := hc d hd
          have cd' := hc d' hd'
          have hq' : Q (PyProof.Rows.lexLt itemOrd (keyToks d) (keyToks d')) s := hq
          rw [(ltP_toks d d' k hk).1] at hq'
          obtain ⟨x1, r1, rfl, g1⟩ := tups d hd
          obtain ⟨x2, r2, rfl, g2⟩ := tups d' hd'
          have hk' : ltPs (x1 :: r1) (x2 :: r2) = some k := by simpa only [ltP] using hk
          cases ra with
          | @tuple l o xs n _ _ h1 h2 h3 h4 =>
            cases rb with
            | @tuple l' o' xs' n' _ _ k1 k2 k3 k4 =>
              have n1 : xs.size = (x1 :: r1).length := by simpa using SeqAt.ReadsAll.length _ _ _ h4
              have n2 : xs'.size = (x2 :: r2).length := by simpa using SeqAt.ReadsAll.length _ _ _ k4
              refine kat_lt h1 h3 k1 k3 (katLex_cmp (x1 :: r1) (x2 :: r2) 0 _ _ _ _ h4 k4 (by simpa [PyData.canLay0] using cd) (by simpa [PyData.canLay0] using cd') hk' (by have q := SeqAt.room_in hroom; omega) (fun hb _ x r y t ex ey => ?_) (by rw [n1, n2]) hq')
              obtain ⟨rfl, rfl⟩ := List.cons.inj ex
              obtain ⟨rfl, rfl⟩ := List.cons.inj ey
              refine ⟨g1.trans g2.symm, fun t => ?_⟩
              rw [← tag_type g1] at hb
              exact dataType_tuple hb t
        · obtain ⟨fs, t1, t2, t3⟩ := each_katTups e (fun d hd => let ⟨x, r, ex, _⟩ := tups d hd; ⟨x, r, ex⟩)
          refine kat_kind (T := dataType x₀) t1 (by omega) (fun f hf => ?_) (beq_self_eq_true _) hq
          obtain ⟨x, r, as, m1, m2⟩ := t3 f hf
          obtain ⟨x', r', ex, tx⟩ := tups _ m1
          injection ex with ex
          obtain ⟨rfl, rfl⟩ := List.cons.inj ex
          rw [← tag_type tx]
          exact looks_reads m2
end
end LG
set_option Elab.async false
set_option linter.all false
set_option maxRecDepth 100000
/-! LGD: dicts whose keys are tuples. -/
namespace LG
open PySem PySem.Spec PyProof.Rows L2
section
variable {X : Cx} {ca : Nat → Addr} {pins : List (Addr × Obj)} {σ : L2.St} {μ : List Addr} {H : Hp} {s : Shared} {st : Sto} {A : Around} {E : Value → Shared → Prop}
mutual
theorem nested_ok (I : Inv X pins σ H s) : ∀ (d : D) (x : V) (v : Value) (k : NestedKey), RV X.K μ H x d → RelV x v → keyD d = some k → NestedIs s.heap k v
  | .non, _, v, k, h, r, e => by
    cases h
    simp only [keyD] at e
    cases e
    cases (show v = Value.none from r)
    exact .none
  | .bl b, _, v, k, h, r, e => by
    cases h
    simp only [keyD] at e
    cases e
    cases (show v = Value.bool b from r)
    exact .bool rfl
  | .int i, _, v, k, h, r, e => by
    cases h
    simp only [keyD] at e
    cases e
    obtain ⟨t, rfl⟩ := (show ∃ t, v = Value.int i t from r)
    exact .int i t
  | .str x, _, v, k, h, r, e => by
    cases h with
    | str y =>
      simp only [keyD] at e
      cases e
      obtain ⟨t, rfl⟩ := (show ∃ t, v = Value.str y t from r)
      exact .text y t
  | .tup ds, _, v, k, h, r, e => by
    cases h with
    | @tup a vs _ ht hr =>
      simp only [keyD] at e
      cases q : keyDs ds with
      | none => rw [q] at e; cases e
      | some ks =>
        rw [q] at e
        cases e
        cases (show v = Value.ref a from r)
        obtain ⟨its, rv, ⟨o, ho, hc, n, hd⟩, hz⟩ := I.tuple ht.sq
        exact .tup ho hc hd (by simpa using nesteds_ok I ds vs its ks hr rv q)
  | .ref n, _, v, k, h, r, e => by simp only [keyD] at e; cases e
  | .kl xs, _, v, k, h, r, e => by simp only [keyD] at e; cases e
theorem nesteds_ok (I : Inv X pins σ H s) : ∀ (ds : List D) (xs : List V) (vs : List Value) (ks : List NestedKey), RVs X.K μ H xs ds → Vals xs vs → keyDs ds = some ks → NestedAll s.heap ks vs
  | [], _, vs, ks, h, r, e => by
    cases h
    simp only [keyDs] at e
    cases e
    cases r
    exact .nil
  | d :: ds, _, vs, ks, h, r, e => by
    cases h with
    | cons h1 h2 =>
      simp only [keyDs] at e
      cases q1 : keyD d with
      | none => rw [q1] at e; cases e
      | some k =>
        rw [q1] at e
        simp only at e
        cases q2 : keyDs ds with
        | none => rw [q2] at e; cases e
        | some ks =>
          rw [q2] at e
          cases e
          cases r with
          | cons r1 r2 => exact .cons (nested_ok I d _ _ k h1 r1 q1) (nesteds_ok I ds _ _ ks h2 r2 q2)
end
theorem keyT_ok {d : D} {k : NestedKey} (e : keyT d = some k) : keyD d = some k ∧ k.depth ≤ 8 ∧ ∃ ds, d = .tup ds := by
  unfold keyT at e
  split at e
  · rename_i ks e1
    split at e
    · rename_i h
      cases e
      refine ⟨e1, h, ?_⟩
      cases d with
      | tup ds => exact ⟨ds, rfl⟩
      | _ => simp [keyD] at e1
    · cases e
  · cases e
theorem pair_is {kvs : List (D × D)} {xs : List (NestedKey × Addr × Value)} (I : Inv X pins σ H s) (r : Paired (DRel X.K μ H) kvs xs) : ∀ x ∈ xs, (nestedKind X.prog X.w).is s.heap x.1 x.2.1 := by
  induction r with
  | nil => intro x hx; exact nomatch hx
  | @cons p q ps qs hq t ih =>
    intro x hx
    rcases List.mem_cons.mp hx with e | hx
    · subst e
      obtain ⟨h1, h2, h3, _⟩ := hq
      exact ⟨nested_ok I p.1 _ _ _ h3 rfl h1, h2⟩
    · exact ih x hx
/-- the dict, as the rules of dicts want it -/
theorem dct_of {a : Addr} {kvs : List (D × D)} {xs : List (NestedKey × Addr × Value)} (I : Inv X pins σ H s) (e : H a = some (dctO X.w a xs)) (r : Paired (DRel X.K μ H) kvs xs) (hn : (xs.map (·.1)).Nodup) : s.heap.DictOfH (nestedKind X.prog X.w) a xs := by
  obtain ⟨⟨ep, o, h1, h2, h3⟩, _⟩ := (show ObjOk X.prog X.w H s.heap a (dctO X.w a xs) from I.hok a _ e)
  refine ⟨o, _, ep, h1, h2, h3, ?_, pair_is I r, hn⟩
  show (xs.map (entN X.w)) = xs.map (entryOfKey (nestedKind X.prog X.w))
  rfl
theorem keyIs_eq {k : NestedKey} {p : D × D} {x : NestedKey × Addr × Value} {K : PySem.W.Frag} (h : DRel K μ H p x) : keyIs k p.1 = decide (x.1 = k) := by
  unfold keyIs
  rw [h.1]
  exact (NestedKey.decide_eq x.1 k).symm
theorem dGet_at {K : PySem.W.Frag} {k : NestedKey} {kvs : List (D × D)} {xs : List (NestedKey × Addr × Value)} (r : Paired (DRel K μ H) kvs xs) :
    (dGet k kvs = none ∧ atKey xs k = none) ∨ ∃ d p v, dGet k kvs = some d ∧ atKey xs k = some p ∧ RelV v p.2 ∧ RV K μ H v d := by
  induction r with
  | nil => exact .inl ⟨rfl, rfl⟩
  | @cons p q ps qs hq t ih =>
    unfold dGet atKey at ih ⊢
    rw [List.find?_cons, List.find?_cons, keyIs_eq hq]
    by_cases c : q.1 = k
    · rw [decide_eq_true c]
      obtain ⟨h1, h2, h3, v, h4, h5⟩ := hq
      exact .inr ⟨p.2, q.2, v, rfl, rfl, h4, h5⟩
    · rw [decide_eq_false c]
      exact ih
theorem dGet_isSome {K : PySem.W.Frag} {k : NestedKey} {kvs : List (D × D)} {xs : List (NestedKey × Addr × Value)} (r : Paired (DRel K μ H) kvs xs) : (atKey xs k).isSome = (dGet k kvs).isSome := by
  rcases dGet_at (k := k) r with ⟨h1, h2⟩ | ⟨d, p, v, h1, h2, _⟩ <;> rw [h1, h2] <;> rfl
theorem dPut_at {K : PySem.W.Frag} {k : NestedKey} {d e : D} {b : Addr} {v : V} {u : Value} {kvs : List (D × D)} {xs : List (NestedKey × Addr × Value)} (r : Paired (DRel K μ H) kvs xs) (hk : keyD d = some k) (hd : k.depth ≤ 8) (hb : RV K μ H (.ref b) d) (rv : RelV v u) (hv : RV K μ H v e) :
    Paired (DRel K μ H) (dPut k d e kvs) (storedH xs k b u) := by
  unfold dPut storedH
  rw [dGet_isSome r]
  by_cases c : (dGet k kvs).isSome = true
  · rw [if_pos c, if_pos c]
    clear c
    induction r with
    | nil => exact .nil
    | @cons p q ps qs hq t ih =>
      rw [List.map_cons, List.map_cons]
      refine .cons ?_ ih
      rw [keyIs_eq hq]
      unfold putAt
      obtain ⟨h1, h2, h3, w, h4, h5⟩ := hq
      by_cases c : q.1 = k
      · rw [decide_eq_true c, if_pos rfl, if_pos c]
        exact ⟨h1, h2, h3, v, rv, hv⟩
      · rw [decide_eq_false c, if_neg c]
        exact ⟨h1, h2, h3, w, h4, h5⟩
  · rw [if_neg c, if_neg c]
    exact r.snoc ⟨hk, hd, hb, v, rv, hv⟩
theorem dPut_len {k : NestedKey} {d e : D} {kvs : List (D × D)} : (dPut k d e kvs).length ≤ kvs.length + 1 := by
  unfold dPut
  split
  · rw [List.length_map]; omega
  · rw [List.length_append]; simp
theorem room_nested (hu : X.A.units + 64 < cLine) : (nestedKind X.prog X.w).room X.A.in1 := by
  show X.A.units + 1 + 8 < cLine
  omega
/-- x in d, x not in d, d[x] -/
theorem dct_in {a : Addr} {x : V} {d : D} {v : Value} {k : NestedKey} {kvs : List (D × D)} {xs : List (NestedKey × Addr × Value)} {Q : Value → Shared → Prop} (hu : X.A.units + 64 < cLine) (I : Inv X pins σ H s) (e : H a = some (dctO X.w a xs)) (r : Paired (DRel X.K μ H) kvs xs) (hn : (xs.map (·.1)).Nodup) (hs : (a == sysModules) = false)
    (hx : RV X.K μ H x d) (rx : RelV x v) (hk : keyT d = some k) (h : ∀ s', Inv X pins σ H s' → Q (.bool (dGet k kvs).isSome) s') : wpAny (model X.prog X.w) X.A (compareOp .In v (.ref a)) Q E s := by
  obtain ⟨k1, k2, ds, rfl⟩ := keyT_ok hk
  cases hx with
  | @tup b vs _ ht hr =>
    have ni := nested_ok I (.tup ds) _ v k (.tup ht hr) rx k1
    cases (show v = Value.ref b from rx)
    refine wpAny_in_heap (room_nested hu) ⟨ni, k2⟩ hs (dct_of I e r hn) ?_
    rw [dGet_isSome r]
    exact h _ (I.tok _)
theorem dct_notIn {a : Addr} {x : V} {d : D} {v : Value} {k : NestedKey} {kvs : List (D × D)} {xs : List (NestedKey × Addr × Value)} {Q : Value → Shared → Prop} (hu : X.A.units + 64 < cLine) (I : Inv X pins σ H s) (e : H a = some (dctO X.w a xs)) (r : Paired (DRel X.K μ H) kvs xs) (hn : (xs.map (·.1)).Nodup) (hs : (a == sysModules) = false)
    (hx : RV X.K μ H x d) (rx : RelV x v) (hk : keyT d = some k) (h : ∀ s', Inv X pins σ H s' → Q (.bool (!(dGet k kvs).isSome)) s') : wpAny (model X.prog X.w) X.A (compareOp .NotIn v (.ref a)) Q E s := by
  obtain ⟨k1, k2, ds, rfl⟩ := keyT_ok hk
  cases hx with
  | @tup b vs _ ht hr =>
    have ni := nested_ok I (.tup ds) _ v k (.tup ht hr) rx k1
    cases (show v = Value.ref b from rx)
    refine wpAny_notIn_heap (room_nested hu) ⟨ni, k2⟩ hs (dct_of I e r hn) ?_
    rw [dGet_isSome r]
    exact h _ (I.tok _)
theorem dct_get {a : Addr} {x : V} {d y : D} {v : Value} {k : NestedKey} {kvs : List (D × D)} {xs : List (NestedKey × Addr × Value)} {Q : Value → Shared → Prop} (hu : X.A.units + 64 < cLine) (I : Inv X pins σ H s) (e : H a = some (dctO X.w a xs)) (r : Paired (DRel X.K μ H) kvs xs) (hn : (xs.map (·.1)).Nodup)
    (hx : RV X.K μ H x d) (rx : RelV x v) (hk : keyT d = some k) (hg : dGet k kvs = some y) (h : ∀ w u s', Inv X pins σ H s' → RelV w u → RV X.K μ H w y → Q u s') : wpAny (model X.prog X.w) X.A (getItem (.ref a) v) Q E s := by
  obtain ⟨k1, k2, ds, rfl⟩ := keyT_ok hk
  cases hx with
  | @tup b vs _ ht hr =>
    have ni := nested_ok I (.tup ds) _ v k (.tup ht hr) rx k1
    cases (show v = Value.ref b from rx)
    rcases dGet_at (k := k) r with ⟨h1, h2⟩ | ⟨d', p, w, h1, h2, h3, h4⟩
    · rw [hg] at h1; cases h1
    · rw [hg] at h1; cases h1
      exact wpAny_getItem_heap (room_nested hu) ⟨ni, k2⟩ (dct_of I e r hn) h2 (h w p.2 _ (I.tok _) h3 h4)
theorem storedH_keys {xs : List (NestedKey × Addr × Value)} {k : NestedKey} {b : Addr} {u : Value} (hl : xs.length ≤ 100) : True := True.intro
/-- d[x] = y -/
theorem dct_set {a : Addr} {x y : V} {d e' : D} {v u : Value} {k : NestedKey} {kvs : List (D × D)} {xs : List (NestedKey × Addr × Value)} {Q : Unit → Shared → Prop} (hu : X.A.units + 64 < cLine) (I : Inv X pins σ H s) (e : H a = some (dctO X.w a xs)) (r : Paired (DRel X.K μ H) kvs xs) (hn : (xs.map (·.1)).Nodup) (hz : kvs.length ≤ LIM)
    (hx : RV X.K μ H x d) (rx : RelV x v) (hk : keyT d = some k) (ry : RelV y u) (hy : RV X.K μ H y e')
    (h : ∀ (xs' : List (NestedKey × Addr × Value)) (s' : Shared), Paired (DRel X.K μ H) (dPut k d e' kvs) xs' → (xs'.map (·.1)).Nodup → Inv X pins σ (upd H a (dctO X.w a xs')) s' → Q () s') : wpAny (model X.prog X.w) X.A (setItem (.ref a) v u) Q E s := by
  obtain ⟨k1, k2, ds, rfl⟩ := keyT_ok hk
  cases hx with
  | @tup b vs _ ht hr =>
    have ni := nested_ok I (.tup ds) _ v k (.tup ht hr) rx k1
    cases (show v = Value.ref b from rx)
    have hl : xs.length ≤ sizeLine := by
      have : kvs.length = xs.length := Paired.length r
      rw [← this, lim_eq]; exact hz
    refine wpAny_setItem_heap (hsz := hl) (room_nested hu) ⟨ni, k2⟩ (dct_of I e r hn) fun h' dd' hs => ?_
    obtain ⟨q, es, ep, hq, h2, h3, h4, _, h5⟩ := dd'
    refine h _ _ (dPut_at r k1 k2 (.tup ht hr) ry hy) h5 ?_
    have hes : es = ((storedH xs k b u).map (entN X.w)).toArray := by
      apply Array.toList_inj.mp
      rw [h4]
      rfl
    refine I.write (x := a) (e := a) (by rw [e]; exact True.intro) (.inl rfl) (fun b q hb z => (hs.2 b hb).trans z) ⟨q, hq⟩ ?_
    refine ⟨⟨ep, q, hq, h2, by rw [h3, hes]⟩, ⟨q, hq⟩, fun h1 h2' ⟨ep, x1⟩ hk => ⟨ep, x1.at hk⟩⟩
/-- {} -/
theorem dct_new (I : Inv X pins σ H s) : Inv X pins σ (upd H s.heap.objs.size (dctO X.w s.heap.objs.size [])) { s with heap := s.heap.push { cls := .type "dict", data := .dict #[] } } :=
  I.laid (a := s.heap.objs.size) (o := dctO X.w s.heap.objs.size []) (t' := s.toks) (fun _ _ q => Heap.get?_push_of_some _ q) (Nat.le_refl _)
    ⟨⟨0, _, Heap.get?_push_size _ rfl, ⟨rfl, rfl, rfl⟩, rfl⟩, ⟨_, Heap.get?_push_size _ rfl⟩, fun h1 h2 ⟨ep, x1⟩ hk => ⟨ep, x1.at hk⟩⟩
end
end LG
set_option Elab.async false
set_option linter.all false
set_option maxRecDepth 100000
/-! LG5: sorted; comparisons; subscripts; built-in functions; methods. -/
namespace LG
open PySem PySem.Spec PyProof.Rows L2 PySem.SeqAt PySem.W PySem.Calls PyProof.V

section
variable {β : Type} {le : β → β → Bool}
def insB (lt : β → β → Bool) (x : β) : List β → List β
  | [] => [x]
  | y :: r => if lt y x then y :: insB lt x r else x :: y :: r
def isB (lt : β → β → Bool) : List β → List β
  | [] => []
  | x :: r => insB lt x (isB lt r)
theorem insB_mem {lt : β → β → Bool} {x z : β} : ∀ {l : List β}, z ∈ insB lt x l → z = x ∨ z ∈ l
  | [], h => by simpa [insB] using h
  | y :: r, h => by
    unfold insB at h
    split at h
    · rcases List.mem_cons.mp h with h | h
      · exact .inr (by rw [h]; exact List.mem_cons_self ..)
      · rcases insB_mem h with h | h
        · exact .inl h
        · exact .inr (List.mem_cons_of_mem _ h)
    · rcases List.mem_cons.mp h with h | h
      · exact .inl h
      · exact .inr h
theorem insB_pairwise (h : TotalLe le) (x : β) : ∀ {l : List β}, l.Pairwise (fun a b => le a b = true) → (insB (fun a b => !le b a) x l).Pairwise (fun a b => le a b = true)
  | [], _ => by simp [insB]
  | y :: r, p => by
    obtain ⟨p1, p2⟩ := List.pairwise_cons.mp p
    unfold insB
    split
    · rename_i hc
      have hyx : le y x = true := by
        rcases h.total y x with q | q
        · exact q
        · rw [q] at hc; cases hc
      refine List.pairwise_cons.mpr ⟨fun z hz => ?_, insB_pairwise h x p2⟩
      rcases insB_mem hz with e | hz
      · rw [e]; exact hyx
      · exact p1 z hz
    · rename_i hc
      have hxy : le x y = true := by
        cases q : le x y with
        | true => rfl
        | false => simp [q] at hc
      refine List.pairwise_cons.mpr ⟨fun z hz => ?_, p⟩
      rcases List.mem_cons.mp hz with e | hz
      · rw [e]; exact hxy
      · exact h.trans _ _ _ hxy (p1 z hz)
theorem insB_filter (h : TotalLe le) (x c : β) : ∀ l : List β, (insB (fun a b => !le b a) x l).filter (sameRank le c) = (x :: l).filter (sameRank le c)
  | [] => rfl
  | y :: r => by
    unfold insB
    split
    · rename_i hc
      have hxy : le x y = false := by simpa using hc
      rw [List.filter_cons, insB_filter h x c r]
      cases hy : sameRank le c y with
      | false =>
        simp only [Bool.false_eq_true, if_false]
        rw [List.filter_cons, List.filter_cons, List.filter_cons, hy]
        rfl
      | true =>
        have hx : sameRank le c x = false := by
          cases q : sameRank le c x with
          | false => rfl
          | true =>
            unfold sameRank at q hy
            rw [Bool.and_eq_true] at q hy
            have := h.trans _ _ _ q.2 hy.1
            rw [hxy] at this; cases this
        simp only [List.filter_cons, hx, hy, if_true, Bool.false_eq_true, if_false]
    · rfl
theorem isB_eq (h : TotalLe le) (l : List β) : isB (fun a b => !le b a) l = l.mergeSort le := by
  refine sort_unique h ?_ fun c => ?_
  · induction l with
    | nil => exact List.Pairwise.nil
    | cons x r ih => exact insB_pairwise h x ih
  · induction l with
    | nil => rfl
    | cons x r ih =>
      show (insB _ x (isB _ r)).filter _ = _
      rw [insB_filter h, List.filter_cons, List.filter_cons, ih]
theorem isB_mem {lt : β → β → Bool} : ∀ {l : List β} {z : β}, z ∈ isB lt l → z ∈ l
  | [], _, h => h
  | x :: r, z, h => by
    rcases insB_mem h with e | h
    · rw [e]; exact List.mem_cons_self ..
    · exact List.mem_cons_of_mem _ (isB_mem h)
theorem insB_congr {lt lt' : β → β → Bool} {x : β} : ∀ {l : List β}, (∀ y, y ∈ l → lt y x = lt' y x) → insB lt x l = insB lt' x l
  | [], _ => rfl
  | y :: r, h => by
    unfold insB
    rw [h y (List.mem_cons_self ..), insB_congr fun z hz => h z (List.mem_cons_of_mem _ hz)]
theorem isB_congr {lt lt' : β → β → Bool} : ∀ {l : List β}, (∀ x, x ∈ l → ∀ y, y ∈ l → lt x y = lt' x y) → isB lt l = isB lt' l
  | [], _ => rfl
  | x :: r, h => by
    show insB lt x (isB lt r) = insB lt' x (isB lt' r)
    rw [isB_congr fun a ha b hb => h a (List.mem_cons_of_mem _ ha) b (List.mem_cons_of_mem _ hb)]
    exact insB_congr fun y hy => h y (List.mem_cons_of_mem _ (isB_mem hy)) x (List.mem_cons_self ..)
end
theorem insD_eq (lt : PyData → PyData → Bool) (x : PyData × D) : ∀ l, insD lt x l = insB (fun a b => lt a.1 b.1) x l
  | [] => rfl
  | y :: r => by
    unfold insD insB
    rw [insD_eq lt x r]
theorem sortD_eq (lt : PyData → PyData → Bool) : ∀ l, sortD lt l = isB (fun a b => lt a.1 b.1) l
  | [] => rfl
  | x :: r => by
    show insD lt x (sortD lt r) = insB _ x (isB _ r)
    rw [insD_eq, sortD_eq lt r]
theorem allO_len {α β : Type} {f : α → Option β} : ∀ {xs : List α} {ys : List β}, allO f xs = some ys → ys.length = xs.length
  | [], ys, h => by simp only [allO] at h; cases h; rfl
  | x :: xs, ys, h => by
    simp only [allO] at h
    split at h
    · split at h
      · rename_i e; cases h; simp [allO_len e]
      · cases h
    · cases h
/-- the order of the rows of signs -/
def leD : PyData × D → PyData × D → Bool := sortLe (listOrd itemOrd) false fun b => keyToks b.1
theorem sortD_merge {bs : List (PyData × D)} (hc : ∀ a, a ∈ bs → ∀ b, b ∈ bs → ∃ k, ltP a.1 b.1 = some k) : sortD ltB bs = bs.mergeSort leD := by
  have ht : TotalLe leD := sortLe_total ..
  rw [sortD_eq, ← isB_eq ht]
  refine isB_congr fun a ha b hb => ?_
  obtain ⟨k, hk⟩ := hc a ha b hb
  have e1 : ltB a.1 b.1 = k := by unfold ltB; rw [hk]; rfl
  have e2 : leD b a = !k := by
    unfold leD
    show (!PyProof.Rows.lexLt itemOrd (keyToks a.1) (keyToks b.1)) = !k
    rw [(ltP_toks _ _ _ hk).1]
  rw [e1, e2, Bool.not_not]

/-! ### values with their data -/
section
variable {X : Cx} {pins : List (Addr × Obj)} {σ : L2.St} {H : Hp} {s : Shared} {ca : Nat → Addr} {μ : List Addr} {st : Sto}
/-- a value of the model that stands for a datum -/
def RVal (K : PySem.W.Frag) (μ : List Addr) (H : Hp) (u : Value) (d : D) : Prop := ∃ v, RelV v u ∧ RV K μ H v d
theorem rvals_each {K : PySem.W.Frag} : ∀ {vs : List V} {ds : List D} {us : List Value}, RVs K μ H vs ds → Vals vs us → EachIs (RVal K μ H) us ds
  | _, _, _, .nil, .nil => .nil
  | _, _, _, .cons r rs, .cons q qs => .cons ⟨_, q, r⟩ (rvals_each rs qs)
theorem each_rvals {K : PySem.W.Frag} : ∀ {us : List Value} {ds : List D}, EachIs (RVal K μ H) us ds → ∃ vs, Vals vs us ∧ RVs K μ H vs ds
  | _, _, .nil => ⟨[], .nil, .nil⟩
  | _, _, .cons ⟨v, q, r⟩ t => let ⟨vs, a, b⟩ := each_rvals t; ⟨v :: vs, .cons q a, .cons r b⟩
theorem each_zip {α β γ : Type} {R : α → γ → Prop} {S : α → β → Prop} : ∀ {us : List α} {ps : List β} {ds : List γ}, EachIs R us ds → EachIs S us ps → EachIs (fun u (b : β × γ) => R u b.2 ∧ S u b.1) us (ps.zip ds)
  | _, _, _, .nil, .nil => .nil
  | _, _, _, .cons r t, .cons q t' => .cons ⟨r, q⟩ (each_zip t t')
theorem each_mapR {α β γ : Type} {R : α → γ → Prop} {f : β → γ} : ∀ {us : List α} {bs : List β}, EachIs (fun u b => R u (f b)) us bs → EachIs R us (bs.map f)
  | _, _, .nil => .nil
  | _, _, .cons r t => .cons r (each_mapR t)
/-- the data of a list read off the heap -/
theorem each_reads (I : Inv X pins σ H s) (r : RS (pk X ca) μ H st) : ∀ {ds : List D} {vs : List V} {us : List Value} {ps : List PyData}, RVs X.K μ H vs ds → Vals vs us → allO (toPD st 60) ds = some ps →
    EachIs (fun u p => ∃ as, Reads s.heap u p as) us ps
  | [], _, _, _, h, q, e => by
    cases h; cases q
    simp only [allO] at e; cases e
    exact .nil
  | d :: ds, _, _, ps, h, q, e => by
    cases h with
    | cons h1 h2 =>
      cases q with
      | cons q1 q2 =>
        simp only [allO] at e
        split at e
        · rename_i y e1
          split at e
          · rename_i ys e2
            cases e
            obtain ⟨a1, a2, a3⟩ := toPD_ok r 60 d _ y h1 e1
            exact .cons (Dp.reads I y _ _ a1 q1) (each_reads I r h2 q2 e2)
          · cases e
        · cases e
theorem allO_lay (r : RS (pk X ca) μ H st) : ∀ {ds : List D} {vs : List V} {ps : List PyData}, RVs X.K μ H vs ds → allO (toPD st 60) ds = some ps → ∀ p, p ∈ ps → p.canLay0 = true ∧ p.depth ≤ 60
  | [], _, ps, h, e, p, hp => by
    simp only [allO] at e; cases e; exact absurd hp (by simp)
  | d :: ds, _, ps, h, e, p, hp => by
    cases h with
    | cons h1 h2 =>
      simp only [allO] at e
      split at e
      · rename_i y e1
        split at e
        · rename_i ys e2
          cases e
          obtain ⟨a1, a2, a3⟩ := toPD_ok r 60 d _ y h1 e1
          rcases List.mem_cons.mp hp with e | hp
          · rw [e]; exact ⟨a2, a3⟩
          · exact allO_lay r h2 e2 p hp
        · cases e
      · cases e
/-- the items sorted, as sorted leaves them -/
theorem sorted_list {a : Addr} {vs : List V} {ds ys : List D} {Q : Value → Shared → Prop} {E : Value → Shared → Prop} (hu : X.A.units + 70 < cLine) (I : Inv X pins σ H s) (r : RS (pk X ca) μ H st) (hq : SqL X.K H a vs) (hv : RVs X.K μ H vs ds) (hz : ds.length ≤ LIM) (e : sortO st ds = some ys)
    (h : ∀ p ws, H p = none → RVs X.K μ H ws ys → ys.length ≤ LIM → ∀ s', Inv X pins σ (upd H p (.lst ws)) s' → Q (.ref p) s') :
    wpAny (model X.prog X.w) X.A (call (.builtin "sorted") [.ref a]) Q E s := by
  unfold sortO at e
  split at e
  · rename_i ps e1
    split at e
    · rename_i hc
      cases e
      rw [Bool.and_eq_true] at hc
      obtain ⟨its, rv, hl, hzs⟩ := I.list hq
      have lenI : its.length = ds.length := by rw [← rv.length]; exact hv.length
      have lenP : ps.length = ds.length := allO_len e1
      have er := each_reads I r hv rv e1
      have ev : EachIs (RVal X.K μ H) its ds := rvals_each hv rv
      have lay := allO_lay r hv e1
      have cm : Cmps ps := cmps_of hc.1
      have er' : EachIs (fun v b => ∃ as, Reads (sortingHeap (copyHeap s.heap its) (s.heap.objs.size + 1) its) v b as) its ps := er.mono fun _ _ ⟨as, q⟩ => ⟨as, PyProof.Rows.Reads.keeps (fun _ _ => sorting_copy_old) q⟩
      have S : SortsAt X.prog X.w X.A.in1.in1 { s with heap := sortingHeap (copyHeap s.heap its) (s.heap.objs.size + 1) its } (dataKind (sortingHeap (copyHeap s.heap its) (s.heap.objs.size + 1) its) ps) its :=
        sortsAt_cmp (s := { s with heap := sortingHeap (copyHeap s.heap its) (s.heap.objs.size + 1) its }) er' (fun d hd => (lay d hd).1) cm hc.2 fun d hd => by
          have := (lay d hd).2
          show X.A.units + 1 + 1 + d.depth < cLine
          omega
      refine sorted_vals hl.isList S (by rw [lenI, lim_eq]; exact hz) ?_
      have eb : EachIs (fun u (b : PyData × D) => RVal X.K μ H u b.2 ∧ (dataKind (sortingHeap (copyHeap s.heap its) (s.heap.objs.size + 1) its) ps).keyOf u = some (keyToks b.1)) its (ps.zip ds) :=
        each_zip ev ((each_mem er').mono fun u p q => let ⟨⟨as, q1⟩, q2⟩ := q; dataKind_cmp (fun d hd => (lay d hd).1) q2 q1)
      have eo := sortVals_each (κ := dataKind (sortingHeap (copyHeap s.heap its) (s.heap.objs.size + 1) its) ps) (rev := false) (R := fun u (b : PyData × D) => RVal X.K μ H u b.2) (fun b => keyToks b.1) (eb.mono fun _ _ q => q.1) (eb.mono fun _ _ q => q.2)
      have mem1 : ∀ b : PyData × D, b ∈ ps.zip ds → b.1 ∈ ps := fun b hb => (List.of_mem_zip hb).1
      have em : sortD ltB (ps.zip ds) = (ps.zip ds).mergeSort leD := sortD_merge fun a ha b hb => cm _ (mem1 a ha) _ (mem1 b hb)
      have eo' : EachIs (fun u (b : PyData × D) => RVal X.K μ H u b.2) (sortVals (dataKind (sortingHeap (copyHeap s.heap its) (s.heap.objs.size + 1) its) ps) false its its) (sortD ltB (ps.zip ds)) := by rw [em]; exact eo
      obtain ⟨ws, hw1, hw2⟩ := each_rvals (each_mapR eo')
      have hlen : (sortD ltB (ps.zip ds)).length = ds.length := by
        rw [em, List.length_mergeSort, List.length_zip, lenP, Nat.min_self]
      have hys : ((sortD ltB (ps.zip ds)).map (·.2)).length ≤ LIM := by rw [List.length_map, hlen]; exact hz
      obtain ⟨ep, he'⟩ := PyProof.Rows.sortedAll_at s.heap its (sortVals (dataKind (sortingHeap (copyHeap s.heap its) (s.heap.objs.size + 1) its) ps) false its its).toArray
      exact h _ ws (I.hok.fresh (Nat.le_succ _)) hw2 hys _ (I.laid (t' := s.toks) (fun _ _ => PyProof.Rows.sortedAll_old) (Nat.le_succ _) ⟨by rw [hw2.length, lim_eq]; exact hys, _, ep, hw1, he'⟩)
    · cases e
  · cases e
end

/-! ### sorted of a dict: of its keys -/
section
variable {X : Cx} {ca : Nat → Addr} {pins : List (Addr × Obj)} {σ : L2.St} {μ : List Addr} {H : Hp} {s : Shared} {st : Sto}
theorem src_raw {P : Program} {w : World} {d : Addr} {es : Array DictEntry} {ep : Nat} (lo : (d == sysModules) = false) : KdlSrc P w "dict" d d es.size (fun i v => ∃ hi : i < es.size, v = es[i].key) (fun h => PySem.Heap.DictRaw h d es ep) where
  type := fun _ hm => hm.typeIs
  there := fun _ hm => let ⟨_, ho, _⟩ := hm; ⟨Heap.lt_size ho, Heap.lt_size ho⟩
  keep := fun _ _ hm hk => hm.at fun o e => hk d (.inl rfl) o e
  notList := by decide
  notTuple := by decide
  hint := fun _ _ _ _ hm hq => kdl_hint_dict hm.typeIs hq
  iter := fun _ _ hh hm => ⟨_, _, (fun _ _ hq => wpAny_pyIter_dict_raw lo hm hq), Walks.rawKeys hh _ d (Nat.ne_of_lt (let ⟨_, ho, _⟩ := hm; Heap.lt_size ho)) es ep, ⟨⟨_, Heap.get?_push_size _ rfl, rfl, rfl⟩, hm.at fun o e => Heap.get?_push_of_some _ e⟩⟩
theorem keys_each {K : PySem.W.Frag} {kvs : List (D × D)} {xs : List (NestedKey × Addr × Value)} (r : Paired (DRel K μ H) kvs xs) : EachIs (RVal K μ H) (xs.map fun x => Value.ref x.2.1) (kvs.map (·.1)) := by
  induction r with
  | nil => exact .nil
  | @cons p q _ _ h t ih => exact .cons ⟨.ref q.2.1, rfl, h.2.2.1⟩ ih
theorem keys_reads (I : Inv X pins σ H s) (hs : RS (pk X ca) μ H st) {kvs : List (D × D)} {xs : List (NestedKey × Addr × Value)} (r : Paired (DRel X.K μ H) kvs xs) : ∀ {ps : List PyData}, allO (toPD st 60) (kvs.map (·.1)) = some ps →
    EachIs (fun v p => ∃ as, Reads s.heap v p as) (xs.map fun x => Value.ref x.2.1) ps ∧ (∀ p, p ∈ ps → p.canLay0 = true ∧ p.depth ≤ 60) := by
  induction r with
  | nil => intro ps e; cases e; exact ⟨.nil, fun p hp => by cases hp⟩
  | @cons a b l1 l2 h t ih =>
    intro ps e
    rw [List.map_cons] at e
    unfold allO at e
    split at e
    · rename_i y e1
      split at e
      · rename_i ys e2
        cases e
        obtain ⟨q1, q2⟩ := ih e2
        obtain ⟨a1, a2, a3⟩ := toPD_ok hs 60 a.1 _ y h.2.2.1 e1
        refine ⟨.cons (Dp.reads I y _ _ a1 rfl) q1, fun p hp => ?_⟩
        rcases List.mem_cons.mp hp with e | hp
        · rw [e]; exact ⟨a2, a3⟩
        · exact q2 p hp
      · cases e
    · cases e
theorem sorted_dct {a : Addr} {kvs : List (D × D)} {xs : List (NestedKey × Addr × Value)} {ys : List D} {Q : Value → Shared → Prop} {E : Value → Shared → Prop} (hc : X.calm = true) (hu : X.A.units + 70 < cLine) (I : Inv X pins σ H s) (r : RS (pk X ca) μ H st) (hq : H a = some (dctO X.w a xs)) (hv : Paired (DRel X.K μ H) kvs xs) (hz : kvs.length ≤ LIM) (hsm : (a == sysModules) = false) (e : sortO st (kvs.map (·.1)) = some ys)
    (h : ∀ p ws, H p = none → RVs X.K μ H ws ys → ys.length ≤ LIM → ∀ s', Inv X pins σ (upd H p (.lst ws)) s' → Q (.ref p) s') :
    wpAny (model X.prog X.w) X.A (call (.builtin "sorted") [.ref a]) Q E s := by
  unfold sortO at e
  split at e
  · rename_i ps e1
    split at e
    · rename_i hcc
      cases e
      rw [Bool.and_eq_true] at hcc
      have hh : X.A.handled = none := I.ok.hd hc
      obtain ⟨⟨ep, hraw⟩, _⟩ := (show ObjOk X.prog X.w H s.heap a (dctO X.w a xs) from I.hok a _ hq)
      have hlen : kvs.length = xs.length := Paired.length hv
      have hsz : ((xs.map (entN X.w)).toArray).size = xs.length := by simp
      have hLx : xs.length ≤ sizeLine := by rw [← hlen, lim_eq]; exact hz
      refine call_function_entry kind_sorted plain_sorted entry_sorted (args_sorted1 _) ?_
      unfold Builtin.«sorted»
      refine wpAny_bind (m := checkCount "sorted" 1 1 _) (wpAny_pure ?_)
      refine wpAny_bind (kdu_collect (A := X.A.in1) (src_raw (es := (xs.map (entN X.w)).toArray) (ep := ep) hsm) hh hraw (by rw [hsz]; exact hLx) fun h' tk acc hk hacc => ?_)
      have hits : acc.toList = xs.map fun x => Value.ref x.2.1 := by
        refine List.ext_getElem? fun i => ?_
        by_cases hi : i < xs.length
        · have h1 : i < acc.size := by rw [hacc.1, hsz]; exact hi
          obtain ⟨q1, q2⟩ := hacc.2 i acc[i] (by rw [Array.getElem?_eq_getElem h1])
          rw [Array.getElem?_toList, Array.getElem?_eq_getElem h1, q2, List.getElem?_map, List.getElem?_eq_getElem hi]
          simp [entN]
        · rw [List.getElem?_eq_none (by rw [Array.length_toList, hacc.1, hsz]; omega), List.getElem?_eq_none (by rw [List.length_map]; omega)]
      rw [hits]
      generalize hI : (xs.map fun x => Value.ref x.2.1) = its at *
      have lenI : its.length = kvs.length := by rw [← hI, List.length_map, hlen]
      have lenP : ps.length = kvs.length := by have := allO_len e1; rw [this, List.length_map]
      obtain ⟨er, lay⟩ := keys_reads I r hv e1
      have ev := keys_each (K := X.K) hv
      rw [hI] at er ev
      refine wpAny_bind (wpAny_newList ?_ (by rw [lenI, lim_eq]; exact hz))
      have hD : (h'.push (seqObj "list" its.toArray 0)).get? h'.objs.size = some (seqObj "list" its.toArray 0) := Heap.get?_push_size _ rfl
      have old : ∀ b o, s.heap.get? b = some o → (h'.push (seqObj "list" its.toArray 0)).get? b = some o := fun b o z => Heap.get?_push_of_some _ (hk b o z)
      have hDn : s.heap.get? h'.objs.size = none := by
        cases q : s.heap.get? h'.objs.size with
        | none => rfl
        | some o => exact absurd (Heap.lt_size (hk _ _ q)) (Nat.lt_irrefl _)
      have hDH : H h'.objs.size = none := (I.hok.kept hk).fresh (Nat.le_refl _)
      have ne : ∀ b o, s.heap.get? b = some o → b ≠ h'.objs.size := fun b o z w => by rw [w, hDn] at z; cases z
      show wpAny _ _ _ _ _ { s with heap := h'.push (seqObj "list" its.toArray 0), toks := tk }
      have cm : Cmps ps := cmps_of hcc.1
      have er' : EachIs (fun v b => ∃ as, Reads (sortingHeap (h'.push (seqObj "list" its.toArray 0)) h'.objs.size its) v b as) its ps := er.mono fun _ _ ⟨as, q⟩ => ⟨as, PyProof.Rows.Reads.keeps (fun b o z => sortingHeap_old (ne b o z) (old b o z)) q⟩
      have S : SortsAt X.prog X.w X.A.in1.in1 { s with heap := sortingHeap (h'.push (seqObj "list" its.toArray 0)) h'.objs.size its, toks := tk } (dataKind (sortingHeap (h'.push (seqObj "list" its.toArray 0)) h'.objs.size its) ps) its :=
        sortsAt_cmp (s := { s with heap := sortingHeap (h'.push (seqObj "list" its.toArray 0)) h'.objs.size its, toks := tk }) er' (fun d hd => (lay d hd).1) cm hcc.2 fun d hd => by
          have := (lay d hd).2
          show X.A.units + 1 + 1 + d.depth < cLine
          omega
      refine wpAny_bind (wpAny_holding (wpAny_call_entry slot_list_sort ⟨_, hD, rfl⟩ entry_list_sort ?body (args_list_sort _)))
      refine list_sort_vals (s := { s with heap := h'.push (seqObj "list" its.toArray 0), toks := tk }) (κ := dataKind (sortingHeap (h'.push (seqObj "list" its.toArray 0)) h'.objs.size its) ps) hD S (by rw [lenI, lim_eq]; exact hz) ⟨_, rfl, wpAny_pure ⟨_, rfl, ?_⟩⟩
      have eb : EachIs (fun u (b : PyData × D) => RVal X.K μ H u b.2 ∧ (dataKind (sortingHeap (h'.push (seqObj "list" its.toArray 0)) h'.objs.size its) ps).keyOf u = some (keyToks b.1)) its (ps.zip (kvs.map (·.1))) :=
        each_zip ev ((each_mem er').mono fun u p q => let ⟨⟨as, q1⟩, q2⟩ := q; dataKind_cmp (fun d hd => (lay d hd).1) q2 q1)
      have eo := sortVals_each (κ := dataKind (sortingHeap (h'.push (seqObj "list" its.toArray 0)) h'.objs.size its) ps) (rev := false) (R := fun u (b : PyData × D) => RVal X.K μ H u b.2) (fun b => keyToks b.1) (eb.mono fun _ _ q => q.1) (eb.mono fun _ _ q => q.2)
      have mem1 : ∀ b : PyData × D, b ∈ ps.zip (kvs.map (·.1)) → b.1 ∈ ps := fun b hb => (List.of_mem_zip hb).1
      have em : sortD ltB (ps.zip (kvs.map (·.1))) = (ps.zip (kvs.map (·.1))).mergeSort leD := sortD_merge fun a ha b hb => cm _ (mem1 a ha) _ (mem1 b hb)
      have eo' : EachIs (fun u (b : PyData × D) => RVal X.K μ H u b.2) (sortVals (dataKind (sortingHeap (h'.push (seqObj "list" its.toArray 0)) h'.objs.size its) ps) false its its) (sortD ltB (ps.zip (kvs.map (·.1)))) := by rw [em]; exact eo
      obtain ⟨ws, hw1, hw2⟩ := each_rvals (each_mapR eo')
      have hlen2 : (sortD ltB (ps.zip (kvs.map (·.1)))).length = kvs.length := by
        rw [em, List.length_mergeSort, List.length_zip, lenP, List.length_map, Nat.min_self]
      have hys : ((sortD ltB (ps.zip (kvs.map (·.1)))).map (·.2)).length ≤ LIM := by rw [List.length_map, hlen2]; exact hz
      obtain ⟨ep2, he'⟩ := sortedHeap_at (vs := its) (out := (sortVals (dataKind (sortingHeap (h'.push (seqObj "list" its.toArray 0)) h'.objs.size its) ps) false its its).toArray) hD
      exact h _ ws hDH hw2 hys _ (I.laidN (t' := tk) (fun b o z => by rw [sortedHeap_old (ne b o z) (Heap.lt_size (old b o z))]; exact old b o z) hDn hDH ⟨by rw [hw2.length, lim_eq]; exact hys, _, ep2, hw1, he'⟩)
    · cases e
  · cases e
end

section
variable {X : Cx} {ca : Nat → Addr} {W : WX} {σ₀ : L2.St}
theorem RVs.one {K : PySem.W.Frag} {μ : List Addr} {H : Hp} {vs : List V} {d : D} (h : RVs K μ H vs [d]) : ∃ v, vs = [v] ∧ RV K μ H v d := by
  cases h with
  | cons a b => cases b; exact ⟨_, rfl, a⟩
theorem RVs.two {K : PySem.W.Frag} {μ : List Addr} {H : Hp} {vs : List V} {d e : D} (h : RVs K μ H vs [d, e]) : ∃ v w, vs = [v, w] ∧ RV K μ H v d ∧ RV K μ H w e := by
  cases h with
  | cons a b => obtain ⟨w, rfl, q⟩ := b.one; exact ⟨_, w, rfl, a, q⟩
theorem ok_sorted (hc : X.calm = true) (hu : X.A.units + 70 < cLine) : CallR X (.builtin "sorted") (rFn (pk X ca) W σ₀ bSorted) := by
  intro pins s σ H vs us Q I r h
  obtain ⟨μ, ds, st, hs, hv, o⟩ := h
  unfold bSorted at o
  split at o
  · rename_i n
    obtain ⟨v, rfl, hv1⟩ := hv.one
    cases hv1 with
    | @ref a _ hm =>
      split at o
      · rename_i xs e1
        split at o
        · rename_i ys e2
          obtain ⟨a', ws, q1, q2, q3, q4⟩ := hs.lst e1
          rw [hm] at q1; cases q1
          rw [Vals.ref1 r]
          exact sorted_list hu I hs (.inl (.inl q2)) q3 q4 e2 fun p ws hp hw hz s' I' => ⟨.ref p, _, I', rfl, o.lst hs hp hw hz⟩
        · exact o.elim
      · rename_i kvs e1
        split at o
        · rename_i ys e2
          obtain ⟨a', xs, q1, q2, q3, q4, q5, q6⟩ := hs.dct e1
          rw [hm] at q1; cases q1
          rw [Vals.ref1 r]
          exact sorted_dct hc hu I hs q2 q3 q5 q6 e2 fun p ws hp hw hz s' I' => ⟨.ref p, _, I', rfl, o.lst hs hp hw hz⟩
        · exact o.elim
      · exact o.elim
  · exact o.elim

/-! ### comparisons -/
theorem ok_lt (hu : X.A.units + 64 < cLine) : OpR X (compareOp .Lt) (rOp (pk X ca) W σ₀ cmpLt) := by
  intro pins s σ H x y v u Q I rx ry h
  obtain ⟨μ, a, b, st, hs, ha, hb, o⟩ := h
  unfold cmpLt at o
  split at o
  · rename_i k e
    unfold ltO at e
    split at e
    · rename_i p q e1 e2
      obtain ⟨h1, h2, h3⟩ := toPD_ok hs 60 a x p ha e1
      obtain ⟨h4, h5, h6⟩ := toPD_ok hs 60 b y q hb e2
      obtain ⟨as, r1⟩ := Dp.reads I p x v h1 rx
      obtain ⟨bs, r2⟩ := Dp.reads I q y u h4 ry
      exact rcLt_ltP p q k X.A s v u as bs r1 r2 h2 h5 e (by omega) X.prog X.w _ _ ⟨.bl k, H, I, rfl, o.here hs (.bl _)⟩
    · cases e
  · exact o.elim
theorem ok_le : OpR X (compareOp .LtE) (rOp (pk X ca) W σ₀ cmpLe) := by
  intro pins s σ H x y v u Q I rx ry h
  obtain ⟨μ, a, b, st, hs, ha, hb, o⟩ := h
  cases ha with
  | int i =>
    cases hb with
    | int j => exact op_le pins s σ H _ _ v u Q I rx ry ⟨i, j, rfl, rfl, o.here hs (.bl _)⟩
    | _ => exact o.elim
  | str i =>
    cases hb with
    | str j => exact op_le_str pins s σ H _ _ v u Q I rx ry ⟨i, j, rfl, rfl, by rw [← ltL_eq]; exact o.here hs (.bl _)⟩
    | _ => exact o.elim
  | _ => exact o.elim
theorem ok_gt : OpR X (compareOp .Gt) (rOp (pk X ca) W σ₀ cmpGt) := by
  intro pins s σ H x y v u Q I rx ry h
  obtain ⟨μ, a, b, st, hs, ha, hb, o⟩ := h
  cases ha with
  | int i =>
    cases hb with
    | int j => exact op_gt pins s σ H _ _ v u Q I rx ry ⟨i, j, rfl, rfl, o.here hs (.bl _)⟩
    | _ => exact o.elim
  | _ => exact o.elim
theorem ok_ge : OpR X (compareOp .GtE) (rOp (pk X ca) W σ₀ cmpGe) := by
  intro pins s σ H x y v u Q I rx ry h
  obtain ⟨μ, a, b, st, hs, ha, hb, o⟩ := h
  cases ha with
  | int i =>
    cases hb with
    | int j => exact op_ge pins s σ H _ _ v u Q I rx ry ⟨i, j, rfl, rfl, o.here hs (.bl _)⟩
    | _ => exact o.elim
  | _ => exact o.elim
theorem RV.non_iff {K : PySem.W.Frag} {μ : List Addr} {H : Hp} {x : V} {d : D} (h : RV K μ H x d) : (x = .non) ↔ (d = .non) := by
  cases h <;> simp
theorem ok_is : OpR X (compareOp .Is) (rOp (pk X ca) W σ₀ cmpIs) := by
  intro pins s σ H x y v u Q I rx ry h
  obtain ⟨μ, a, b, st, hs, ha, hb, o⟩ := h
  unfold cmpIs at o
  split at o
  · rename_i k e
    have o' := o.here hs (.bl k)
    cases hb with
    | non =>
      refine op_isN pins s σ H x _ v u Q I rx ry ⟨rfl, ?_⟩
      cases ha with
      | non => simp only [isO] at e; cases e; simpa using o'
      | bl _ => simp only [isO] at e; cases e; simpa using o'
      | int _ => simp only [isO] at e; cases e; simpa using o'
      | str _ => simp only [isO] at e; cases e; simpa using o'
      | tup _ _ => simp only [isO] at e; cases e; simpa using o'
      | ref _ => simp only [isO] at e; cases e; simpa using o'
      | kl _ _ => simp only [isO] at e; cases e; simpa using o'
    | bl j =>
      cases ha with
      | bl i =>
        simp only [isO] at e; cases e
        refine op_isBl pins s σ H _ _ v u Q I rx ry ⟨i, j, rfl, rfl, ?_⟩
        have : decide (i = j) = (i == j) := by cases i <;> cases j <;> rfl
        rw [this]; exact o'
      | _ => simp [isO] at e
    | _ => cases ha <;> simp [isO] at e
  · exact o.elim
theorem ok_isNot : OpR X (compareOp .IsNot) (rOp (pk X ca) W σ₀ cmpIsNot) := by
  intro pins s σ H x y v u Q I rx ry h
  obtain ⟨μ, a, b, st, hs, ha, hb, o⟩ := h
  unfold cmpIsNot at o
  split at o
  · rename_i k e
    have o' := o.here hs (.bl (!k))
    cases hb with
    | non =>
      refine op_notN pins s σ H x _ v u Q I rx ry ⟨rfl, ?_⟩
      cases ha with
      | non => simp only [isO] at e; cases e; simpa using o'
      | bl _ => simp only [isO] at e; cases e; simpa using o'
      | int _ => simp only [isO] at e; cases e; simpa using o'
      | str _ => simp only [isO] at e; cases e; simpa using o'
      | tup _ _ => simp only [isO] at e; cases e; simpa using o'
      | ref _ => simp only [isO] at e; cases e; simpa using o'
      | kl _ _ => simp only [isO] at e; cases e; simpa using o'
    | bl j =>
      cases ha with
      | bl i =>
        simp only [isO] at e; cases e
        refine op_notBl pins s σ H _ _ v u Q I rx ry ⟨i, j, rfl, rfl, ?_⟩
        have : decide (i = j) = (i == j) := by cases i <;> cases j <;> rfl
        rw [this]; exact o'
      | _ => simp [isO] at e
    | _ => cases ha <;> simp [isO] at e
  · exact o.elim
end
end LG
set_option Elab.async false
set_option linter.all false
set_option maxRecDepth 100000
/-! LG6: in; subscripts; built-in functions; methods. -/
namespace LG
open PySem PySem.Spec PyProof.Rows L2 PySem.SeqAt PySem.W
section
variable {X : Cx} {ca : Nat → Addr} {W : WX} {σ₀ : L2.St}
theorem str_one {x : Str} {c : Nat} (h : x.cps.toList = [c]) : x = ⟨#[c]⟩ := by
  have : x.cps = #[c] := Array.toList_inj.mp h
  cases x
  simp only at this
  rw [this]
theorem mem_ok {P : PK} {μ : List Addr} {H : Hp} {st : Sto} {x y : V} {a b : D} {k : Bool} (hs : RS P μ H st) (ha : RV P.K μ H x a) (hb : RV P.K μ H y b) (e : memO st a b = some k) :
    (∃ (c : Nat) (z : Str), x = .str ⟨#[c]⟩ ∧ y = .str z ∧ k = decide (c ∈ z.cps.toList)) ∨
    (∃ d ds, Dp P.K H x d ∧ (Dp P.K H y (.list ds) ∨ Dp P.K H y (.tuple ds)) ∧ d.canLay0 = true ∧ PyData.canLayAll0 ds = true ∧ d.depth ≤ 60 ∧ k = ds.any fun z => PyData.eqv z d) ∨
    (∃ (p : Addr) (kvs : List (D × D)) (xs : List (NestedKey × Addr × Value)) (q : NestedKey), y = .ref p ∧ H p = some (dctO P.w p xs) ∧ Paired (DRel P.K μ H) kvs xs ∧ (xs.map (·.1)).Nodup ∧ (p == sysModules) = false ∧ keyT a = some q ∧ k = (dGet q kvs).isSome) := by
  have fin : ∀ {ys : List D} {vs : List V}, RVs P.K μ H vs ys → inO st a ys = some k → ∃ d ds, Dp P.K H x d ∧ DpAll P.K H vs ds ∧ d.canLay0 = true ∧ PyData.canLayAll0 ds = true ∧ d.depth ≤ 60 ∧ k = ds.any fun z => PyData.eqv z d := by
    intro ys vs hv e
    unfold inO at e
    split at e
    · rename_i p qs e1 e2
      cases e
      obtain ⟨a1, a2, a3⟩ := toPD_ok hs 60 a x p ha e1
      obtain ⟨b1, b2, b3⟩ := toPDs_ok hs 59 ys vs qs hv e2
      exact ⟨p, qs, a1, b1, a2, b2, a3, rfl⟩
    · cases e
  cases hb with
  | str z =>
    simp only [memO] at e
    split at e
    · rename_i c
      cases e
      cases ha' : x with
      | str x' =>
        rw [ha'] at ha
        generalize hq : D.str [c] = dd at ha
        cases ha with
        | str _ =>
          have : x'.cps.toList = [c] := (D.str.inj hq).symm
          exact .inl ⟨c, z, by rw [str_one this], rfl, rfl⟩
      | _ => rw [ha'] at ha; cases ha
    · cases e
  | @tup p vs ds h1 h2 =>
    simp only [memO] at e
    obtain ⟨d, ps, q1, q2, q3, q4, q5, q6⟩ := fin h2 e
    exact .inr (.inl ⟨d, ps, q1, .inr (.tup h1.sq q2), q3, q4, q5, q6⟩)
  | @ref p n hm =>
    simp only [memO] at e
    split at e
    · rename_i xs e1
      obtain ⟨a', vs, g1, g2, g3, _⟩ := hs.lst e1
      rw [hm] at g1; cases g1
      obtain ⟨d, ps, q1, q2, q3, q4, q5, q6⟩ := fin g3 e
      exact .inr (.inl ⟨d, ps, q1, .inl (.lst (.inl (.inl g2)) q2), q3, q4, q5, q6⟩)
    · rename_i kvs e1
      obtain ⟨q, e2, e3⟩ := Option.map_eq_some_iff.mp e
      obtain ⟨a', xs, g1, g2, g3, g4, g5, g6⟩ := hs.dct e1
      rw [hm] at g1; cases g1
      exact .inr (.inr ⟨p, kvs, xs, q, rfl, g2, g3, g4, g6, e2, e3.symm⟩)
    · cases e
  | _ => simp [memO] at e
theorem ok_in (hu : X.A.units + 65 < cLine) : OpR X (compareOp .In) (rOp (pk X ca) W σ₀ cmpIn) := by
  intro pins s σ H x y v u Q I rx ry h
  obtain ⟨μ, a, b, st, hs, ha, hb, o⟩ := h
  unfold cmpIn at o
  split at o
  · rename_i k e
    have o' := o.here hs (.bl k)
    rcases mem_ok hs ha hb e with ⟨c, z, rfl, rfl, rfl⟩ | ⟨d, ds, q1, q2, q3, q4, q5, rfl⟩ | ⟨p, kvs, xs, q, rfl, g2, g3, g4, g6, e2, rfl⟩
    · exact op_in_sign pins s σ H _ _ v u Q I rx ry ⟨c, z, rfl, rfl, o'⟩
    · obtain ⟨as, r1⟩ := Dp.reads I d x v q1 rx
      have room : X.A.units + 1 + min (PyData.depthAll ds) d.depth < cLine := by have := Nat.min_le_right (PyData.depthAll ds) d.depth; omega
      rcases q2 with q2 | q2
      · obtain ⟨bs, r2⟩ := Dp.reads I (.list ds) y u q2 ry
        exact SeqAt.in_list_reads r2 r1 q4 q3 room ⟨.bl _, H, I, rfl, o'⟩
      · obtain ⟨bs, r2⟩ := Dp.reads I (.tuple ds) y u q2 ry
        exact SeqAt.in_tuple_reads r2 r1 q4 q3 room ⟨.bl _, H, I, rfl, o'⟩
    · cases (show u = Value.ref p from ry)
      exact dct_in (by omega) I g2 g3 g4 g6 ha rx e2 fun s' I' => ⟨.bl _, H, I', rfl, o'⟩
  · exact o.elim
theorem ok_notIn (hu : X.A.units + 65 < cLine) : OpR X (compareOp .NotIn) (rOp (pk X ca) W σ₀ cmpNotIn) := by
  intro pins s σ H x y v u Q I rx ry h
  obtain ⟨μ, a, b, st, hs, ha, hb, o⟩ := h
  unfold cmpNotIn at o
  split at o
  · rename_i k e
    have o' := o.here hs (.bl (!k))
    rcases mem_ok hs ha hb e with ⟨c, z, rfl, rfl, rfl⟩ | ⟨d, ds, q1, q2, q3, q4, q5, rfl⟩ | ⟨p, kvs, xs, q, rfl, g2, g3, g4, g6, e2, rfl⟩
    · exact op_notIn_sign pins s σ H _ _ v u Q I rx ry ⟨c, z, rfl, rfl, o'⟩
    · obtain ⟨as, r1⟩ := Dp.reads I d x v q1 rx
      have room : X.A.units + 1 + min (PyData.depthAll ds) d.depth < cLine := by have := Nat.min_le_right (PyData.depthAll ds) d.depth; omega
      rcases q2 with q2 | q2
      · obtain ⟨bs, r2⟩ := Dp.reads I (.list ds) y u q2 ry
        exact SeqAt.notIn_list_reads r2 r1 q4 q3 room ⟨.bl _, H, I, rfl, o'⟩
      · obtain ⟨bs, r2⟩ := Dp.reads I (.tuple ds) y u q2 ry
        exact SeqAt.notIn_tuple_reads r2 r1 q4 q3 room ⟨.bl _, H, I, rfl, o'⟩
    · cases (show u = Value.ref p from ry)
      exact dct_notIn (by omega) I g2 g3 g4 g6 ha rx e2 fun s' I' => ⟨.bl _, H, I', rfl, o'⟩
  · exact o.elim

/-! ### subscripts -/
theorem ixN_eq (n : Nat) (i : Int) : L2.ixN n i = LG.ixN n i := rfl
theorem atI_rvs {K : PySem.W.Frag} {μ : List Addr} {H : Hp} {vs : List V} {ds : List D} {i : Int} {d : D} (r : RVs K μ H vs ds) (e : LG.atI ds i = some d) : ∃ v, L2.atI vs i = some v ∧ RV K μ H v d := by
  unfold LG.atI at e
  rw [Option.bind_eq_some_iff] at e
  obtain ⟨j, e1, e2⟩ := e
  obtain ⟨v, h1, h2⟩ := r.get e2
  refine ⟨v, ?_, h2⟩
  unfold L2.atI
  rw [ixN_eq, r.length, e1]
  exact h1
theorem ok_idx (hu : X.A.units + 64 < cLine) : IxR X (rOp (pk X ca) W σ₀ idx) := by
  intro value slice pins s σ H x y v u Q I rx ry h hsub
  obtain ⟨μ, a, b, st, hs, ha, hb, o⟩ := h
  unfold idx at o
  cases hb with
  | int i =>
    simp only at o
    cases ha with
    | str z =>
      simp only at o
      split at o
      · rename_i hz
        split at o
        · rename_i c e
          exact ix_str value slice pins s σ H _ _ v u Q I rx ry ⟨z, i, c, rfl, rfl, by rw [lim_eq]; simpa [Str.length] using hz, e, o.here hs (.str ⟨#[c]⟩)⟩ hsub
        · exact o.elim
      · exact o.elim
    | tup h1 h2 =>
      simp only at o
      split at o
      · rename_i d e
        obtain ⟨w, g1, g2⟩ := atI_rvs h2 e
        exact ix_tup value slice pins s σ H _ _ v u Q I rx ry ⟨_, _, i, w, rfl, rfl, h1.sq, g1, o.here hs g2⟩ hsub
      · exact o.elim
    | @ref p n hm =>
      simp only at o
      split at o
      · rename_i xs e1
        obtain ⟨a', vs, g1, g2, g3, _⟩ := hs.lst e1
        rw [hm] at g1; cases g1
        split at o
        · rename_i d e
          obtain ⟨w, k1, k2⟩ := atI_rvs g3 e
          exact ix_list value slice pins s σ H _ _ v u Q I rx ry ⟨_, _, i, w, rfl, rfl, .inl (.inl g2), k1, o.here hs k2⟩ hsub
        · exact o.elim
      · exact o.elim
    | _ => exact o.elim
  | @tup b vs ys ht hr =>
    simp only at o
    cases ha with
    | @ref p n hm =>
      simp only at o
      split at o
      · rename_i kvs e1
        split at o
        · rename_i k e2
          split at o
          · rename_i d e3
            obtain ⟨a', xs, g1, g2, g3, g4, g5, g6⟩ := hs.dct e1
            rw [hm] at g1; cases g1
            cases (show v = Value.ref p from rx)
            exact tail_any (dct_of I g2 g3 g4).typeIs slot_dict_getitem.lookup (dct_get hu I g2 g3 g4 (.tup ht hr) ry e2 e3 fun w u' s' I' rw' hw => ⟨w, H, I', rw', o.here hs hw⟩) hsub
          · exact o.elim
        · exact o.elim
      · exact o.elim
    | _ => exact o.elim
  | _ => exact o.elim
/-- a slice by values -/
def rSlc (P : PK) (W : WX) (σ : L2.St) : V → Option Int → Option Int → Hp → VK → Prop := fun x lo hi H Q => ∃ μ a s, RS P μ H s ∧ RV P.K μ H x a ∧ Out P W σ μ H (RE P) (slc lo hi a s) Q
theorem cut_le {α : Type} (xs : List α) (lo hi : Option Int) : (LG.cut xs lo hi).length ≤ xs.length := by
  unfold LG.cut
  rw [List.length_take, List.length_drop]
  omega
theorem cut_all {α : Type} (xs : List α) (lo hi : Option Int) (h : LG.sIx xs.length 0 lo = 0 ∧ LG.sIx xs.length xs.length hi = xs.length) : LG.cut xs lo hi = xs := by
  unfold LG.cut
  rw [h.1, h.2]
  simp
theorem ok_slc : SlR X (rSlc (pk X ca) W σ₀) := by
  intro pins s σ H x v vl vu lo hi sl Q I rx hsl pl pu h
  obtain ⟨μ, a, st, hs, ha, o⟩ := h
  cases ha with
  | str z =>
    simp only [slc] at o
    split at o
    · rename_i hz
      refine sl_str pins s σ H _ v vl vu lo hi sl Q I rx hsl pl pu ⟨z, rfl, by rw [lim_eq]; simpa [Str.length] using hz, o.here hs ?_⟩
      have e : (cutS z lo hi).cps.toList = LG.cut z.cps.toList lo hi := by
        unfold cutS LG.cut
        simp only [sIx_eq, Str.length, Array.length_toList]
      rw [← e]
      exact .str _
    · exact o.elim
  | @tup p vs ds h1 h2 =>
    simp only [slc] at o
    refine sl_tupA pins s σ H _ v vl vu lo hi sl Q I rx hsl pl pu ⟨p, vs, rfl, h1.sq, fun hw => ?_, fun _ q hq => o.tup hs hq (h2.cut lo hi)⟩
    rw [sIx_eq, sIx_eq, h2.length] at hw
    rw [cut_all ds lo hi hw] at o
    exact o.here hs (.tup h1 h2)
  | @ref p n hm =>
    simp only [slc] at o
    split at o
    · rename_i xs e1
      obtain ⟨a', vs, g1, g2, g3, g4⟩ := hs.lst e1
      rw [hm] at g1; cases g1
      exact sl_list pins s σ H _ v vl vu lo hi sl Q I rx hsl pl pu ⟨p, vs, rfl, .inl (.inl g2), fun q hq => o.lst hs hq (g3.cut lo hi) (Nat.le_trans (cut_le _ _ _) g4)⟩
    · exact o.elim
  | _ => exact o.elim

/-! ### built-in functions -/
theorem len_ok {P : PK} {μ : List Addr} {H : Hp} {st : Sto} {x : V} {d : D} {n : Nat} (hs : RS P μ H st) (h : RV P.K μ H x d) (e : lenO st d = some n) : LenV P.K x H n := by
  cases h with
  | str z =>
    simp only [lenO] at e
    split at e
    · rename_i hz
      cases e
      exact ⟨by rw [lim_eq]; simpa [Str.length] using hz, by simp [Str.length]⟩
    · cases e
  | tup h1 h2 => simp only [lenO] at e; cases e; exact .inr ⟨_, h1.sq, h2.length.symm⟩
  | @ref p k hm =>
    simp only [lenO] at e
    split at e
    · rename_i xs e1
      cases e
      obtain ⟨a', vs, g1, g2, g3, _⟩ := hs.lst e1
      rw [hm] at g1; cases g1
      exact .inl ⟨_, .inl (.inl g2), g3.length.symm⟩
    · cases e
  | _ => simp [lenO] at e
theorem ok_len : CallR X (.builtin "len") (rFn (pk X ca) W σ₀ bLen) := by
  intro pins s σ H vs us Q I r h
  obtain ⟨μ, ds, st, hs, hv, o⟩ := h
  unfold bLen at o
  split at o
  · obtain ⟨v, rfl, hv1⟩ := hv.one
    split at o
    · rename_i n e
      exact call_len pins s σ H _ us Q I r ⟨v, n, rfl, len_ok hs hv1 e, o.here hs (.int _)⟩
    · exact o.elim
  · exact o.elim
theorem ok_int : CallR X (.type "int") (rFn (pk X ca) W σ₀ bInt) := by
  intro pins s σ H vs us Q I r h
  obtain ⟨μ, ds, st, hs, hv, o⟩ := h
  unfold bInt at o
  split at o
  · rename_i i
    obtain ⟨v, rfl, hv1⟩ := hv.one
    cases hv1
    exact call_int1 pins s σ H _ us Q I r (.inl ⟨i, rfl, o.here hs (.int _)⟩)
  · rename_i b
    obtain ⟨v, rfl, hv1⟩ := hv.one
    cases hv1
    exact call_int1 pins s σ H _ us Q I r (.inr ⟨b, rfl, o.here hs (.int _)⟩)
  · exact o.elim
theorem RVs.kl_len {K : PySem.W.Frag} {μ : List Addr} {H : Hp} {x : V} {d : D} {ds : List D} (h : RV K μ H x d) : True := True.intro
theorem seq_lim {P : PK} {μ : List Addr} {H : Hp} {st : Sto} {X : Cx} {pins : List (Addr × Obj)} {σ : L2.St} {s : Shared} (I : Inv X pins σ H s) {a : Addr} {vs : List V} (h : SqL X.K H a vs ∨ SqT X.K H a vs) : vs.length ≤ LIM := by
  rw [← lim_eq]
  rcases h with h | h
  · obtain ⟨_, _, _, z⟩ := I.list h; exact z
  · obtain ⟨_, _, _, z⟩ := I.tuple h; exact z
theorem ok_list : CallR X (.type "list") (rFn (pk X ca) W σ₀ bList) := by
  intro pins s σ H vs us Q I r h
  obtain ⟨μ, ds, st, hs, hv, o⟩ := h
  unfold bList at o
  split at o
  · rename_i x
    obtain ⟨v, rfl, hv1⟩ := hv.one
    split at o
    · rename_i xs e
      obtain ⟨a, ws, rfl, g1, g2⟩ := seq_ok hs hv1 e
      exact call_list_of pins s σ H _ us Q I r ⟨a, ws, rfl, g1, fun p hp => o.lst hs hp g2 (by rw [← g2.length]; exact seq_lim (P := pk X ca) (μ := μ) (st := st) I g1)⟩
    · exact o.elim
  · exact o.elim
theorem ok_tuple : CallR X (.type "tuple") (rFn (pk X ca) W σ₀ bTuple) := by
  intro pins s σ H vs us Q I r h
  obtain ⟨μ, ds, st, hs, hv, o⟩ := h
  unfold bTuple at o
  split at o
  · rename_i xs
    obtain ⟨v, rfl, hv1⟩ := hv.one
    cases hv1 with
    | tup h1 h2 => exact call_tuple_of pins s σ H _ us Q I r ⟨_, _, rfl, .inr ⟨h1.sq, o.here hs (.tup h1 h2)⟩⟩
  · rename_i n
    obtain ⟨v, rfl, hv1⟩ := hv.one
    cases hv1 with
    | ref hm =>
      split at o
      · rename_i xs e1
        obtain ⟨a', ws, g1, g2, g3, g4⟩ := hs.lst e1
        rw [hm] at g1; cases g1
        exact call_tuple_of pins s σ H _ us Q I r ⟨_, ws, rfl, .inl ⟨.inl (.inl g2), fun p hp => o.tup hs hp g3⟩⟩
      · exact o.elim
  · exact o.elim
theorem lstArg_ok {P : PK} {μ : List Addr} {H : Hp} {st : Sto} {vs : List V} {ds xs : List D} (hs : RS P μ H st) (hv : RVs P.K μ H vs ds) (e : lstArg st ds = some xs) : ∃ a ws, vs = [.ref a] ∧ H a = some (.lst ws) ∧ RVs P.K μ H ws xs := by
  unfold lstArg at e
  split at e
  · obtain ⟨v, rfl, hv1⟩ := hv.one
    cases hv1 with
    | ref hm =>
      split at e
      · rename_i ys e1
        cases e
        obtain ⟨a', ws, g1, g2, g3, g4⟩ := hs.lst e1
        rw [hm] at g1; cases g1
        exact ⟨_, _, rfl, g2, g3⟩
      · cases e
  · cases e
theorem bls_ok {K : PySem.W.Frag} {μ : List Addr} {H : Hp} : ∀ {ds : List D} {vs : List V} {bs : List Bool}, RVs K μ H vs ds → blsOf ds = some bs → vs = bs.map V.bl
  | [], _, _, h, e => by cases h; simp only [blsOf] at e; cases e; rfl
  | d :: ds, _, bs, h, e => by
    cases h with
    | cons h1 h2 =>
      cases h1 with
      | bl b =>
        simp only [blsOf] at e
        cases q : blsOf ds with
        | none => rw [q] at e; cases e
        | some r => rw [q] at e; cases e; rw [bls_ok h2 q]; rfl
      | _ => simp [blsOf] at e
theorem ints_ok {K : PySem.W.Frag} {μ : List Addr} {H : Hp} : ∀ {ds : List D} {vs : List V} {bs : List Int}, RVs K μ H vs ds → intsOf ds = some bs → vs = bs.map V.int
  | [], _, _, h, e => by cases h; simp only [intsOf] at e; cases e; rfl
  | d :: ds, _, bs, h, e => by
    cases h with
    | cons h1 h2 =>
      cases h1 with
      | int b =>
        simp only [intsOf] at e
        cases q : intsOf ds with
        | none => rw [q] at e; cases e
        | some r => rw [q] at e; cases e; rw [ints_ok h2 q]; rfl
      | _ => simp [intsOf] at e
theorem ok_all (hc : X.calm = true) : CallR X (.builtin "all") (rFn (pk X ca) W σ₀ bAll) := by
  intro pins s σ H vs us Q I r h
  obtain ⟨μ, ds, st, hs, hv, o⟩ := h
  unfold bAll at o
  split at o
  · rename_i bs e
    rw [Option.bind_eq_some_iff] at e
    obtain ⟨xs, e1, e2⟩ := e
    obtain ⟨a, ws, rfl, g1, g2⟩ := lstArg_ok hs hv e1
    have := bls_ok g2 e2
    subst this
    exact cr_all hc pins s σ H _ us Q I r ⟨a, bs, rfl, .inl (.inl g1), o.here hs (.bl _)⟩
  · exact o.elim
theorem ok_any (hc : X.calm = true) : CallR X (.builtin "any") (rFn (pk X ca) W σ₀ bAny) := by
  intro pins s σ H vs us Q I r h
  obtain ⟨μ, ds, st, hs, hv, o⟩ := h
  unfold bAny at o
  split at o
  · rename_i bs e
    rw [Option.bind_eq_some_iff] at e
    obtain ⟨xs, e1, e2⟩ := e
    obtain ⟨a, ws, rfl, g1, g2⟩ := lstArg_ok hs hv e1
    have := bls_ok g2 e2
    subst this
    exact cr_any hc pins s σ H _ us Q I r ⟨a, bs, rfl, .inl (.inl g1), o.here hs (.bl _)⟩
  · exact o.elim
theorem ok_sum (hc : X.calm = true) : CallR X (.builtin "sum") (rFn (pk X ca) W σ₀ bSum) := by
  intro pins s σ H vs us Q I r h
  obtain ⟨μ, ds, st, hs, hv, o⟩ := h
  unfold bSum at o
  split at o
  · rename_i bs e
    rw [Option.bind_eq_some_iff] at e
    obtain ⟨xs, e1, e2⟩ := e
    obtain ⟨a, ws, rfl, g1, g2⟩ := lstArg_ok hs hv e1
    have := ints_ok g2 e2
    subst this
    exact cr_sum hc pins s σ H _ us Q I r ⟨a, bs, rfl, .inl (.inl g1), o.here hs (.int _)⟩
  · exact o.elim
theorem maxI_eq : ∀ (r : List Int) (m x : Int), x ∈ (m :: r) → (∀ y, y ∈ (m :: r) → y ≤ x) → maxI m r = x
  | [], m, x, h1, h2 => by simp at h1; rw [h1]; rfl
  | y :: r, m, x, h1, h2 => by
    unfold maxI
    by_cases h : m < y
    · rw [if_pos h]
      refine maxI_eq r y x ?_ fun z hz => h2 z (List.mem_cons_of_mem _ hz)
      rcases List.mem_cons.mp h1 with e | h1
      · have := h2 y (List.mem_cons_of_mem _ (List.mem_cons_self ..)); omega
      · exact h1
    · rw [if_neg h]
      refine maxI_eq r m x ?_ fun z hz => h2 z ?_
      · rcases List.mem_cons.mp h1 with e | h1
        · rw [e]; exact List.mem_cons_self ..
        · rcases List.mem_cons.mp h1 with e | h1
          · have := h2 m (List.mem_cons_self ..)
            have : x = m := by omega
            rw [this]; exact List.mem_cons_self ..
          · exact List.mem_cons_of_mem _ h1
      · rcases List.mem_cons.mp hz with e | hz
        · rw [e]; exact List.mem_cons_self ..
        · exact List.mem_cons_of_mem _ (List.mem_cons_of_mem _ hz)
theorem minI_eq : ∀ (r : List Int) (m x : Int), x ∈ (m :: r) → (∀ y, y ∈ (m :: r) → x ≤ y) → minI m r = x
  | [], m, x, h1, h2 => by simp at h1; rw [h1]; rfl
  | y :: r, m, x, h1, h2 => by
    unfold minI
    by_cases h : y < m
    · rw [if_pos h]
      refine minI_eq r y x ?_ fun z hz => h2 z (List.mem_cons_of_mem _ hz)
      rcases List.mem_cons.mp h1 with e | h1
      · have := h2 y (List.mem_cons_of_mem _ (List.mem_cons_self ..)); omega
      · exact h1
    · rw [if_neg h]
      refine minI_eq r m x ?_ fun z hz => h2 z ?_
      · rcases List.mem_cons.mp h1 with e | h1
        · rw [e]; exact List.mem_cons_self ..
        · rcases List.mem_cons.mp h1 with e | h1
          · have := h2 m (List.mem_cons_self ..)
            have : x = m := by omega
            rw [this]; exact List.mem_cons_self ..
          · exact List.mem_cons_of_mem _ h1
      · rcases List.mem_cons.mp hz with e | hz
        · rw [e]; exact List.mem_cons_self ..
        · exact List.mem_cons_of_mem _ (List.mem_cons_of_mem _ hz)
theorem ok_max (hc : X.calm = true) : CallR X (.builtin "max") (rFn (pk X ca) W σ₀ bMax) := by
  intro pins s σ H vs us Q I r h
  obtain ⟨μ, ds, st, hs, hv, o⟩ := h
  unfold bMax at o
  split at o
  · rename_i i j
    obtain ⟨v, w, rfl, h1, h2⟩ := hv.two
    cases h1
    cases h2
    exact call_max2 hc pins s σ H _ us Q I r ⟨i, j, rfl, o.here hs (.int _)⟩
  · split at o
    · rename_i m bs e
      rw [Option.bind_eq_some_iff] at e
      obtain ⟨xs, e1, e2⟩ := e
      obtain ⟨a, ws, rfl, g1, g2⟩ := lstArg_ok hs hv e1
      have := ints_ok g2 e2
      subst this
      refine cr_max hc pins s σ H _ us Q I r ⟨a, m :: bs, rfl, .inl (.inl g1), by simp, fun x h1 h2 => ?_⟩
      rw [← maxI_eq bs m x h1 h2]
      exact o.here hs (.int _)
    · exact o.elim
theorem ok_min (hc : X.calm = true) : CallR X (.builtin "min") (rFn (pk X ca) W σ₀ bMin) := by
  intro pins s σ H vs us Q I r h
  obtain ⟨μ, ds, st, hs, hv, o⟩ := h
  unfold bMin at o
  split at o
  · rename_i i j
    obtain ⟨v, w, rfl, h1, h2⟩ := hv.two
    cases h1
    cases h2
    exact call_min2 hc pins s σ H _ us Q I r ⟨i, j, rfl, o.here hs (.int _)⟩
  · split at o
    · rename_i m bs e
      rw [Option.bind_eq_some_iff] at e
      obtain ⟨xs, e1, e2⟩ := e
      obtain ⟨a, ws, rfl, g1, g2⟩ := lstArg_ok hs hv e1
      have := ints_ok g2 e2
      subst this
      refine cr_min hc pins s σ H _ us Q I r ⟨a, m :: bs, rfl, .inl (.inl g1), by simp, fun x h1 h2 => ?_⟩
      rw [← minI_eq bs m x h1 h2]
      exact o.here hs (.int _)
    · exact o.elim
theorem tru_of {P : PK} {μ : List Addr} {H : Hp} {st : Sto} {x : V} {d : D} {k : Bool} (hs : RS P μ H st) (h : RV P.K μ H x d) (e : truth st d = some k) : TruV P.K x H k := by
  have emp : ∀ {vs : List V} {ds : List D}, RVs P.K μ H vs ds → vs.isEmpty = ds.isEmpty := fun r => by cases r <;> rfl
  cases h with
  | non => simp only [truth] at e; cases e; rfl
  | bl b => simp only [truth] at e; cases e; rfl
  | int i => simp only [truth] at e; cases e; rfl
  | str z =>
    simp only [truth] at e
    split at e
    · rename_i hz
      cases e
      refine ⟨by rw [lim_eq]; simpa [Str.length] using hz, ?_⟩
      have : z.cps.toList.length = z.length := by simp [Str.length]
      rw [← this]
      cases z.cps.toList with
      | nil => rfl
      | cons a b => simp; omega
    · cases e
  | tup h1 h2 => simp only [truth] at e; cases e; exact .inr (.inl ⟨_, h1.sq, by rw [emp h2]⟩)
  | kl h1 h2 => simp only [truth] at e; cases e; exact .inl ⟨_, h1.sq, by rw [emp h2]⟩
  | @ref p n hm =>
    simp only [truth] at e
    split at e
    · rename_i xs e1
      cases e
      obtain ⟨a', vs, g1, g2, g3, _⟩ := hs.lst e1
      rw [hm] at g1; cases g1
      exact .inl ⟨_, .inl (.inl g2), by rw [emp g3]⟩
    · cases e

/-! ### methods -/
def rMt (P : PK) (W : WX) (σ : L2.St) (m : Mt) : V → List V → Hp → VK → Prop := fun x vs H Q => ∃ μ a ds s, RS P μ H s ∧ RV P.K μ H x a ∧ RVs P.K μ H vs ds ∧ Out P W σ μ H (RE P) (m a ds s) Q
theorem ok_append : MtR X "list.append" (rMt (pk X ca) W σ₀ mAppend) := by
  intro pins s σ H x xs v us Q I rx rxs h
  obtain ⟨μ, a, ds, st, hs, ha, hv, o⟩ := h
  unfold mAppend at o
  split at o
  · rename_i n y
    obtain ⟨w, rfl, hw⟩ := hv.one
    cases ha with
    | ref hm =>
      split at o
      · rename_i ys e1
        split at o
        · rename_i hz
          obtain ⟨a', vs, g1, g2, g3, g4⟩ := hs.lst e1
          rw [hm] at g1; cases g1
          exact mt_append pins s σ H _ _ v us Q I rx rxs ⟨_, vs, w, rfl, rfl, g2, by rw [lim_eq, g3.length]; exact hz, o.write hs hm g2 (g3.append (.cons hw .nil)) (by rw [List.length_append]; exact hz) .non⟩
        · exact o.elim
      · exact o.elim
  · exact o.elim
theorem getElem?_last {α : Type} (xs : List α) : xs[xs.length - 1]? = xs.getLast? := (List.getLast?_eq_getElem?).symm
theorem RVs.dropLast {K : PySem.W.Frag} {μ : List Addr} {H : Hp} {vs : List V} {ds : List D} (r : RVs K μ H vs ds) : RVs K μ H vs.dropLast ds.dropLast := by
  rw [List.dropLast_eq_take, List.dropLast_eq_take, r.length]
  exact r.take _
theorem ok_pop : MtR X "list.pop" (rMt (pk X ca) W σ₀ mPop) := by
  intro pins s σ H x xs v us Q I rx rxs h
  obtain ⟨μ, a, ds, st, hs, ha, hv, o⟩ := h
  unfold mPop at o
  split at o
  · rename_i n
    cases hv
    cases ha with
    | ref hm =>
      split at o
      · rename_i ys e1
        split at o
        · rename_i y e2
          obtain ⟨a', vs, g1, g2, g3, g4⟩ := hs.lst e1
          rw [hm] at g1; cases g1
          obtain ⟨w, k1, k2⟩ := g3.get e2
          refine mt_pop pins s σ H _ _ v us Q I rx rxs ⟨_, vs, w, rfl, rfl, g2, by rw [g3.length]; exact k1, o.write hs hm g2 g3.dropLast ?_ k2⟩
          rw [List.length_dropLast]; omega
        · exact o.elim
      · exact o.elim
  · rename_i n i
    obtain ⟨w, rfl, hw⟩ := hv.one
    cases hw
    cases ha with
    | ref hm =>
      split at o
      · rename_i ys e1
        split at o
        · rename_i k e2
          split at o
          · rename_i y e3
            obtain ⟨a', vs, g1, g2, g3, g4⟩ := hs.lst e1
            rw [hm] at g1; cases g1
            obtain ⟨w, k1, k2⟩ := g3.get e3
            obtain ⟨q1, q2, q3, q4⟩ := L2.ixN_seq e2
            have hl : ys.length ≤ 16777216 := g4
            refine mt_popAt pins s σ H _ _ v us Q I rx rxs ⟨_, vs, i, k, w, rfl, rfl, g2, by omega, by omega, by rw [g3.length]; exact q1, k1, o.write hs hm g2 (g3.eraseIdx k) ?_ k2⟩
            exact Nat.le_trans (List.length_eraseIdx_le ..) g4
          · exact o.elim
        · exact o.elim
      · exact o.elim
  · exact o.elim
theorem ixOf_ok : ∀ {qs : List PyData} {p : PyData} {k : Nat}, ixOf p qs = some k → ∃ z, qs[k]? = some z ∧ PyData.eqv z p = true ∧ ∀ (m : Nat) (z' : PyData), m < k → qs[m]? = some z' → PyData.eqv z' p = false
  | [], _, _, h => by simp [ixOf] at h
  | q :: qs, p, k, h => by
    unfold ixOf at h
    split at h
    · rename_i hq
      cases h
      exact ⟨q, rfl, hq, fun m z' hm => absurd hm (Nat.not_lt_zero _)⟩
    · rename_i hq
      cases e : ixOf p qs with
      | none => rw [e] at h; cases h
      | some j =>
        rw [e] at h
        cases h
        obtain ⟨z, h1, h2, h3⟩ := ixOf_ok e
        refine ⟨z, by simpa using h1, h2, fun m z' hm hz => ?_⟩
        cases m with
        | zero => simp at hz; subst hz; simpa using hq
        | succ m => exact h3 m z' (Nat.lt_of_succ_lt_succ hm) (by simpa using hz)
theorem ok_index (hu : X.A.units + 65 < cLine) : MtR X "list.index" (rMt (pk X ca) W σ₀ mIndex) := by
  intro pins s σ H x xs v us Q I rx rxs h
  obtain ⟨μ, a, ds, st, hs, ha, hv, o⟩ := h
  unfold mIndex at o
  split at o
  · rename_i n y
    obtain ⟨w, rfl, hw⟩ := hv.one
    cases ha with
    | @ref b _ hm =>
      split at o
      · rename_i ys e1
        split at o
        · rename_i p qs e2 e3
          split at o
          · rename_i k e4
            obtain ⟨a', vs, g1, g2, g3, g4⟩ := hs.lst e1
            rw [hm] at g1; cases g1
            obtain ⟨a1, a2, a3⟩ := toPD_ok hs 60 y w p hw e2
            obtain ⟨b1, b2, b3⟩ := toPDs_ok hs 59 ys vs qs g3 e3
            obtain ⟨z, z1, z2, z3⟩ := ixOf_ok e4
            exact mt_indexD hu pins s σ H _ _ v us Q I rx rxs ⟨b, w, p, qs, k, z, rfl, rfl, .lst (.inl (.inl g2)) b1, a1, shaped_of (by simpa [PyData.canLay0] using b2) (by simp only [PyData.depth]; omega), shaped_of a2 a3, z1, z2, z3, o.here hs (.int _)⟩
          · exact o.elim
        · exact o.elim
      · exact o.elim
  · exact o.elim
theorem ok_set : ∀ {e : Addr}, True := fun {_} => True.intro
/-- o[i] = v, by values -/
def rSet (P : PK) (W : WX) (σ : L2.St) : TSet := fun o i v H Q => ∃ μ a b c s, RS P μ H s ∧ RV P.K μ H o a ∧ RV P.K μ H i b ∧ RV P.K μ H v c ∧ Out P W σ μ H (fun _ _ (_ : Unit) (_ : Unit) => True) (setI a b c s) fun _ H' => Q H'
theorem ok_setI (hu : X.A.units + 64 < cLine) : PSet X (rSet (pk X ca) W σ₀) := by
  intro pins s σ H ov iv vv uo ui uv Q I ro ri rv h
  obtain ⟨μ, a, b, c, st, hs, ha, hb, hc, o⟩ := h
  unfold setI at o
  cases ha with
  | @ref p n hm =>
    simp only at o
    split at o
    · rename_i xs e1
      cases hb with
      | int k =>
        simp only at o
        split at o
        · rename_i j e2
          obtain ⟨a', vs, g1, g2, g3, g4⟩ := hs.lst e1
          rw [hm] at g1; cases g1
          obtain ⟨m, r'⟩ := hs.write hm g2 (g3.set hc j) (by rw [List.length_set]; exact g4)
          exact set_list pins s σ H _ _ vv uo ui uv Q I ro ri rv ⟨_, vs, k, j, rfl, rfl, g2, by rw [g3.length]; exact e2, o μ _ () m r' True.intro⟩
        · exact o.elim
      | _ => exact o.elim
    · rename_i kvs e1
      split at o
      · rename_i k e2
        split at o
        · rename_i hl
          obtain ⟨a', xs, g1, g2, g3, g4, g5, g6⟩ := hs.dct e1
          rw [hm] at g1; cases g1
          cases (show uo = Value.ref p from ro)
          refine dct_set hu I g2 g3 g4 g5 hb ri e2 rv hc fun xs' s' r' n' I' => ⟨_, I', ?_⟩
          obtain ⟨m, r2⟩ := hs.writeD hm g2 r' n' (Nat.le_trans dPut_len (by omega)) g6
          exact o μ _ () m r2 True.intro
        · exact o.elim
      · exact o.elim
    · exact o.elim
  | _ => exact o.elim
/-! ### extend -/
end
end LG
namespace PySem.SeqAt
open AutoSeq1 (wpAny_loadPart')
theorem lg_extend_tuple (l b : Addr) (items items2 : Array Value) (n n2 : Nat) (dd : Option Addr) (sl : Array (Option Value)) (hs0 : ¬(!items.isEmpty && Builtin.List.listTooLong (items.size + items2.size)) = true) (hs1 : items.size ≤ sizeLine) (hs2 : items.size + items2.size ≤ sizeLine + 1) :
    Meets (Builtin.«list.extend» ⟨[.ref l, .ref b], []⟩)
      (fun _ R s => s.heap.get? l = some { cls := .type "list", dict := none, data := .seq items n, slots := #[] } ∧ s.heap.get? b = some { cls := .type "tuple", dict := dd, data := .seq items2 n2, slots := sl } ∧
        R (.ok (.ret Value.none)) { s with heap := s.heap.update l (Obj.mapSeq fun x => x ++ items2), toks := s.toks }) :=
  .of_wp fun prog w A R s h => by
    obtain ⟨hp, g, d, tk, os⟩ := s
    obtain ⟨hl, hb, h⟩ := h
    have f1 := AutoSeq1.idx_int
    have f2 := AutoSeq1.sub_tuple_tuple
    have f3 := AutoSeq1.sub_list_list
    have f4 := AutoSeq1.sub_tuple_list
    have f5 := AutoSeq1.sub_list_tuple
    have hz' : (items ++ items2).size ≤ sizeLine + 1 := by rw [Array.size_append]; exact hs2
    wp_walk using (wpAny_updateSeq hl rfl (hz := hs1) (_hz' := hz')), wpAny_loadPart' hl, wpAny_loadPart' hb
    exact ⟨_, rfl, h⟩
end PySem.SeqAt
namespace LG
open PySem PySem.Spec PyProof.Rows L2
section
variable {X : Cx} {ca : Nat → Addr} {W : WX} {σ₀ : L2.St}
theorem ok_extend : MtR X "list.extend" (rMt (pk X ca) W σ₀ mExtend) := by
  intro pins s σ H x xs v us Q I rx rxs h
  obtain ⟨μ, a, ds, st, hs, ha, hv, o⟩ := h
  unfold mExtend at o
  split at o
  · rename_i n zs
    obtain ⟨w, rfl, hw⟩ := hv.one
    cases ha with
    | @ref p _ hm =>
      split at o
      · rename_i ys e1
        split at o
        · rename_i hz
          obtain ⟨a', vs, g1, g2, g3, g4⟩ := hs.lst e1
          rw [hm] at g1; cases g1
          cases hw with
          | @tup b ws _ h1 h2 =>
            obtain ⟨m, r2⟩ := hs.write hm g2 (g3.append h2) (by rw [List.length_append]; exact hz)
            have fin := o μ _ .non m r2 .non
            have hlen : vs.length + ws.length ≤ sizeLine := by rw [g3.length, h2.length, lim_eq]; exact hz
            cases (show v = Value.ref p from rx)
            obtain ⟨u, rfl, ru⟩ := rxs.one
            cases (show u = Value.ref b from ru)
            obtain ⟨z, its, k, r, hl, e⟩ := I.lstM g2
            obtain ⟨its2, rr2, ⟨o2, ho2, hc2, k2, hd2⟩, z2⟩ := I.tuple h1.sq
            obtain ⟨c2, dd2, dt2, sl2⟩ := o2
            simp only at hc2 hd2
            subst hc2; subst hd2
            have hl2 := rr2.length
            have hsz : its.toArray.size + its2.toArray.size ≤ sizeLine := by rw [List.size_toArray, List.size_toArray]; omega
            have hlong : ¬ (!its.toArray.isEmpty && Builtin.List.listTooLong (its.toArray.size + its2.toArray.size)) = true := by
              rw [notLongL hsz, Bool.and_false]
              exact Bool.false_ne_true
            refine call_meets F.slot_list_extend ⟨_, e, rfl⟩ F.entry_list_extend (F.args_list_extend_2 _ _)
              (SeqAt.lg_extend_tuple p b its.toArray its2.toArray k k2 dd2 sl2 hlong (by rw [List.size_toArray]; omega) (by omega)) ⟨e, ho2, ?_⟩
            refine ⟨.non, _, I.lset (its' := its ++ its2) g2 e (by simp) (r.append rr2) ?_, rfl, fin⟩
            rw [List.length_append]
            exact hlen
        · exact o.elim
      · exact o.elim
  · rename_i n m0
    obtain ⟨w, rfl, hw⟩ := hv.one
    cases ha with
    | @ref p _ hm =>
      cases hw with
      | @ref b _ hm2 =>
        split at o
        · rename_i ys zs e1 e2
          split at o
          · rename_i hz
            obtain ⟨a', vs, g1, g2, g3, g4⟩ := hs.lst e1
            rw [hm] at g1; cases g1
            obtain ⟨b', ws, k1, k2, k3, k4⟩ := hs.lst e2
            rw [hm2] at k1; cases k1
            obtain ⟨m, r2⟩ := hs.write hm g2 (g3.append k3) (by rw [List.length_append]; exact hz)
            exact mt_extend pins s σ H _ _ v us Q I rx rxs ⟨p, b, vs, ws, rfl, rfl, g2, k2, by rw [g3.length, k3.length, lim_eq]; exact hz, o μ _ .non m r2 .non⟩
          · exact o.elim
        · exact o.elim
  · exact o.elim
/-! ### str of an int -/
theorem digitChar_nat : ∀ d : Nat, d < 10 → (Nat.digitChar d).toNat = 48 + d := by decide
theorem digits_eq : ∀ (f g n : Nat) (ds : List Char) (acc : Cs), n < 10 ^ (f + 1) → n < g → ds.map Char.toNat = acc → (Nat.toDigitsCore 10 g n ds).map Char.toNat = digits (f + 1) n acc
  | f, 0, n, ds, acc, _, h, _ => by omega
  | f, g + 1, n, ds, acc, h1, h2, h3 => by
    unfold Nat.toDigitsCore digits
    have hd := digitChar_nat (n % 10) (Nat.mod_lt _ (by omega))
    by_cases c : n < 10
    · rw [if_pos c]
      have : n / 10 = 0 := Nat.div_eq_of_lt c
      simp only [this, if_true]
      rw [List.map_cons, h3, hd, Nat.mod_eq_of_lt c]
    · rw [if_neg c]
      have : n / 10 ≠ 0 := by omega
      simp only [this, if_false]
      cases f with
      | zero => omega
      | succ f => exact digits_eq f g (n / 10) _ _ (by rw [Nat.pow_succ] at h1; omega) (by omega) (by rw [List.map_cons, h3, hd])
theorem str_digits {i : Int} (h1 : 0 ≤ i) (h2 : i < 1000000000000000000) : ((toString i : String) : Str).cps.toList = digits 20 i.toNat [] := by
  obtain ⟨n, rfl⟩ : ∃ n : Nat, i = Int.ofNat n := ⟨i.toNat, by simp; omega⟩
  have e : toString (Int.ofNat n) = String.ofList (Nat.toDigits 10 n) := rfl
  show (Str.ofString (toString (Int.ofNat n))).cps.toList = _
  rw [e]
  unfold Str.ofString
  simp only [cpsOfBytes_string, String.toList_ofList]
  have hn : n < 1000000000000000000 := by have h2' : (n : Int) < 1000000000000000000 := h2; omega
  exact digits_eq 19 (n + 1) n [] [] (by omega) (by omega) rfl
theorem ok_str : CallR X (.type "str") (rFn (pk X ca) W σ₀ bStr) := by
  intro pins s σ H vs us Q I r h
  obtain ⟨μ, ds, st, hs, hv, o⟩ := h
  unfold bStr at o
  split at o
  · rename_i i
    obtain ⟨v, rfl, hv1⟩ := hv.one
    cases hv1
    split at o
    · rename_i hi
      refine call_str_int pins s σ H _ us Q I r ⟨i, rfl, ?_, ?_⟩
      · by_cases z : i.natAbs = 0
        · rw [z]; decide
        · exact Nat.lt_of_lt_of_le ((Nat.log2_lt z).mpr (by omega : i.natAbs < 2 ^ 60)) (by omega)
      · have q := RV.str (K := X.K) (μ := μ) (H := H) ((toString i : String) : Str)
        rw [str_digits hi.1 hi.2] at q
        exact o.here hs q
    · exact o.elim
  · exact o.elim
end
end LG
set_option Elab.async false
set_option linter.all false
set_option maxRecDepth 100000
/-! LG7: from the text to the functions of LG1. -/
namespace LG
open PySem

/-- what the module holds: constants, defs (name, parameters), exception classes (name) -/
structure Glob where
  consts : List (Str × D)
  defs : List (Str × List Str)
  cls : List Str
  sub : Nat → Nat → Option Bool
  hot : Bool

def slotOf (x : Str) : List Str → Nat → Option Nat
  | [], _ => none
  | y :: r, i => if y == x then some i else slotOf x r (i + 1)
def defOf' (x : Str) : List (Str × List Str) → Nat → Option (Nat × List Str)
  | [], _ => none
  | (y, ps) :: r, i => if y == x then some (i, ps) else defOf' x r (i + 1)
def seenIn (sc : Scope) (x : Str) : Bool := match sc.names.lookup x with
  | some .local => true
  | some .cell => true
  | some .free => true
  | _ => false
def globIn (sc : Scope) (x : Str) : Bool := match sc.names.lookup x with
  | some .globalImplicit => true
  | _ => false
def oddName (x : Str) : Bool := x == ("__debug__" : Str) || x == ("__classdict__" : Str) || x == ("__name__" : Str)

def fnTab : List (Str × Fn) := [("len", bLen), ("int", bInt), ("list", bList), ("tuple", bTuple), ("all", bAll), ("any", bAny), ("sum", bSum), ("max", bMax), ("min", bMin), ("sorted", bSorted), ("repr", bRepr), ("str", bStr)]
def mtTab : List (Str × Mt) := [("append", mAppend), ("pop", mPop), ("index", mIndex), ("extend", mExtend)]
/-- what a method may be asked of here -/
def plainO : Expr → Bool
  | .Call .. => false
  | _ => true
def notStar : Expr → Bool
  | .Starred .. => false
  | _ => true
def binOf : Operator → Option Op2
  | .Add => some opAdd | .Sub => some opSub | .Mult => some opMul | .FloorDiv => some opFdiv | .Mod => some opMod | .Pow => some opPow | .LShift => some opShl | .RShift => some opShr | .BitAnd => some opBand | .BitOr => some opBor
  | _ => none
def cmpOf : CmpOp → Option Op2
  | .Eq => some cmpEq | .NotEq => some cmpNe | .Lt => some cmpLt | .LtE => some cmpLe | .Gt => some cmpGt | .GtE => some cmpGe | .Is => some cmpIs | .IsNot => some cmpIsNot | .In => some cmpIn | .NotIn => some cmpNotIn
/-- no displays of sets on the right of in -/
def plainR : Expr → Bool
  | .Set .. => false
  | _ => true
def tyOf (g : Glob) (x : Str) : Option Ty :=
  if x == ("int" : Str) then some .int else if x == ("bool" : Str) then some .bool else if x == ("str" : Str) then some .str else if x == ("tuple" : Str) then some .tuple
  else if x == ("list" : Str) then some .list else if x == ("dict" : Str) then some .dict else match slotOf x g.cls 0 with
    | some c => some (.cls c)
    | none => none

/-- the scope of a comprehension's block, as it runs -/
def relSc (scope sc : Scope) : Scope :=
  { scope with names := scope.names.map fun (n, k) => if (k == .free && sc.kind == .function && sc.names.lookup n == some .cell) then (n, .cell) else (n, k) }
def ownOf (N : List Str) (scope : Scope) : List (Str × Nat) := scope.names.filterMap fun (n, k) => match k with
  | .local => (slotOf n N 0).map fun i => (n, i)
  | .cell => (slotOf n N 0).map fun i => (n, i)
  | _ => none
/-- a name that is stored -/
def gxName (N : List Str) (sc : Scope) (x : Str) : Option Nat := match sc.names.lookup x with
  | some .local => slotOf x N 0
  | some .cell => slotOf x N 0
  | _ => none
def cTargets (N : List Str) (sc : Scope) : List Expr → Option (List (Nat × GX))
  | [] => some []
  | .Name x _ :: r => match gxName N sc x with
    | some i => match cTargets N sc r with
      | some gs => some ((i, gVar i) :: gs)
      | none => none
    | none => none
  | _ :: _ => none
/-- a target, with the slots that it stores -/
def cTarget (N : List Str) (sc : Scope) : Expr → Option (List Nat × GX)
  | .Name x _ => match gxName N sc x with
    | some i => some ([i], gVar i)
    | none => none
  | .Tuple es _ _ => match cTargets N sc es with
    | some gs => some (gs.map (·.1), gTup (gs.map (·.2)))
    | none => none
  | _ => none

section
variable (g : Glob) (call : Call)
def cArgs (f : Expr → Option EX) : List Expr → Option AX
  | [] => some aNil
  | e :: r => match f e with
    | some a => match cArgs f r with
      | some b => some (aCons a b)
      | none => none
    | none => none
/-- keywords in the parameters' own sequence, behind n positional arguments -/
def cKws (f : Expr → Option EX) : List Keyword → List Str → Option AX
  | [], [] => some aNil
  | ⟨some x, e, _⟩ :: r, p :: ps => if x == p then match f e with
      | some a => match cKws f r ps with
        | some b => some (aCons a b)
        | none => none
      | none => none
    else none
  | _, _ => none
def cAnd (f : Expr → Option EX) : List Expr → Option EX
  | [] => none
  | [e] => f e
  | e :: r => match f e with
    | some a => match cAnd f r with
      | some b => some (eAnd a b)
      | none => none
    | none => none
def cOr (f : Expr → Option EX) : List Expr → Option EX
  | [] => none
  | [e] => f e
  | e :: r => match f e with
    | some a => match cOr f r with
      | some b => some (eOr a b)
      | none => none
    | none => none
def cTAnd (f : Expr → Option TX) : List Expr → Option TX
  | [] => none
  | [e] => f e
  | e :: r => match f e with
    | some a => match cTAnd f r with
      | some b => some (tAnd a b)
      | none => none
    | none => none
def cTOr (f : Expr → Option TX) : List Expr → Option TX
  | [] => none
  | [e] => f e
  | e :: r => match f e with
    | some a => match cTOr f r with
      | some b => some (tOr a b)
      | none => none
    | none => none
def cPart (f : Expr → Option EX) : Option Expr → Option (Fr → M (Option Int))
  | none => some oNone
  | some e => match f e with
    | some a => some (oSome a)
    | none => none
/-- a display of a dict: {}, or one written text as key -/
def strKey : Option Expr → Option Str
  | some (.Constant (.str k) _ _) => some k
  | _ => none
def dctKind : List (Option Expr) → List Expr → Option (Option (Str × Expr))
  | [], [] => some none
  | [k], [e] => match strKey k with
    | some k => some (some (k, e))
    | none => none
  | _, _ => none
theorem strKey_of {k : Option Expr} {s : Str} (h : strKey k = some s) : ∃ j p, k = some (.Constant (.str s) j p) := by
  unfold strKey at h
  split at h
  · cases h; exact ⟨_, _, rfl⟩
  · cases h
theorem dctKind_0 {ks : List (Option Expr)} {vs : List Expr} (h : dctKind ks vs = some none) : ks = [] ∧ vs = [] := by
  unfold dctKind at h
  split at h
  · exact ⟨rfl, rfl⟩
  · split at h <;> cases h
  · cases h
theorem dctKind_1 {ks : List (Option Expr)} {vs : List Expr} {k : Str} {e : Expr} (h : dctKind ks vs = some (some (k, e))) : ∃ j p, ks = [some (.Constant (.str k) j p)] ∧ vs = [e] := by
  unfold dctKind at h
  split at h
  · cases h
  · split at h
    · rename_i e1
      cases h
      obtain ⟨j, p, rfl⟩ := strKey_of e1
      exact ⟨j, p, rfl, rfl⟩
    · cases h
  · cases h
def isSlice : Expr → Bool
  | .Slice .. => true
  | _ => false

mutual
def cE (N : List Str) : Nat → Scope → Expr → Option EX
  | 0, _, _ => none
  | n + 1, sc, e => match e with
    | .Name x _ => if oddName x then none else if seenIn sc x then (match slotOf x N 0 with | some i => some (eVar i) | none => none)
      else if globIn sc x then (match g.consts.lookup x with | some d => some (eC d) | none => none) else none
    | .Constant c _ _ => match c with
      | .none => some (eC .non)
      | .bool b => some (eC (.bl b))
      | .int i => some (eC (.int i))
      | .str s => some (eC (.str s.cps.toList))
      | _ => none
    | .Tuple es _ _ => match cArgs (cE N n sc) es with
      | some a => some (eTup a)
      | none => none
    | .List es _ => match cArgs (cE N n sc) es with
      | some a => some (eLst a)
      | none => none
    | .Dict ks vs _ => match dctKind ks vs with
      | some none => some eDct
      | some (some (k, e)) => match cE N n sc e with
        | some x => some (eBox k.cps.toList x)
        | none => none
      | none => none
    | .BoolOp .And es _ => cAnd (cE N n sc) es
    | .BoolOp .Or es _ => cOr (cE N n sc) es
    | .UnaryOp .Not a _ => match cE N n sc a with
      | some x => some (eNot x)
      | none => none
    | .UnaryOp .USub a _ => match cE N n sc a with
      | some x => some (eUn opNeg x)
      | none => none
    | .BinOp a o b _ => match binOf o, cE N n sc a, cE N n sc b with
      | some f, some x, some y => some (eBin f x y)
      | _, _, _ => none
    | .IfExp t a b _ => match cT N n sc t, cE N n sc a, cE N n sc b with
      | some t, some x, some y => some (eIf t x y)
      | _, _, _ => none
    | .Compare a [o] [b] _ => if plainR b then match cmpOf o, cE N n sc a, cE N n sc b with
        | some f, some x, some y => some (eBin f x y)
        | _, _, _ => none
      else none
    | .Compare a [o, p] [b, c] _ => if plainR b && plainR c then match cmpOf o, cmpOf p, cE N n sc a, cE N n sc b, cE N n sc c with
        | some f, some h, some x, some y, some z => some (eChain f h x y z)
        | _, _, _, _, _ => none
      else none
    | .Subscript a (.Slice lo hi none _) _ => match cE N n sc a, cPart (cE N n sc) lo, cPart (cE N n sc) hi with
      | some x, some l, some h => some (eSlc x l h)
      | _, _, _ => none
    | .Subscript a (.Slice none none (some (.UnaryOp .USub (.Constant (.int 1) _ _) _)) _) _ => match cE N n sc a with
      | some x => some (eUn revS x)
      | none => none
    | .Subscript a b _ => if isSlice b then none else match cE N n sc a, cE N n sc b with
      | some x, some y => some (eBin idx x y)
      | _, _ => none
    | .ListComp elt [⟨tg, it, ifs, 0⟩] scope _ =>
      if !g.hot && L2.blkC N sc scope (ownOf N scope) then
        match cI N n sc it tg, cTarget N scope tg, cE N n (relSc scope sc) elt with
        | some i, some (sl, t), some y => if sl.all fun j => ((ownOf N scope).map (·.2)).contains j then match ifs with
            | [] => some (eLc ((ownOf N scope).map (·.2)) i t tTrue y)
            | [c] => match cT N n (relSc scope sc) c with
              | some q => some (eLc ((ownOf N scope).map (·.2)) i t q y)
              | none => none
            | _ => none
          else none
        | _, _, _ => none
      else none
    | .Call (.Name x _) es kws _ => if g.hot || oddName x || !globIn sc x then none else match defOf' x g.defs 0 with
      | some (i, ps) => match cArgs (cE N n sc) es, cKws (cE N n sc) kws (ps.drop es.length) with
        | some a, some b => if es.length + kws.length = ps.length then some (eCall call i (aApp a b)) else none
        | _, _ => none
      | none => match kws with
        | _ :: _ => none
        | [] => if x == ("isinstance" : Str) then match es with
            | [e, .Name t _] => if globIn sc t && !oddName t && (defOf' t g.defs 0).isNone then match cE N n sc e, tyOf g t with
                | some a, some t => some (eIs g.sub t a)
                | _, _ => none
              else none
            | _ => none
          else match fnTab.lookup x, es with
            | some f, _ :: _ => match cArgs (cE N n sc) es with
              | some a => some (eFn f a)
              | none => none
            | _, _ => none
    | .Call (.Attribute o m apos) es [] cpos => if !g.hot && apos.endLine == cpos.line && decide (es.length < 29) && plainO o then match mtTab.lookup m, cE N n sc o, cArgs (cE N n sc) es with
        | some f, some x, some a => some (eMt f x a)
        | _, _, _ => none
      else none
    | .Attribute o m _ => if m == ("value" : Str) && plainO o then match cE N n sc o with
        | some x => some (eFld g.cls.length x)
        | none => none
      else none
    | _ => none
def cT (N : List Str) : Nat → Scope → Expr → Option TX
  | 0, _, _ => none
  | n + 1, sc, e => match e with
    | .BoolOp .And es _ => cTAnd (cT N n sc) es
    | .BoolOp .Or es _ => cTOr (cT N n sc) es
    | .UnaryOp .Not a _ => match cT N n sc a with
      | some x => some (tNot x)
      | none => none
    | .IfExp .. => none
    | .NamedExpr .. => none
    | e => match cE N n sc e with
      | some x => some (tVal x)
      | none => none
/-- what is walked, for a target -/
def cI (N : List Str) : Nat → Scope → Expr → Expr → Option IX
  | 0, _, _, _ => none
  | n + 1, sc, e, tg => match e with
    | .Call (.Name x _) es [] _ => if globIn sc x && x == ("range" : Str) && (defOf' x g.defs 0).isNone then
        match es with
        | [a] => match cE N n sc a with
          | some p => some (iRng1 p)
          | none => none
        | [a, b] => match cE N n sc a, cE N n sc b with
          | some p, some q => some (iRng2 p q)
          | _, _ => none
        | _ => none
      else match cE N n sc e with
        | some p => some (iSeq p)
        | none => none
    | .Set .. => none
    | e => match cE N n sc e with
      | some p => some (iSeq p)
      | none => none
end
def cBlk (f : Stmt → Option SX) : List Stmt → Option SX
  | [] => some sSkip
  | [s] => f s
  | s :: r => match f s with
    | some a => match cBlk f r with
      | some b => some (sSeq a b)
      | none => none
    | none => none
/-- a written tuple of constants alone, as the compiler folds it -/
def foldC : Expr → Bool
  | .Constant .. => true
  | _ => false
def parOf (N : List Str) : List Str → Option (List Nat)
  | [] => some []
  | x :: r => match slotOf x N 0, parOf N r with
    | some i, some l => some (i :: l)
    | _, _ => none
def isStar : Expr → Bool
  | .Starred .. => true
  | _ => false
def swName (sc : Scope) (line : Nat) : Expr → Option Str
  | .Name id pos => if sc.names.lookup id == some .local && pos.line == line then some id else none
  | _ => none
def swNames (sc : Scope) (ts : List Expr) : List Str := ts.filterMap (swName sc ((ts.head?.map (·.pos.line)).getD 0))
/-- what swappedStores answers -/
def swapN (sc : Scope) (ts vs : List Expr) : Option (Option (List Str)) :=
  if (!(ts.length == 2 || ts.length == 3) || vs.length != ts.length) = true then some none
  else if vs.any isStar = true then some none
  else if ((swNames sc ts).length != ts.length || (swNames sc ts).eraseDups.length != (swNames sc ts).length) = true then some none
  else if vs.all (foldedForSure 8) = true then some none
  else if vs.all (constantsAlone 8) = true then none
  else some (some (swNames sc ts))
/-- name = [..]: the name is stored within -/
def swB (sc : Scope) (y : Str) (py pos : Pos) (scope : Scope) : Bool :=
  sc.names.lookup y == some .local && py.line == pos.line && !(scope.names.any fun (n, k) => n == y && (k == .local || k == .cell))
def augOf : Operator → Option Op2
  | .Add => some opAddI
  | .Sub => some opSub
  | _ => none
def nodupB : List Nat → Bool
  | [] => true
  | x :: r => !r.contains x && nodupB r
/-- statements of an except suite -/
def cH (N : List Str) (n : Nat) (sc : Scope) : Stmt → Option SX
  | .Pass _ => some sSkip
  | .Continue _ => some sCont
  | .Return (some e) _ => match cE { g with hot := true } call N n sc e with
    | some a => some (sRet a)
    | none => none
  | .Assign [.Name y _] e _ => match gxName N sc y, cE { g with hot := true } call N n sc e with
    | some i, some a => match e with
      | .ListComp .. => none
      | .SetComp .. => none
      | .DictComp .. => none
      | _ => some (sAsg (gVar i) a)
    | _, _ => none
  | .Assign [.Tuple [.Name x p1, .Name y p2] k1 p3] (.Tuple [a, b] k2 p4) _ => match swapN sc [.Name x p1, .Name y p2] [a, b] with
    | some (some _) => match slotOf x N 0, slotOf y N 0, cArgs (cE { g with hot := true } call N n sc) [a, b] with
      | some i, some j, some f => if i ≠ j ∧ sc.names.lookup x = some .local ∧ sc.names.lookup y = some .local then some (sPar [i, j] f) else none
      | _, _, _ => none
    | _ => none
  | _ => none
def cHs (N : List Str) (n : Nat) (sc : Scope) : List ExceptHandler → Option (List (Nat × Option Nat × SX))
  | [] => some []
  | .ExceptHandler (some (.Name x _)) nm (b :: bs) _ :: r => match slotOf x g.cls 0, cBlk (cH g call N n sc) (b :: bs), cHs N n sc r with
    | some k, some m, some l => if globIn sc x && !oddName x then match nm with
        | none => some ((k, none, m) :: l)
        | some y => match sc.names.lookup y, slotOf y N 0 with
          | some .local, some i => some ((k, some i, m) :: l)
          | _, _ => none
      else none
    | _, _, _ => none
  | _ => none
def cS (N : List Str) : Nat → Scope → Stmt → Option SX
  | 0, _, _ => none
  | n + 1, sc, st => match st with
    | .Pass _ => some sSkip
    | .Break _ => some sBrk
    | .Continue _ => some sCont
    | .Expr (.Constant (.str _) _ _) _ => some sSkip
    | .Expr e _ => match e with
      | .ListComp .. => none
      | .SetComp .. => none
      | .DictComp .. => none
      | _ => match cE g call N n sc e with
        | some a => some (sExpr a)
        | none => none
    | .Return none _ => some sRetN
    | .Return (some e) _ => match cE g call N n sc e with
      | some a => some (sRet a)
      | none => none
    | .If t a b _ => match cT g call N n sc t, cBlk (cS N n sc) a, cBlk (cS N n sc) b with
      | some t, some x, some y => some (sIf t x y)
      | _, _, _ => none
    | .While t b [] _ => match cT g call N n sc t, cBlk (cS N n sc) b with
      | some t, some x => some (sWhile t x)
      | _, _ => none
    | .For tg it b [] _ => match cI g call N n sc it tg, cTarget N sc tg, cBlk (cS N n sc) b with
      | some i, some (_, t), some x => some (sFor i t x)
      | _, _, _ => none
    | .Assign [.Name y py] e _ => match gxName N sc y, cE g call N n sc e with
      | some i, some a => match e with
        | .ListComp _ [⟨_, _, _, 0⟩] _ _ => some (sAsg (gVar i) a)
        | .ListComp .. => none
        | .SetComp .. => none
        | .DictComp .. => none
        | _ => some (sAsg (gVar i) a)
      | _, _ => none
    | .Assign [.Tuple ts k1 p1] (.Tuple vs k2 p2) _ => match swapN sc ts vs with
      | some none => match cTarget N sc (.Tuple ts k1 p1), cE g call N n sc (.Tuple vs k2 p2) with
        | some (_, t), some a => some (sAsg t a)
        | _, _ => none
      | some (some _) => match ts, vs with
        | [.Name x _, .Name y _], [a, b] => match slotOf x N 0, slotOf y N 0, cArgs (cE g call N n sc) [a, b] with
          | some i, some j, some f => if i ≠ j ∧ sc.names.lookup x = some .local ∧ sc.names.lookup y = some .local then some (sPar [i, j] f) else none
          | _, _, _ => none
        | [.Name x _, .Name y _, .Name z _], [a, b, c] => match slotOf x N 0, slotOf y N 0, slotOf z N 0, cArgs (cE g call N n sc) [a, b, c] with
          | some i, some j, some l, some f => if i ≠ j ∧ i ≠ l ∧ j ≠ l ∧ sc.names.lookup x = some .local ∧ sc.names.lookup y = some .local ∧ sc.names.lookup z = some .local then some (sPar [i, j, l] f) else none
          | _, _, _, _ => none
        | _, _ => none
      | none => none
    | .Assign [.Tuple ts k1 p1] e _ => match e with
      | .ListComp .. => none
      | .SetComp .. => none
      | .DictComp .. => none
      | _ => match cTarget N sc (.Tuple ts k1 p1), cE g call N n sc e with
        | some (_, t), some a => some (sAsg t a)
        | _, _ => none
    | .Assign [.Subscript o i _] e _ => if isSlice i then none else match e with
      | .ListComp .. => none
      | .SetComp .. => none
      | .DictComp .. => none
      | _ => match cE g call N n sc o, cE g call N n sc i, cE g call N n sc e with
        | some x, some y, some z => some (sSetI x y z)
        | _, _, _ => none
    | .Raise (some (.Call (.Name x _) [a] [] _)) none _ => match slotOf x g.cls 0, cE g call N n sc a with
      | some c, some f => if globIn sc x && !oddName x && decide (c < g.cls.length) then some (sRaise c f) else none
      | _, _ => none
    | .Try b (h :: hs) [] [] _ => match cBlk (cS N n sc) b, cHs g call N n sc (h :: hs) with
      | some m, some l => some (sTry g.sub m l)
      | _, _ => none
    | .AugAssign (.Name y _) op e _ => match augOf op, gxName N sc y, cE g call N n sc e with
      | some f, some i, some a => some (sAug i f a)
      | _, _, _ => none
    | _ => none
end
/-- a def of the text: its name, its parameters, the names of its frame, the statement -/
structure DefS where
  x : Str
  ps : List Str
  N : List Str
  st : Stmt
def stArgs : Stmt → Arguments
  | .FunctionDef (args := a) .. => a
  | _ => ⟨[], [], none, [], [], none, []⟩
def stBody : Stmt → List Stmt
  | .FunctionDef (body := b) .. => b
  | _ => []
def stScope : Stmt → Scope
  | .FunctionDef (scope := s) .. => s
  | _ => ⟨.function, [], false, false, []⟩
def compD (g : Glob) (d : DefS) (call : Call) : SX := match cBlk (cS g call d.N 80 (stScope d.st)) (stBody d.st) with
  | some m => m
  | none => fun _ _ => .bad
def defI (g : Glob) (d : DefS) : DefI := ⟨d.ps.length, d.N.length, compD g d⟩
/-- the sub-classes, by a table -/
def subT (t : List (List Bool)) (c k : Nat) : Option Bool := (t[c]?).bind fun r => r[k]?
end LG
set_option Elab.async false
set_option linter.all false
set_option maxRecDepth 100000
/-! LG8: compiled expressions are sound. -/
namespace LG
open PySem PySem.Spec PyProof.Rows L2

def bltNames : List Str := ["len", "int", "list", "tuple", "all", "any", "sum", "max", "min", "sorted", "isinstance", "bool", "range", "enumerate", "zip", "repr", "str", "set", "dict"]
/-- what a compiled def promises -/
def spI (P : PK) (call : Call) (i n : Nat) : Sp := fun vs H Q E => vs.length = n ∧ ∃ μ ds s, RS P μ H s ∧ RVs P.K μ H vs ds ∧ Out P (fun c d _ H => E c d H) [] μ H (RE P) (call i ds s) Q
/-- what a compiled def keeps: as the hand layer's FnOk, where no repr is under way -/
structure FnG (P : Program) (w : World) (K : PySem.W.Frag) (mg : Str → Option Value) (base : Heap) (k : Nat) (f : Addr) (fd : FuncData) (ps : List Str) (sp : Sp) : Prop where
  len : ∀ vs H Q E, sp vs H Q E → vs.length = ps.length
  run : ∀ (A : Around) (outer : List Env) (s : Shared) (H : Hp) (args : Args) (us : List Value) (vs : List V) (Q : VK) (E : XK), Room k A → A.guards = some [] → Env0 P w K mg base A outer s H → BindsTo s fd args (ps.zip us) → Vals vs us → sp vs H Q E →
    codeAny (model P w) A (.call (.ref f) args) (CR (L2N.CX P w) outer P w H s Q E) s
/-- how a call binds: positional arguments, then keywords in the parameters' sequence -/
def KB (K : PySem.W.Frag) (fd : FuncData) (ps : List Str) : Prop := ∀ (s : Shared) (us ws : List Value), us.length + ws.length = ps.length → BindsTo s fd ⟨us, (ps.drop us.length).zip ws⟩ (ps.zip (us ++ ws))
/-- what the module holds -/
structure GOk (g : Glob) (call : Call) (ca : Nat → Addr) (k : Nat) (X : Cx) : Prop where
  consts : ∀ x d, g.consts.lookup x = some d → ∃ v u, X.mg x = some u ∧ RelV v u ∧ ∀ μ H, RV X.K μ H v d
  defs : ∀ x i ps, defOf' x g.defs 0 = some (i, ps) → ∃ f fd, X.mg x = some (.ref f) ∧ PySem.W.keepIn X.K (.ref f) = true ∧ KB X.K fd ps ∧ FnG X.prog X.w X.K X.mg X.base k f fd ps (spI (pk X ca) call i ps.length)
  blt : ∀ x, x ∈ bltNames → X.mg x = none
structure Ctx (g : Glob) (call : Call) (ca : Nat → Addr) (k : Nat) (N : List Str) (W : WX) (X : Cx) (sc : Scope) : Prop where
  gl : GOk g call ca k X
  nN : X.N = N
  nd : N.Nodup
  kind : X.env.scope.kind = .function
  sc : X.env.scope = sc
  calm : g.hot = false → X.calm = true
  room : g.hot = false → Room k X.A
  un : X.A.units + 200 < cLine
  gd : X.A.guards = some []
  tk : L2N.Takes X W

theorem slotOf_get {x : Str} : ∀ {N : List Str} {i j : Nat}, slotOf x N i = some j → i ≤ j ∧ N[j - i]? = some x
  | [], _, _, h => by simp [slotOf] at h
  | y :: r, i, j, h => by
    unfold slotOf at h
    split at h
    · rename_i e
      cases h
      simp only [beq_iff_eq] at e
      exact ⟨Nat.le_refl _, by simp [e]⟩
    · obtain ⟨h1, h2⟩ := slotOf_get h
      refine ⟨by omega, ?_⟩
      have : j - i = (j - (i + 1)) + 1 := by omega
      rw [this]; simpa using h2
theorem slotOf_at {x : Str} {N : List Str} {j : Nat} (h : slotOf x N 0 = some j) : N[j]? = some x := by simpa using (slotOf_get h).2
theorem odd_not {x : Str} (h : oddName x = false) : (x == ("__debug__" : Str)) = false ∧ (x == ("__classdict__" : Str)) = false ∧ x ≠ ("__name__" : Str) := by
  unfold oddName at h
  rw [Bool.or_eq_false_iff, Bool.or_eq_false_iff] at h
  exact ⟨h.1.1, h.1.2, by simpa using h.2⟩
theorem seen_vis {sc : Scope} {x : Str} (h : seenIn sc x = true) : Vis sc x := by
  unfold seenIn at h
  unfold Vis
  split at h
  · exact .inl (by assumption)
  · exact .inr (.inl (by assumption))
  · exact .inr (.inr (by assumption))
  · cases h
theorem glob_gl {X : Cx} {x : Str} (h : globIn X.env.scope x = true) : Gl X x := by
  unfold globIn at h
  split at h
  · assumption
  · cases h

/-! ### the combinators -/
section
variable {X : Cx} {ca : Nat → Addr} {W : WX} {pos : Pos}
theorem x_var {i : Nat} {x : Str} (hN : X.N[i]? = some x) (hv : Vis X.env.scope x) (hd : (x == ("__debug__" : Str)) = false) (hcd : (x == ("__classdict__" : Str)) = false) : PE X (.Name x pos) (tE (pk X ca) W (eVar i)) := by
  refine PE.imp (pe_var hN hv hd hcd) fun σ H Q h => ?_
  obtain ⟨μ, f, s, hs, hf, o⟩ := h
  unfold eVar at o
  split at o
  · rename_i d e
    obtain ⟨v, h1, h2⟩ := hf.at_ i d e
    exact ⟨v, h1, o.here hs h2⟩
  · exact o.elim
theorem x_const {e : Expr} {v : V} {d : D} (h : PE X e (tC v)) (r : ∀ μ H, RV X.K μ H v d) : PE X e (tE (pk X ca) W (eC d)) :=
  PE.imp h fun σ H Q h => by
    obtain ⟨μ, f, s, hs, hf, o⟩ := h
    exact o.here hs (r μ H)
theorem x_nil : PA X [] (tA (pk X ca) W aNil) := PA.imp pa_nil fun σ H Q h => by
  obtain ⟨μ, f, s, hs, hf, o⟩ := h
  exact o μ H [] Mono.refl hs .nil
theorem star_of {e : Expr} {es : List Expr} {env : Env} (h : ∀ x p, e ≠ .Starred x p) : starEach (e :: es) env = (false, eval e env) :: starEach es env := by
  cases e <;> first | rfl | exact absurd rfl (h _ _)
theorem x_cons {e : Expr} {es : List Expr} {a : EX} {b : AX} (hs : ∀ x p, e ≠ .Starred x p) (ha : PE X e (tE (pk X ca) W a)) (hb : PA X es (tA (pk X ca) W b)) : PA X (e :: es) (tA (pk X ca) W (aCons a b)) :=
  PA.imp (pa_cons ha hb (star_of hs)) fun σ H Q h => by
    obtain ⟨μ, f, s, hs, hf, o⟩ := h
    refine ⟨μ, f, s, hs, hf, Out.imp (Out.bnd o) fun x H1 h1 => ?_⟩
    obtain ⟨μ1, d, s1, m1, r1, q1, o1⟩ := h1
    refine ⟨μ1, f, s1, r1, hf.mono m1, Out.imp (Out.bnd o1) fun xs H2 h2 => ?_⟩
    obtain ⟨μ2, ds, s2, m2, r2, q2, o2⟩ := h2
    exact o2 μ2 H2 (x :: xs) Mono.refl r2 (.cons (q1.mono m2) q2)
theorem x_tup {es : List Expr} {k : Nat} {a : AX} (ha : PA X es (tA (pk X ca) W a)) : PE X (.Tuple es k pos) (tE (pk X ca) W (eTup a)) :=
  PE.imp (pe_tup ha) fun σ H Q h => by
    obtain ⟨μ, f, s, hs, hf, o⟩ := h
    refine ⟨μ, f, s, hs, hf, Out.imp (Out.bnd o) fun xs H1 h1 => ?_⟩
    obtain ⟨μ1, ds, s1, m1, r1, q1, o1⟩ := h1
    split at o1
    · rename_i hz
      exact ⟨by rw [RVs.length q1, lim_eq]; exact hz, fun p hp => o1.tup r1 hp q1⟩
    · exact o1.elim
theorem x_lst {es : List Expr} {a : AX} (ha : PA X es (tA (pk X ca) W a)) : PE X (.List es pos) (tE (pk X ca) W (eLst a)) :=
  PE.imp (pe_lst ha) fun σ H Q h => by
    obtain ⟨μ, f, s, hs, hf, o⟩ := h
    refine ⟨μ, f, s, hs, hf, Out.imp (Out.bnd o) fun xs H1 h1 => ?_⟩
    obtain ⟨μ1, ds, s1, m1, r1, q1, o1⟩ := h1
    split at o1
    · rename_i hz
      exact ⟨by rw [RVs.length q1, lim_eq]; exact hz, fun p hp => o1.lst r1 hp q1 hz⟩
    · exact o1.elim
/-- two values, an operation -/
theorem bin_imp {P : PK} {a b : EX} {op : Op2} {σ : L2.St} {H : Hp} {Q : VK} (h : tE P W (eBin op a b) σ H Q) : tOp (rOp P W σ op) (tE P W a) (tE P W b) σ H Q := by
  obtain ⟨μ, f, s, hs, hf, o⟩ := h
  refine ⟨μ, f, s, hs, hf, Out.imp (Out.bnd o) fun x H1 h1 => ?_⟩
  obtain ⟨μ1, d, s1, m1, r1, q1, o1⟩ := h1
  refine ⟨μ1, f, s1, r1, hf.mono m1, Out.imp (Out.bnd o1) fun y H2 h2 => ?_⟩
  obtain ⟨μ2, e, s2, m2, r2, q2, o2⟩ := h2
  exact ⟨μ2, d, e, s2, r2, q1.mono m2, q2, o2⟩
/-- a rule for every frame -/
theorem opR_all {f : Value → Value → Sem Value} {P : PK} {op : Op2} (h : ∀ σ₀, OpR X f (rOp P W σ₀ op)) : OpR X f (fun x y H Q => ∃ σ₀, rOp P W σ₀ op x y H Q) :=
  fun pins s σ H x y v u Q I rx ry ⟨σ₀, q⟩ => h σ₀ pins s σ H x y v u Q I rx ry q
theorem x_bin {o : Operator} {op : Op2} {a b : Expr} {fa fb : EX} (ho : ∀ σ₀, OpR X (binaryOp o) (rOp (pk X ca) W σ₀ op)) (ha : PE X a (tE (pk X ca) W fa)) (hb : PE X b (tE (pk X ca) W fb)) : PE X (.BinOp a o b pos) (tE (pk X ca) W (eBin op fa fb)) :=
  PE.imp (pe_op (opR_all ho) ha hb) fun σ H Q h => by
    have q := bin_imp h
    obtain ⟨μ, f, s, hs, hf, o⟩ := q
    exact ⟨μ, f, s, hs, hf, Out.imp o fun x H1 h1 => by
      obtain ⟨μ1, f1, s1, hs1, hf1, o1⟩ := h1
      exact ⟨μ1, f1, s1, hs1, hf1, Out.imp o1 fun y H2 h2 => ⟨σ, h2⟩⟩⟩
theorem mark_plain {op : CmpOp} {b : Expr} (h : plainR b = true) : behindInMarks op b = false := by
  cases b <;> first | rfl | cases h
theorem x_cmp {o : CmpOp} {op : Op2} {a b : Expr} {fa fb : EX} (hp : plainR b = true) (ho : ∀ σ₀, OpR X (compareOp o) (rOp (pk X ca) W σ₀ op)) (ha : PE X a (tE (pk X ca) W fa)) (hb : PE X b (tE (pk X ca) W fb)) : PE X (.Compare a [o] [b] pos) (tE (pk X ca) W (eBin op fa fb)) :=
  PE.imp (pe_cmpR (opR_all ho) ha hb (mark_plain hp)) fun σ H Q h => by
    have q := bin_imp h
    obtain ⟨μ, f, s, hs, hf, o⟩ := q
    exact ⟨μ, f, s, hs, hf, Out.imp o fun x H1 h1 => by
      obtain ⟨μ1, f1, s1, hs1, hf1, o1⟩ := h1
      exact ⟨μ1, f1, s1, hs1, hf1, Out.imp o1 fun y H2 h2 => ⟨σ, h2⟩⟩⟩
theorem x_un {o : UnaryOp} {op : D → M D} {a : Expr} {fa : EX} (ho : ∀ σ₀, UnR X (unaryOp o) (rUn (pk X ca) W σ₀ op)) (ha : PE X a (tE (pk X ca) W fa)) : PE X (.UnaryOp o a pos) (tE (pk X ca) W (eUn op fa)) :=
  PE.imp (pe_un (r := fun x H Q => ∃ σ₀, rUn (pk X ca) W σ₀ op x H Q) (fun pins s σ H x v Q I rx ⟨σ₀, q⟩ => ho σ₀ pins s σ H x v Q I rx q) ha) fun σ H Q h => by
    obtain ⟨μ, f, s, hs, hf, o⟩ := h
    refine ⟨μ, f, s, hs, hf, Out.imp (Out.bnd o) fun x H1 h1 => ?_⟩
    obtain ⟨μ1, d, s1, m1, r1, q1, o1⟩ := h1
    exact ⟨σ, μ1, d, s1, r1, q1, o1⟩
theorem rv_bl {P : PK} {μ : List Addr} {H : Hp} {x : V} {b : Bool} (h : RV P.K μ H x (.bl b)) : x = .bl b := by cases h; rfl
end
section
variable {X : Cx} {ca : Nat → Addr} {W : WX} {pos : Pos}
/-- the answers of an operation are truth values -/
def IsB (op : Op2) : Prop := ∀ a b s d s', op a b s = .ok d s' → ∃ k, d = .bl k
theorem isB_of : ∀ {o : CmpOp} {op : Op2}, cmpOf o = some op → IsB op := by
  intro o op h a b s d s' e
  cases o <;> (simp only [cmpOf] at h; cases h)
  · unfold cmpEq at e; split at e <;> cases e; exact ⟨_, rfl⟩
  · unfold cmpNe at e
    split at e
    · cases e; exact ⟨_, rfl⟩
    · split at e <;> cases e
      exact ⟨_, rfl⟩
  · unfold cmpLt at e; split at e <;> cases e; exact ⟨_, rfl⟩
  · unfold cmpLe at e; split at e <;> cases e <;> exact ⟨_, rfl⟩
  · unfold cmpGt at e; split at e <;> cases e; exact ⟨_, rfl⟩
  · unfold cmpGe at e; split at e <;> cases e; exact ⟨_, rfl⟩
  · unfold cmpIs at e; split at e <;> cases e; exact ⟨_, rfl⟩
  · unfold cmpIsNot at e; split at e <;> cases e; exact ⟨_, rfl⟩
  · unfold cmpIn at e; split at e <;> cases e; exact ⟨_, rfl⟩
  · unfold cmpNotIn at e; split at e <;> cases e; exact ⟨_, rfl⟩
/-- behind a test, a truth value is known -/
theorem tt_of {P : PK} {σ : L2.St} {μ : List Addr} {H : Hp} {m : M D} {s : Sto} {Q : Bool → Hp → Prop} (hB : ∀ d s', m s = .ok d s' → ∃ k, d = .bl k)
    (o : Out P W σ μ H RB' (bnd m (fun d s => match truth s d with | some b => .ok b s | none => .bad) s) Q) : Out P W σ μ H (RE P) (m s) fun x H' => ∃ k, x = .bl k ∧ Q k H' := by
  unfold LG.bnd at o
  cases e : m s with
  | ok d s1 =>
    rw [e] at o
    obtain ⟨k, rfl⟩ := hB d s1 e
    intro μ' H' v m' r' q'
    have ev : v = .bl k := rv_bl (P := P) q'
    exact ⟨k, ev, o μ' H' k m' r' rfl⟩
  | err c x s1 => rw [e] at o; exact o
  | bad => rw [e] at o; exact o
theorem bnd_ok {α β : Type} {m : M α} {f : α → M β} {s s' : Sto} {b : β} (h : bnd m f s = .ok b s') : ∃ a s1, m s = .ok a s1 ∧ f a s1 = .ok b s' := by
  unfold LG.bnd at h
  split at h
  · exact ⟨_, _, by assumption, h⟩
  · cases h
  · cases h
theorem bin_isB {op : Op2} (h : IsB op) {a b : EX} {f : Fr} {s : Sto} {d : D} {s' : Sto} (e : eBin op a b f s = .ok d s') : ∃ k, d = .bl k := by
  unfold eBin at e
  obtain ⟨_, _, _, e⟩ := bnd_ok e
  obtain ⟨_, _, _, e⟩ := bnd_ok e
  exact h _ _ _ _ _ e
theorem x_tcmp {o : CmpOp} {op : Op2} {a b : Expr} {fa fb : EX} (hB : IsB op) (hp : plainR b = true) (ho : ∀ σ₀, OpR X (compareOp o) (rOp (pk X ca) W σ₀ op)) (ha : PE X a (tE (pk X ca) W fa)) (hb : PE X b (tE (pk X ca) W fb)) : PT X (.Compare a [o] [b] pos) (tT (pk X ca) W (tVal (eBin op fa fb))) :=
  PT.imp (pt_cmpR (opR_all ho) ha hb (mark_plain hp)) fun σ H Q h => by
    obtain ⟨μ, f, s, hs, hf, o⟩ := h
    have o' := tt_of (m := eBin op fa fb f) (fun d s' e => bin_isB hB e) o
    have q := bin_imp (W := W) (P := pk X ca) (a := fa) (b := fb) (op := op) (σ := σ) (H := H) (Q := fun x H' => ∃ k, x = .bl k ∧ Q k H') ⟨μ, f, s, hs, hf, o'⟩
    obtain ⟨μ, f, s, hs, hf, o⟩ := q
    exact ⟨μ, f, s, hs, hf, Out.imp o fun x H1 h1 => by
      obtain ⟨μ1, f1, s1, hs1, hf1, o1⟩ := h1
      exact ⟨μ1, f1, s1, hs1, hf1, Out.imp o1 fun y H2 h2 => ⟨σ, h2⟩⟩⟩
theorem chain_isB {o p : Op2} (hp : IsB p) {a b c : EX} {f : Fr} {s : Sto} {d : D} {s' : Sto} (e : eChain o p a b c f s = .ok d s') : ∃ k, d = .bl k := by
  unfold eChain at e
  obtain ⟨x, s1, _, e⟩ := bnd_ok e
  obtain ⟨y, s2, _, e⟩ := bnd_ok e
  obtain ⟨z, s3, _, e⟩ := bnd_ok e
  obtain ⟨k, s4, _, e⟩ := bnd_ok e
  cases k with
  | true =>
    rw [if_pos rfl] at e
    obtain ⟨w, s5, _, e⟩ := bnd_ok e
    exact hp _ _ _ _ _ e
  | false =>
    rw [if_neg Bool.false_ne_true] at e
    have e' : Res.ok (D.bl false) s4 = .ok d s' := e
    cases e'
    exact ⟨_, rfl⟩
theorem chain_imp {f h : Op2} {fa fb fc : EX} {σ : L2.St} {H : Hp} {Q : VK} (q : tE (pk X ca) W (eChain f h fa fb fc) σ H Q) :
    tChain (fun x y H Q => ∃ σ₀, rOp (pk X ca) W σ₀ f x y H Q) (fun x y H Q => ∃ σ₀, rOp (pk X ca) W σ₀ h x y H Q) (tE (pk X ca) W fa) (tE (pk X ca) W fb) (tE (pk X ca) W fc) σ H Q := by
  obtain ⟨μ, fr, s, hs, hf, o⟩ := q
  refine ⟨μ, fr, s, hs, hf, Out.imp (Out.bnd o) fun x H1 h1 => ?_⟩
  obtain ⟨μ1, d, s1, m1, r1, q1, o1⟩ := h1
  refine ⟨μ1, fr, s1, r1, hf.mono m1, Out.imp (Out.bnd o1) fun y H2 h2 => ?_⟩
  obtain ⟨μ2, e, s2, m2, r2, q2, o2⟩ := h2
  refine ⟨σ, μ2, d, e, s2, r2, q1.mono m2, q2, Out.imp (Out.bnd o2) fun z H3 h3 => ?_⟩
  obtain ⟨μ3, k, s3, m3, r3, q3, o3⟩ := h3
  have o3' := Out.bnd (R := RB') (ω := Bool) o3
  cases k with
  | bl k =>
    have ez : z = .bl k := rv_bl (P := pk X ca) q3
    subst ez
    simp only [blM] at o3'
    obtain ⟨μ4, k4, s4, m4, r4, q4, o4⟩ := o3' μ3 H3 k Mono.refl r3 rfl
    have e4 : k = k4 := q4
    subst e4
    refine ⟨k, rfl, ?_⟩
    cases k with
    | true =>
      rw [if_pos rfl] at o4 ⊢
      refine ⟨μ4, fr, s4, r4, ((hf.mono m1).mono m2).mono (m3.trans m4), Out.imp (Out.bnd o4) fun w H5 h5 => ?_⟩
      obtain ⟨μ5, e5, s5, m5, r5, q5, o5⟩ := h5
      exact ⟨σ, μ5, e, e5, s5, r5, ((q2.mono m3).mono m4).mono m5, q5, o5⟩
    | false =>
      rw [if_neg Bool.false_ne_true] at o4 ⊢
      exact o4.here r4 (.bl false)
  | _ => exact o3'.elim
theorem x_chain {o p : CmpOp} {f h : Op2} {a b c : Expr} {fa fb fc : EX} (hc1 : plainR c = true) (ho : ∀ σ₀, OpR X (compareOp o) (rOp (pk X ca) W σ₀ f)) (ho' : ∀ σ₀, OpR X (compareOp p) (rOp (pk X ca) W σ₀ h)) (ha : PE X a (tE (pk X ca) W fa)) (hb : PE X b (tE (pk X ca) W fb)) (hc : PE X c (tE (pk X ca) W fc)) :
    PE X (.Compare a [o, p] [b, c] pos) (tE (pk X ca) W (eChain f h fa fb fc)) :=
  PE.imp (pe_chain (opR_all ho) (opR_all ho') ha hb hc (mark_plain hc1)) fun σ H Q q => chain_imp q
theorem x_tchain {o p : CmpOp} {f h : Op2} {a b c : Expr} {fa fb fc : EX} (hB : IsB h) (hc1 : plainR c = true) (ho : ∀ σ₀, OpR X (compareOp o) (rOp (pk X ca) W σ₀ f)) (ho' : ∀ σ₀, OpR X (compareOp p) (rOp (pk X ca) W σ₀ h)) (ha : PE X a (tE (pk X ca) W fa)) (hb : PE X b (tE (pk X ca) W fb)) (hc : PE X c (tE (pk X ca) W fc)) :
    PT X (.Compare a [o, p] [b, c] pos) (tT (pk X ca) W (tVal (eChain f h fa fb fc))) :=
  PT.imp (pt_chain (opR_all ho) (opR_all ho') ha hb hc (mark_plain hc1)) fun σ H Q q => by
    obtain ⟨μ, fr, s, hs, hf, o⟩ := q
    have o' := tt_of (m := eChain f h fa fb fc fr) (fun d s' e => chain_isB hB e) o
    exact chain_imp (Q := fun x H' => ∃ k, x = .bl k ∧ Q k H') ⟨μ, fr, s, hs, hf, o'⟩
/-- any plain expression as a test -/
theorem x_tval {e : Expr} {fa : EX} (ha : PE X e (tE (pk X ca) W fa)) (he : ∀ whole, isTrue e X.env whole = (do let v ← whole; standAt e.pos; holding [v] (truthy v))) : PT X e (tT (pk X ca) W (tVal fa)) :=
  PT.imp (pt_truth ha he) fun σ H Q h => by
    obtain ⟨μ, f, s, hs, hf, o⟩ := h
    refine ⟨μ, f, s, hs, hf, Out.imp (Out.bnd o) fun x H1 h1 => ?_⟩
    obtain ⟨μ1, d, s1, m1, r1, q1, o1⟩ := h1
    split at o1
    · rename_i b eb
      exact ⟨b, tru_of r1 q1 eb, o1 μ1 H1 b Mono.refl r1 rfl⟩
    · exact o1.elim
theorem x_tnot {a : Expr} {fa : TX} (ha : PT X a (tT (pk X ca) W fa)) : PT X (.UnaryOp .Not a pos) (tT (pk X ca) W (tNot fa)) :=
  PT.imp (pt_not ha) fun σ H Q h => by
    obtain ⟨μ, f, s, hs, hf, o⟩ := h
    refine ⟨μ, f, s, hs, hf, Out.imp (Out.bnd o) fun x H1 h1 => ?_⟩
    obtain ⟨μ1, d, s1, m1, r1, q1, o1⟩ := h1
    have e : x = d := q1
    subst e
    exact o1 μ1 H1 (!x) Mono.refl r1 rfl
theorem x_tand {a b : Expr} {rest : List Expr} {fa fb : TX} (ha : PT X a (tT (pk X ca) W fa)) (hb : PW X (.BoolOp .And (b :: rest) pos) (tT (pk X ca) W fb)) : PW X (.BoolOp .And (a :: b :: rest) pos) (tT (pk X ca) W (tAnd fa fb)) :=
  PW.imp (pw_and ha hb) fun σ H Q h => by
    obtain ⟨μ, f, s, hs, hf, o⟩ := h
    refine ⟨μ, f, s, hs, hf, Out.imp (Out.bnd o) fun x H1 h1 => ?_⟩
    obtain ⟨μ1, d, s1, m1, r1, q1, o1⟩ := h1
    have e : x = d := q1
    subst e
    cases x with
    | true => exact ⟨μ1, f, s1, r1, hf.mono m1, o1⟩
    | false => exact o1 μ1 H1 false Mono.refl r1 rfl
theorem x_tor {a b : Expr} {rest : List Expr} {fa fb : TX} (ha : PT X a (tT (pk X ca) W fa)) (hb : PW X (.BoolOp .Or (b :: rest) pos) (tT (pk X ca) W fb)) : PW X (.BoolOp .Or (a :: b :: rest) pos) (tT (pk X ca) W (tOr fa fb)) :=
  PW.imp (pw_or ha hb) fun σ H Q h => by
    obtain ⟨μ, f, s, hs, hf, o⟩ := h
    refine ⟨μ, f, s, hs, hf, Out.imp (Out.bnd o) fun x H1 h1 => ?_⟩
    obtain ⟨μ1, d, s1, m1, r1, q1, o1⟩ := h1
    have e : x = d := q1
    subst e
    cases x with
    | true => exact o1 μ1 H1 true Mono.refl r1 rfl
    | false => exact ⟨μ1, f, s1, r1, hf.mono m1, o1⟩
theorem x_and {a b : Expr} {rest : List Expr} {fa fb : EX} (ha : PE X a (tE (pk X ca) W fa)) (hb : PE X (.BoolOp .And (b :: rest) pos) (tE (pk X ca) W fb)) : PE X (.BoolOp .And (a :: b :: rest) pos) (tE (pk X ca) W (eAnd fa fb)) :=
  PE.imp (pe_andT ha hb) fun σ H Q h => by
    obtain ⟨μ, f, s, hs, hf, o⟩ := h
    refine ⟨μ, f, s, hs, hf, Out.imp (Out.bnd o) fun x H1 h1 => ?_⟩
    obtain ⟨μ1, d, s1, m1, r1, q1, o1⟩ := h1
    split at o1
    · rename_i eb
      exact ⟨true, tru_of r1 q1 eb, ⟨μ1, f, s1, r1, hf.mono m1, o1⟩⟩
    · rename_i eb
      exact ⟨false, tru_of r1 q1 eb, o1.here r1 q1⟩
    · exact o1.elim
theorem x_or {a b : Expr} {rest : List Expr} {fa fb : EX} (ha : PE X a (tE (pk X ca) W fa)) (hb : PE X (.BoolOp .Or (b :: rest) pos) (tE (pk X ca) W fb)) : PE X (.BoolOp .Or (a :: b :: rest) pos) (tE (pk X ca) W (eOr fa fb)) :=
  PE.imp (pe_orT ha hb) fun σ H Q h => by
    obtain ⟨μ, f, s, hs, hf, o⟩ := h
    refine ⟨μ, f, s, hs, hf, Out.imp (Out.bnd o) fun x H1 h1 => ?_⟩
    obtain ⟨μ1, d, s1, m1, r1, q1, o1⟩ := h1
    split at o1
    · rename_i eb
      exact ⟨true, tru_of r1 q1 eb, o1.here r1 q1⟩
    · rename_i eb
      exact ⟨false, tru_of r1 q1 eb, ⟨μ1, f, s1, r1, hf.mono m1, o1⟩⟩
    · exact o1.elim
theorem x_not {a : Expr} {fa : EX} (ha : PE X a (tE (pk X ca) W fa)) : PE X (.UnaryOp .Not a pos) (tE (pk X ca) W (eNot fa)) :=
  PE.imp (pe_notT ha) fun σ H Q h => by
    obtain ⟨μ, f, s, hs, hf, o⟩ := h
    refine ⟨μ, f, s, hs, hf, Out.imp (Out.bnd o) fun x H1 h1 => ?_⟩
    obtain ⟨μ1, d, s1, m1, r1, q1, o1⟩ := h1
    split at o1
    · rename_i b eb
      exact ⟨b, tru_of r1 q1 eb, o1.here r1 (.bl _)⟩
    · exact o1.elim
theorem x_if {t a b : Expr} {ft : TX} {fa fb : EX} (ht : PT X t (tT (pk X ca) W ft)) (ha : PE X a (tE (pk X ca) W fa)) (hb : PE X b (tE (pk X ca) W fb)) : PE X (.IfExp t a b pos) (tE (pk X ca) W (eIf ft fa fb)) :=
  PE.imp (pe_ifExp ht ha hb) fun σ H Q h => by
    obtain ⟨μ, f, s, hs, hf, o⟩ := h
    refine ⟨μ, f, s, hs, hf, Out.imp (Out.bnd o) fun x H1 h1 => ?_⟩
    obtain ⟨μ1, d, s1, m1, r1, q1, o1⟩ := h1
    have e : x = d := q1
    subst e
    cases x with
    | true => exact ⟨μ1, f, s1, r1, hf.mono m1, o1⟩
    | false => exact ⟨μ1, f, s1, r1, hf.mono m1, o1⟩
theorem x_idx {a b : Expr} {fa fb : EX} (hu : X.A.units + 64 < cLine) (hs : PlainIx b) (ha : PE X a (tE (pk X ca) W fa)) (hb : PE X b (tE (pk X ca) W fb)) : PE X (.Subscript a b pos) (tE (pk X ca) W (eBin idx fa fb)) :=
  PE.imp (pe_ix (r := fun x y H Q => ∃ σ₀, rOp (pk X ca) W σ₀ idx x y H Q) (fun v e pins s σ H x y v' u Q I rx ry ⟨σ₀, q⟩ h => ok_idx hu v e pins s σ H x y v' u Q I rx ry q h) ha hb hs) fun σ H Q h => by
    have q := bin_imp h
    obtain ⟨μ, f, s, hs, hf, o⟩ := q
    exact ⟨μ, f, s, hs, hf, Out.imp o fun x H1 h1 => by
      obtain ⟨μ1, f1, s1, hs1, hf1, o1⟩ := h1
      exact ⟨μ1, f1, s1, hs1, hf1, Out.imp o1 fun y H2 h2 => ⟨σ, h2⟩⟩⟩
def RO' : List Addr → Hp → Option Int → Option Int → Prop := fun _ _ v d => v = d
abbrev tO (P : PK) (W : WX) (m : Fr → M (Option Int)) : TO := tX P W RO' m
theorem PO.imp {e : Option Expr} {t t' : TO} (h : PO X e t) (i : ∀ σ H Q, t' σ H Q → t σ H Q) : PO X e t' := ⟨fun pins s σ H Q I q => h.run pins s σ H Q I (i _ _ _ q)⟩
theorem x_none : PO X none (tO (pk X ca) W oNone) := PO.imp po_none fun σ H Q h => by
  obtain ⟨μ, f, s, hs, hf, o⟩ := h
  exact o μ H none Mono.refl hs rfl
theorem x_some {e : Expr} {fa : EX} (ha : PE X e (tE (pk X ca) W fa)) : PO X (some e) (tO (pk X ca) W (oSome fa)) := PO.imp (po_some ha) fun σ H Q h => by
  obtain ⟨μ, f, s, hs, hf, o⟩ := h
  refine ⟨μ, f, s, hs, hf, Out.imp (Out.bnd o) fun x H1 h1 => ?_⟩
  obtain ⟨μ1, d, s1, m1, r1, q1, o1⟩ := h1
  cases q1 with
  | int i => exact ⟨i, rfl, o1 μ1 H1 (some i) Mono.refl r1 rfl⟩
  | _ => exact o1.elim
theorem x_slc {a : Expr} {lo hi : Option Expr} {fa : EX} {fl fh : Fr → M (Option Int)} {p2 : Pos} (ha : PE X a (tE (pk X ca) W fa)) (hl : PO X lo (tO (pk X ca) W fl)) (hh : PO X hi (tO (pk X ca) W fh)) :
    PE X (.Subscript a (.Slice lo hi none p2) pos) (tE (pk X ca) W (eSlc fa fl fh)) :=
  PE.imp (pe_slice (r := fun x lo hi H Q => ∃ σ₀, rSlc (pk X ca) W σ₀ x lo hi H Q) (fun pins s σ H x v vl vu lo hi sl Q I rx h1 h2 h3 ⟨σ₀, q⟩ => ok_slc pins s σ H x v vl vu lo hi sl Q I rx h1 h2 h3 q) ha hl hh) fun σ H Q h => by
    obtain ⟨μ, f, s, hs, hf, o⟩ := h
    refine ⟨μ, f, s, hs, hf, Out.imp (Out.bnd o) fun x H1 h1 => ?_⟩
    obtain ⟨μ1, d, s1, m1, r1, q1, o1⟩ := h1
    refine ⟨μ1, f, s1, r1, hf.mono m1, Out.imp (Out.bnd o1) fun l H2 h2 => ?_⟩
    obtain ⟨μ2, l', s2, m2, r2, q2, o2⟩ := h2
    have e2 : l = l' := q2
    subst e2
    refine ⟨μ2, f, s2, r2, (hf.mono m1).mono m2, Out.imp (Out.bnd o2) fun u H3 h3 => ?_⟩
    obtain ⟨μ3, u', s3, m3, r3, q3, o3⟩ := h3
    have e3 : u = u' := q3
    subst e3
    exact ⟨σ, μ3, d, s3, r3, (q1.mono m2).mono m3, o3⟩
theorem x_rev {a : Expr} {fa : EX} {k : Nat} {p1 p2 p3 : Pos} (ha : PE X a (tE (pk X ca) W fa)) : PE X (.Subscript a (.Slice none none (some (.UnaryOp .USub (.Constant (.int 1) k p1) p2)) p3) pos) (tE (pk X ca) W (eUn revS fa)) :=
  PE.imp (pe_revL ha) fun σ H Q h => by
    obtain ⟨μ, f, s, hs, hf, o⟩ := h
    refine ⟨μ, f, s, hs, hf, Out.imp (Out.bnd o) fun x H1 h1 => ?_⟩
    obtain ⟨μ1, d, s1, m1, r1, q1, o1⟩ := h1
    unfold revS at o1
    cases q1 with
    | @ref a n hm =>
      simp only at o1
      split at o1
      · rename_i xs e1
        obtain ⟨a', vs, g1, g2, g3, g4⟩ := r1.lst e1
        rw [hm] at g1; cases g1
        exact ⟨_, vs, rfl, .inl (.inl g2), fun p hp => o1.lst r1 hp g3.reverse (by rw [List.length_reverse]; exact g4)⟩
      · exact o1.elim
    | _ => exact o1.elim
theorem x_fnB {x : Str} {p : Pos} {e : Expr} {es : List Expr} {g : Fn} {id : String} {a : AX} (hst : ∀ x p, e ≠ .Starred x p) (hpl : (backTo pos (starEach es X.env)).any (·.1) = false) (hc : ∀ σ₀, CallR X (.builtin id) (rFn (pk X ca) W σ₀ g)) (hg : Gl X x) (hm : X.mg x = none) (hv : bootBuiltins x = some (.builtin id)) (hn : x ≠ "__name__") (hdb : (x == ("__debug__" : Str)) = false) (ha : PA X (e :: es) (tA (pk X ca) W a)) :
    PE X (.Call (.Name x p) (e :: es) [] pos) (tE (pk X ca) W (eFn g a)) :=
  PE.imp (pe_callB (r := fun vs H Q => ∃ σ₀, rFn (pk X ca) W σ₀ g vs H Q) (fun pins s σ H xs us Q I r ⟨σ₀, q⟩ => hc σ₀ pins s σ H xs us Q I r q) hg hm hv ha hn hdb (star_of hst) hpl) fun σ H Q h => by
    obtain ⟨μ, f, s, hs, hf, o⟩ := h
    refine ⟨μ, f, s, hs, hf, Out.imp (Out.bnd o) fun x H1 h1 => ?_⟩
    obtain ⟨μ1, d, s1, m1, r1, q1, o1⟩ := h1
    exact ⟨σ, μ1, d, s1, r1, q1, o1⟩
theorem x_fnT {x : Str} {p : Pos} {e : Expr} {es : List Expr} {g : Fn} {T : String} {a : AX} (hst : ∀ x p, e ≠ .Starred x p) (hpl : (backTo pos (starEach es X.env)).any (·.1) = false) (hc : ∀ σ₀, CallR X (.type T) (rFn (pk X ca) W σ₀ g)) (hg : Gl X x) (hm : X.mg x = none) (hv : bootBuiltins x = some (.type T)) (hn : x ≠ "__name__") (hdb : (x == ("__debug__" : Str)) = false) (ha : PA X (e :: es) (tA (pk X ca) W a)) :
    PE X (.Call (.Name x p) (e :: es) [] pos) (tE (pk X ca) W (eFn g a)) :=
  PE.imp (pe_callTy (r := fun vs H Q => ∃ σ₀, rFn (pk X ca) W σ₀ g vs H Q) (fun pins s σ H xs us Q I r ⟨σ₀, q⟩ => hc σ₀ pins s σ H xs us Q I r q) hg hm hv ha hn hdb (star_of hst) hpl) fun σ H Q h => by
    obtain ⟨μ, f, s, hs, hf, o⟩ := h
    refine ⟨μ, f, s, hs, hf, Out.imp (Out.bnd o) fun x H1 h1 => ?_⟩
    obtain ⟨μ1, d, s1, m1, r1, q1, o1⟩ := h1
    exact ⟨σ, μ1, d, s1, r1, q1, o1⟩
theorem run_fnG {pins : List (Addr × Obj)} {σ : L2.St} {H : Hp} {s : Shared} {Q : VK} {us ws : List Value} {vs : List V} {k : Nat} {f : Addr} {fd : FuncData} {ps : List Str} {sp : Sp} (F : FnG X.prog X.w X.K X.mg X.base k f fd ps sp) (hr : Room k X.A) (hgd : X.A.guards = some []) (hb : KB X.K fd ps) (tk : L2N.Takes X W)
    (I : Inv X pins σ H s) (r : Vals vs (us ++ ws)) (h : sp vs H Q (WE W σ)) : wpAny (model X.prog X.w) X.A (call (.ref f) us ((ps.drop us.length).zip ws)) (EP X pins σ Q) X.xe s := by
  have hl : us.length + ws.length = ps.length := by rw [← List.length_append, ← r.length]; exact F.len _ _ _ _ h
  refine wpAny_call (codeAny_mono (F.run X.A X.stack s H ⟨us, (ps.drop us.length).zip ws⟩ (us ++ ws) vs Q (WE W σ) hr hgd I.env0 (hb s us ws hl) r h) fun r s' hq => ?_)
  cases r with
  | error e => exact L2N.passAt tk σ pins H s e s' I hq
  | ok fl =>
    cases fl with
    | ret u => exact I.after hq
    | next => exact False.elim hq
    | brk => exact False.elim hq
    | cont => exact False.elim hq
def tCallG (sp : Sp) (W : WX) (n : Nat) (t tk : TA) : TE := fun σ H Q => t σ H fun vs H1 => vs.length = n ∧ tk σ H1 fun zs H2 => sp (vs ++ zs) H2 Q (WE W σ)
theorem vals_app : ∀ {vs : List V} {us : List Value} {zs : List V} {ws : List Value}, Vals vs us → Vals zs ws → Vals (vs ++ zs) (us ++ ws)
  | _, _, _, _, .nil, s => s
  | _, _, _, _, .cons r t, s => .cons r (vals_app t s)
theorem pe_callG0 {x : Str} {p : Pos} {kws : List Keyword} {k : Nat} {f : Addr} {fd : FuncData} {ps : List Str} {sp : Sp} {tk : TA} (F : FnG X.prog X.w X.K X.mg X.base k f fd ps sp) (hr : Room k X.A) (hgd : X.A.guards = some []) (hg : Gl X x) (hm : X.mg x = some (.ref f)) (hk : PySem.W.keepIn X.K (.ref f) = true) (hb : KB X.K fd ps)
    (htk : L2N.Takes X W) (hdb : (x == ("__debug__" : Str)) = false) (hkw : L2.PK X kws tk) (hall : (backToKw pos (keywordEach kws X.env)).all (·.1.isSome) = true) (hks : (backToKw pos (keywordEach kws X.env)).filterMap (·.1) = ps)
    (hpl : ((backTo pos (starEach [] X.env)).any (·.1) || (backToKw pos (keywordEach kws X.env)).any (·.1.isNone)) = false) :
    PE X (.Call (.Name x p) [] kws pos) (fun σ H Q => tk σ H fun zs H2 => sp zs H2 Q (WE W σ)) := by
  refine ⟨fun pins s σ H Q I h => ?_⟩
  refine wpAny_Call_Name_kw (ld_glob I hg hm ?_ hdb)
  refine PySem.W.callWith_KW0 (h₀ := X.base) I.ok.mod.kin hk hall ?_ hpl
  refine thn (hkw.run pos pins s σ H _ I h) fun ws s2 ⟨zs, H2, I2, rz, q2⟩ => ⟨I2.kIn, ?_⟩
  rw [hks]
  exact run_fnG (us := []) F hr hgd hb htk I2 rz q2
theorem pe_callG {x : Str} {p : Pos} {e : Expr} {es : List Expr} {kws : List Keyword} {k : Nat} {f : Addr} {fd : FuncData} {ps : List Str} {sp : Sp} {t tk : TA} (F : FnG X.prog X.w X.K X.mg X.base k f fd ps sp) (hr : Room k X.A) (hgd : X.A.guards = some []) (hg : Gl X x) (hm : X.mg x = some (.ref f)) (hk : PySem.W.keepIn X.K (.ref f) = true) (hb : KB X.K fd ps)
    (htk : L2N.Takes X W) (hdb : (x == ("__debug__" : Str)) = false) (ha : PA X (e :: es) t) (hkw : L2.PK X kws tk) (hall : (backToKw pos (keywordEach kws X.env)).all (·.1.isSome) = true) (hks : (backToKw pos (keywordEach kws X.env)).filterMap (·.1) = ps.drop (e :: es).length)
    (hst : starEach (e :: es) X.env = (false, eval e X.env) :: starEach es X.env)
    (hpl : ((backTo pos (starEach (e :: es) X.env)).any (·.1) || (backToKw pos (keywordEach kws X.env)).any (·.1.isNone)) = false) :
    PE X (.Call (.Name x p) (e :: es) kws pos) (tCallG sp W (e :: es).length t tk) := by
  refine ⟨fun pins s σ H Q I h => ?_⟩
  refine wpAny_Call_Name_kw (ld_glob I hg hm ?_ hdb)
  refine PySem.W.callWith_KW (h₀ := X.base) I.ok.mod.kin hk hall (thn (ha.run pos pins s σ H _ I h) fun us s1 ⟨vs, H1, I1, rv, hl, q⟩ => ?_) hpl hst
  refine thn (hkw.run pos pins s1 σ H1 _ I1 q) fun ws s2 ⟨zs, H2, I2, rz, q2⟩ => ⟨I2.kIn, ?_⟩
  rw [hks]
  have hu : us.length = (e :: es).length := by rw [← rv.length]; exact hl
  rw [← hu]
  exact run_fnG F hr hgd hb htk I2 (vals_app rv rz) q2
theorem PK.imp' {kws : List Keyword} {t t' : TA} (h : L2.PK X kws t) (i : ∀ σ H Q, t' σ H Q → t σ H Q) : L2.PK X kws t' := ⟨fun p pins s σ H Q I q => h.run p pins s σ H Q I (i _ _ _ q)⟩
theorem x_knil : L2.PK X [] (tA (pk X ca) W aNil) := PK.imp' pk_nil fun σ H Q h => by
  obtain ⟨μ, f, s, hs, hf, o⟩ := h
  exact o μ H [] Mono.refl hs .nil
theorem x_kcons {nm : Option Str} {kpos : Pos} {e : Expr} {kws : List Keyword} {a : EX} {b : AX} (ha : PE X e (tE (pk X ca) W a)) (hb : L2.PK X kws (tA (pk X ca) W b)) : L2.PK X (⟨nm, e, kpos⟩ :: kws) (tA (pk X ca) W (aCons a b)) :=
  PK.imp' (pk_cons ha hb) fun σ H Q h => by
    obtain ⟨μ, f, s, hs, hf, o⟩ := h
    refine ⟨μ, f, s, hs, hf, Out.imp (Out.bnd o) fun x H1 h1 => ?_⟩
    obtain ⟨μ1, d, s1, m1, r1, q1, o1⟩ := h1
    refine ⟨μ1, f, s1, r1, hf.mono m1, Out.imp (Out.bnd o1) fun xs H2 h2 => ?_⟩
    obtain ⟨μ2, ds, s2, m2, r2, q2, o2⟩ := h2
    exact o2 μ2 H2 (x :: xs) Mono.refl r2 (.cons (q1.mono m2) q2)
/-- a list of arguments has its length -/
def LenA (a : AX) (n : Nat) : Prop := ∀ f s ds s', a f s = .ok ds s' → ds.length = n
theorem lenA_nil : LenA aNil 0 := fun f s ds s' e => by unfold aNil at e; cases e; rfl
theorem lenA_cons {a : EX} {b : AX} {n : Nat} (h : LenA b n) : LenA (aCons a b) (n + 1) := fun f s ds s' e => by
  unfold aCons at e
  obtain ⟨x, s1, _, e⟩ := bnd_ok e
  obtain ⟨xs, s2, e2, e⟩ := bnd_ok e
  have e' : Res.ok (x :: xs) s2 = .ok ds s' := e
  cases e'
  simp [h f s1 xs _ e2]
theorem out_len {P : PK} {σ : L2.St} {μ : List Addr} {H : Hp} {m : M (List LG.D)} {s : Sto} {Q : List V → Hp → Prop} {n : Nat} (hl : ∀ ds s', m s = .ok ds s' → ds.length = n) (o : Out P W σ μ H (RA P) (m s) Q) : Out P W σ μ H (RA P) (m s) fun vs H' => vs.length = n ∧ Q vs H' := by
  cases e : m s with
  | ok ds s1 =>
    rw [e] at o
    intro μ' H' v m' r' q'
    exact ⟨by rw [RVs.length q']; exact hl ds s1 e, o μ' H' v m' r' q'⟩
  | err c x s1 => rw [e] at o; exact o
  | bad => rw [e] at o; exact o
theorem spI_of {P : PK} {call : Call} {i n : Nat} {σ : L2.St} {μ : List Addr} {H : Hp} {vs : List V} {ds : List LG.D} {s : Sto} {Q : VK} (hl : vs.length = n) (hs : RS P μ H s) (r : RVs P.K μ H vs ds) (o : Out P W σ μ H (RE P) (call i ds s) Q) : spI P call i n vs H Q (WE W σ) := by
  refine ⟨hl, μ, ds, s, hs, r, ?_⟩
  cases e : call i ds s with
  | ok d s1 => rw [e] at o; exact o
  | err c x s1 => rw [e] at o; exact o
  | bad => rw [e] at o; exact o
theorem x_call {x : Str} {p : Pos} {e : Expr} {es : List Expr} {kws : List Keyword} {call : Call} {i k : Nat} {f : Addr} {fd : FuncData} {ps : List Str} {a b : AX} (F : FnG X.prog X.w X.K X.mg X.base k f fd ps (spI (pk X ca) call i ps.length)) (hr : Room k X.A) (hgd : X.A.guards = some []) (hg : Gl X x) (hm : X.mg x = some (.ref f)) (hk : PySem.W.keepIn X.K (.ref f) = true) (hb : KB X.K fd ps)
    (htk : L2N.Takes X W) (hdb : (x == ("__debug__" : Str)) = false) (ha : PA X (e :: es) (tA (pk X ca) W a)) (hkw : L2.PK X kws (tA (pk X ca) W b)) (hall : (backToKw pos (keywordEach kws X.env)).all (·.1.isSome) = true) (hks : (backToKw pos (keywordEach kws X.env)).filterMap (·.1) = ps.drop (e :: es).length)
    (hst : ∀ x p, e ≠ .Starred x p) (hpl : ((backTo pos (starEach (e :: es) X.env)).any (·.1) || (backToKw pos (keywordEach kws X.env)).any (·.1.isNone)) = false) (hla : LenA a (e :: es).length) (hlb : LenA b kws.length) (hl : (e :: es).length + kws.length = ps.length) :
    PE X (.Call (.Name x p) (e :: es) kws pos) (tE (pk X ca) W (eCall call i (aApp a b))) :=
  PE.imp (pe_callG F hr hgd hg hm hk hb htk hdb ha hkw hall hks (star_of hst) hpl) fun σ H Q h => by
    obtain ⟨μ, f, s, hs, hf, o⟩ := h
    have o' := Out.bnd (R := RA (pk X ca)) o
    have o2 := Out.bnd (R := RA (pk X ca)) o'
    refine ⟨μ, f, s, hs, hf, Out.imp (out_len (fun ds s' e => hla f s ds s' e) o2) fun vs H1 h1 => ⟨h1.1, ?_⟩⟩
    obtain ⟨hl1, μ1, ds, s1, m1, r1, q1, o3⟩ := h1
    have o4 := Out.bnd (R := RA (pk X ca)) o3
    refine ⟨μ1, f, s1, r1, hf.mono m1, Out.imp (out_len (fun ds s' e => hlb f s1 ds s' e) o4) fun zs H2 h2 => ?_⟩
    obtain ⟨hl2, μ2, es', s2, m2, r2, q2, o5⟩ := h2
    obtain ⟨μ3, ys, s3, m3, r3, q3, o6⟩ := o5 μ2 H2 (vs ++ zs) Mono.refl r2 ((q1.mono m2).append q2)
    exact spI_of (by rw [List.length_append, hl1, hl2]; exact hl) r3 q3 o6
theorem x_call0 {x : Str} {p : Pos} {kws : List Keyword} {call : Call} {i k : Nat} {f : Addr} {fd : FuncData} {ps : List Str} {b : AX} (F : FnG X.prog X.w X.K X.mg X.base k f fd ps (spI (pk X ca) call i ps.length)) (hr : Room k X.A) (hgd : X.A.guards = some []) (hg : Gl X x) (hm : X.mg x = some (.ref f)) (hk : PySem.W.keepIn X.K (.ref f) = true) (hb : KB X.K fd ps)
    (htk : L2N.Takes X W) (hdb : (x == ("__debug__" : Str)) = false) (hkw : L2.PK X kws (tA (pk X ca) W b)) (hall : (backToKw pos (keywordEach kws X.env)).all (·.1.isSome) = true) (hks : (backToKw pos (keywordEach kws X.env)).filterMap (·.1) = ps)
    (hpl : ((backTo pos (starEach [] X.env)).any (·.1) || (backToKw pos (keywordEach kws X.env)).any (·.1.isNone)) = false) (hlb : LenA b kws.length) (hl : kws.length = ps.length) :
    PE X (.Call (.Name x p) [] kws pos) (tE (pk X ca) W (eCall call i (aApp aNil b))) :=
  PE.imp (pe_callG0 F hr hgd hg hm hk hb htk hdb hkw hall hks hpl) fun σ H Q h => by
    obtain ⟨μ, f, s, hs, hf, o⟩ := h
    have o' := Out.bnd (R := RA (pk X ca)) o
    have o2 := Out.bnd (R := RA (pk X ca)) o'
    obtain ⟨μ1, ds, s1, m1, r1, q1, o3⟩ := o2 μ H [] Mono.refl hs .nil
    have o4 := Out.bnd (R := RA (pk X ca)) o3
    refine ⟨μ1, f, s1, r1, hf.mono m1, Out.imp (out_len (fun ds s' e => hlb f s1 ds s' e) o4) fun zs H2 h2 => ?_⟩
    obtain ⟨hl2, μ2, es', s2, m2, r2, q2, o5⟩ := h2
    obtain ⟨μ3, ys, s3, m3, r3, q3, o6⟩ := o5 μ2 H2 ([] ++ zs) Mono.refl r2 ((q1.mono m2).append q2)
    exact spI_of (by rw [hl2]; exact hl) r3 q3 o6
end
end LG
set_option Elab.async false
set_option linter.all false
set_option maxRecDepth 100000
/-! LG9: methods, isinstance, iterators, targets, comprehensions. -/
namespace LG
open PySem PySem.Spec PyProof.Rows L2

section
variable {X : Cx} {ca : Nat → Addr} {W : WX} {pos : Pos}
theorem tyV_lst {P : PK} {μ : List Addr} {H : Hp} {s : Sto} {x : V} {d : D} (hs : RS P μ H s) (h : RV P.K μ H x d) (e : isLst s d = true) : tyV P.K "list" x H := by
  unfold isLst at e
  cases h with
  | @ref a n hm =>
    simp only at e
    split at e
    · rename_i ds e1
      obtain ⟨a', vs, g1, g2, g3, g4⟩ := hs.lst e1
      rw [hm] at g1; cases g1
      exact .inl ⟨rfl, vs, .inl (.inl g2)⟩
    · cases e
  | _ => cases e
theorem mt_imp {m : Mt} {σ : L2.St} {H : Hp} {Q : VK} {fo : EX} {fa : AX} (h : tE (pk X ca) W (eMt m fo fa) σ H Q) :
    tE (pk X ca) W fo σ H fun x H1 => tyV X.K "list" x H1 ∧ tA (pk X ca) W fa σ H1 fun xs H2 => ∃ σ₀, rMt (pk X ca) W σ₀ m x xs H2 Q := by
  obtain ⟨μ, f, s, hs, hf, o⟩ := h
  refine ⟨μ, f, s, hs, hf, Out.imp (Out.bnd o) fun x H1 h1 => ?_⟩
  obtain ⟨μ1, d, s1, m1, r1, q1, o1⟩ := h1
  split at o1
  · rename_i hl
    refine ⟨tyV_lst (P := pk X ca) r1 q1 hl, μ1, f, s1, r1, hf.mono m1, Out.imp (Out.bnd o1) fun xs H2 h2 => ?_⟩
    obtain ⟨μ2, ds, s2, m2, r2, q2, o2⟩ := h2
    exact ⟨σ, μ2, d, ds, s2, r2, q1.mono m2, q2, o2⟩
  · exact o1.elim
theorem mtR_all {id : String} {m : Mt} (h : ∀ σ₀, MtR X id (rMt (pk X ca) W σ₀ m)) : MtR X id (fun x vs H Q => ∃ σ₀, rMt (pk X ca) W σ₀ m x vs H Q) :=
  fun pins s σ H x xs v us Q I rx r ⟨σ₀, q⟩ => h σ₀ pins s σ H x xs v us Q I rx r q
theorem x_mt0 {o : Expr} {name : Str} {id : String} {m : Mt} {fo : EX} {apos cpos : Pos} (slot : Slot "list" name id) (hty : typeOf (.builtin id) = pure (.type "method_descriptor")) (hm : ∀ σ₀, MtR X id (rMt (pk X ca) W σ₀ m)) (ho : PE X o (tE (pk X ca) W fo))
    (hbase : attributeBase o name X.env (eval o X.env) = eval o X.env) (hline : (apos.endLine == cpos.line) = true) :
    PE X (.Call (.Attribute o name apos) [] [] cpos) (tE (pk X ca) W (eMt m fo aNil)) :=
  PE.imp (pe_bm0 PySem.F.plainAttrs_list slot hty (mtR_all hm) ho hbase hline) fun σ H Q h => by
    obtain ⟨μ, f, s, hs, hf, o⟩ := mt_imp h
    refine ⟨μ, f, s, hs, hf, Out.imp o fun x H1 h1 => ⟨h1.1, ?_⟩⟩
    obtain ⟨μ1, f1, s1, hs1, hf1, o1⟩ := h1.2
    exact o1 μ1 H1 [] Mono.refl hs1 .nil
theorem x_mt {o e : Expr} {es : List Expr} {name : Str} {id : String} {m : Mt} {fo : EX} {fa : AX} {apos cpos : Pos} (slot : Slot "list" name id) (hty : typeOf (.builtin id) = pure (.type "method_descriptor")) (hm : ∀ σ₀, MtR X id (rMt (pk X ca) W σ₀ m)) (ho : PE X o (tE (pk X ca) W fo)) (ha : PA X (e :: es) (tA (pk X ca) W fa))
    (hbase : attributeBase o name X.env (eval o X.env) = eval o X.env)
    (hfew : ((backTo cpos (starEach (e :: es) X.env)).all (fun x => !x.1) && (backToKw cpos (keywordEach [] X.env)).all (fun x => x.1.isSome)
      && decide ((e :: es).length + ([] : List Keyword).length + (if ([] : List Keyword).isEmpty then 0 else 1) < 30)) = true)
    (hline : (apos.endLine == cpos.line) = true) (hst : starEach (e :: es) X.env = (false, eval e X.env) :: starEach es X.env) (hplain : (backTo cpos (starEach es X.env)).any (·.1) = false) :
    PE X (.Call (.Attribute o name apos) (e :: es) [] cpos) (tE (pk X ca) W (eMt m fo fa)) :=
  PE.imp (pe_bm PySem.F.plainAttrs_list slot hty (mtR_all hm) ho ha hbase hfew hline hst hplain) fun σ H Q h => mt_imp h

/-! ### isinstance -/
def tkS : TK → String
  | .non => "NoneType" | .bl => "bool" | .int => "int" | .str => "str" | .tup => "tuple" | .lst => "list" | .dct => "dict"
def tyS : Ty → String
  | .int => "int" | .bool => "bool" | .str => "str" | .tuple => "tuple" | .list => "list" | .dict => "dict" | .cls _ => ""
theorem kit_tab {K : PySem.W.Frag} {t : Ty} (k : TK) (ht : ∀ c, t ≠ .cls c) : PySem.W.kitOne K (.type (tkS k)) (.type (tyS t)) = some (tkIs t k) := by
  cases t <;> first
    | exact absurd rfl (ht _)
    | (cases k <;> kernel_rfl)
theorem tyX_of {P : PK} {μ : List Addr} {H : Hp} {s : Sto} {x : V} {d : D} {k : TK} (hs : RS P μ H s) (h : RV P.K μ H x d) (e : tyD s d = some k) : TyX P.K H x (.type (tkS k)) := by
  unfold tyD at e
  cases h with
  | non => cases e; exact .base .non
  | bl b => cases e; exact .base (.bl b)
  | int i => cases e; exact .base (.int i)
  | str x => cases e; exact .base (.str x)
  | @tup a vs ds ht hr =>
    cases e
    rcases ht with ht | ⟨o, its, n, h1, h2, _⟩
    · exact .base (.tup ht)
    · exact .kTuple h1 h2
  | @ref a n hm =>
    simp only at e
    split at e
    · rename_i ds e1
      cases e
      obtain ⟨a', vs, g1, g2, g3, g4⟩ := hs.lst e1
      rw [hm] at g1; cases g1
      exact .base (.lst g2)
    · rename_i ds e1
      obtain ⟨hn, _⟩ := List.getElem?_eq_some_iff.mp e1
      obtain ⟨ks, q⟩ := hs.ob n a _ hm e1
      cases e
      exact .base (.dK q)
    · cases e
  | kl h r => cases e
theorem x_isB {e : Expr} {p tp : Pos} {tx : Str} {t : Ty} {fa : EX} {sub : Nat → Nat → Option Bool} (ht : ∀ c, t ≠ .cls c) (hg : Gl X "isinstance") (hm : X.mg "isinstance" = none) (hgt : Gl X tx) (hmt : X.mg tx = none) (hv : bootBuiltins tx = some (.type (tyS t))) (hn : tx ≠ "__name__") (hdb : (tx == ("__debug__" : Str)) = false)
    (hst : ∀ x p, e ≠ .Starred x p) (ha : PE X e (tE (pk X ca) W fa)) : PE X (.Call (.Name "isinstance" p) [e, .Name tx tp] [] pos) (tE (pk X ca) W (eIs sub t fa)) :=
  PE.imp (pe_callB call_isi hg hm PyProof.Rows.boot_isinstance (pa_cons ha (pa_cons (pe_bltn (v := .ty (tyS t)) hgt hmt hv rfl hn hdb) pa_nil rfl) (star_of hst)) (he := star_of hst) (hpl := rfl)) fun σ H Q h => by
    obtain ⟨μ, f, s, hs, hf, o⟩ := h
    refine ⟨μ, f, s, hs, hf, Out.imp (Out.bnd o) fun x H1 h1 => ?_⟩
    obtain ⟨μ1, d, s1, m1, r1, q1, o1⟩ := h1
    split at o1
    · rename_i b eb
      unfold isinst at eb
      have eb' : (tyD s1 d).map (tkIs t) = some b := by
        cases t <;> first | exact absurd rfl (ht _) | exact eb
      obtain ⟨k, e1, e2⟩ := Option.map_eq_some_iff.mp eb'
      exact ⟨x, .ty (tyS t), _, _, b, rfl, .ty _, tyX_of (P := pk X ca) r1 q1 e1, by rw [kit_tab k ht, e2], o1.here r1 (.bl b)⟩
    · exact o1.elim
end
end LG
set_option Elab.async false
set_option linter.all false
set_option maxRecDepth 100000
/-! LG10: iterators, targets, comprehensions. -/
namespace LG
open PySem PySem.Spec PyProof.Rows L2

/-- how an iterator stands for what is walked -/
def ItR (P : PK) (μ : List Addr) (H : Hp) (J : It) (it : Itr) : Prop := ∀ (μ' : List Addr) (H' : Hp) (s : Sto) (i : Nat), Mono P.K μ H μ' H' → RS P μ' H' s →
  (nextI s it i = some none → J.stop i H') ∧ ∀ d, nextI s it i = some (some d) → J.go i H' ∧ ∀ x H'', J.yld i H' x H'' → ∃ μ'', Mono P.K μ' H' μ'' H'' ∧ RS P μ'' H'' s ∧ RV P.K μ'' H'' x d
abbrev tI (P : PK) (W : WX) (m : IX) : TI := tX P W (ItR P) m
def tG (P : PK) (sl : List Nat) (g : GX) : TG := fun v σ H Q => ∃ μ f f' d, RF P μ H σ f ∧ RV P.K μ H v d ∧ g d f = some f' ∧ ∀ σ', RF P μ H σ' f' → (∀ vs : List Nat, (∀ j ∈ sl, j ∈ vs) → wipe σ' vs = wipe σ vs) → Q σ' H
def tGs (P : PK) (sl : List Nat) (g : List GX) : TGs := fun vs σ H Q => ∃ μ f f' ds, RF P μ H σ f ∧ RVs P.K μ H vs ds ∧ gTups g ds f = some f' ∧ ∀ σ', RF P μ H σ' f' → (∀ vs : List Nat, (∀ j ∈ sl, j ∈ vs) → wipe σ' vs = wipe σ vs) → Q σ' H
theorem PGs.imp {X : Cx} {e : List Expr} {t t' : TGs} (h : PGs X e t) (i : ∀ v σ H Q, t' v σ H Q → t v σ H Q) : PGs X e t' := ⟨fun pins s σ H v u Q I r q => h.run pins s σ H v u Q I r (i _ _ _ _ q)⟩
theorem PTs.imp {X : Cx} {e : List Expr} {t t' : TT} (h : PTs X e t) (i : ∀ σ H Q, t' σ H Q → t σ H Q) : PTs X e t' := ⟨fun pins s σ H Q I q => h.run pins s σ H Q I (i _ _ _ q)⟩
theorem wipe_set {σ : L2.St} {j : Nat} {x : Option V} : ∀ {vs : List Nat}, j ∈ vs → wipe (σ.set j x) vs = wipe σ vs
  | v :: vs, h => by
    by_cases e : j ∈ vs
    · show (wipe (σ.set j x) vs).set v none = (wipe σ vs).set v none
      rw [wipe_set e]
    · have hv : j = v := by
        rcases List.mem_cons.mp h with h | h
        · exact h
        · exact absurd h e
      subst hv
      apply List.ext_getElem?
      intro i
      show ((wipe (σ.set j x) vs).set j none)[i]? = ((wipe σ vs).set j none)[i]?
      by_cases hi : j = i
      · subst hi
        rw [List.getElem?_set, List.getElem?_set, wipe_length, wipe_length, List.length_set, if_pos rfl, if_pos rfl]
      · rw [List.getElem?_set_ne hi, List.getElem?_set_ne hi]
        by_cases hm : i ∈ vs
        · by_cases hl : i < σ.length
          · have a1 : ∀ τ : L2.St, i < τ.length → ∀ {ws : List Nat}, i ∈ ws → (wipe τ ws)[i]? = some none := by
              intro τ hτ ws hws
              induction ws with
              | nil => cases hws
              | cons w ws ih =>
                show ((wipe τ ws).set w none)[i]? = _
                by_cases hw : w = i
                · subst hw
                  rw [List.getElem?_set_self (by rw [wipe_length]; exact hτ)]
                · rw [List.getElem?_set_ne hw]
                  rcases List.mem_cons.mp hws with h | h
                  · exact absurd h.symm hw
                  · exact ih h
            rw [a1 _ (by rw [List.length_set]; exact hl) hm, a1 _ hl hm]
          · rw [List.getElem?_eq_none (by rw [wipe_length, List.length_set]; omega), List.getElem?_eq_none (by rw [wipe_length]; omega)]
        · rw [wipe_out hm, wipe_out hm, List.getElem?_set_ne hi]

theorem wipe_sub {σ : L2.St} {vs : List Nat} : ∀ {ws : List Nat}, (∀ j ∈ ws, j ∈ vs) → wipe (wipe σ ws) vs = wipe σ vs
  | [], _ => rfl
  | w :: ws, h => by
    show wipe ((wipe σ ws).set w none) vs = _
    rw [wipe_set (h w (by simp)), wipe_sub fun j hj => h j (List.mem_cons_of_mem _ hj)]

/-! ### the walks -/
theorem itr_lst {P : PK} {μ : List Addr} {H : Hp} {n : Nat} {a : Addr} (h : μ[n]? = some a) : ItR P μ H (Itl P.K a) (.lst n) := fun μ' H' s i m r => by
  refine ⟨fun e => ?_, fun d e => ?_⟩
  · unfold nextI at e
    split at e
    · rename_i xs e1
      obtain ⟨a', vs, g1, g2, g3, g4⟩ := r.lst e1
      rw [m.ix _ _ h] at g1; cases g1
      have e2 : xs[i]? = none := by simpa using e
      exact ⟨vs, .inl (.inl g2), by rw [RVs.length g3]; exact List.getElem?_eq_none_iff.mp e2⟩
    · cases e
  · unfold nextI at e
    split at e
    · rename_i xs e1
      obtain ⟨a', vs, g1, g2, g3, g4⟩ := r.lst e1
      rw [m.ix _ _ h] at g1; cases g1
      have e2 : xs[i]? = some d := by simpa using e
      obtain ⟨v, h1, h2⟩ := g3.get e2
      refine ⟨⟨vs, v, .inl (.inl g2), h1⟩, fun x H'' y => ?_⟩
      obtain ⟨y1, y2⟩ := y
      subst y1
      have q := y2 vs (.inl (.inl g2))
      rw [h1] at q; cases q
      exact ⟨μ', Mono.refl, r, h2⟩
    · cases e
theorem itr_tup {P : PK} {μ : List Addr} {H : Hp} {a : Addr} {vs : List V} {ds : List D} (h : TupAt P.K H a vs) (hr : RVs P.K μ H vs ds) : ItR P μ H (Itt P.K a) (.tup ds) := fun μ' H' s i m r => by
  have h' := (h.mono0 (m.m0)).sq
  have hr' := hr.mono m
  refine ⟨fun e => ?_, fun d e => ?_⟩
  · unfold nextI at e
    have e2 : ds[i]? = none := by simpa using e
    exact ⟨vs, h', by rw [RVs.length hr]; exact List.getElem?_eq_none_iff.mp e2⟩
  · unfold nextI at e
    have e2 : ds[i]? = some d := by simpa using e
    obtain ⟨v, h1, h2⟩ := hr'.get e2
    refine ⟨⟨vs, v, h', h1⟩, fun x H'' y => ?_⟩
    obtain ⟨y1, y2⟩ := y
    subst y1
    have q := y2 vs h'
    rw [h1] at q; cases q
    exact ⟨μ', Mono.refl, r, h2⟩
theorem itr_rng {P : PK} {μ : List Addr} {H : Hp} {lo : Int} {n : Nat} : ItR P μ H (L2.Itr lo n) (.rng lo 1 n) := fun μ' H' s i m r => by
  refine ⟨fun e => ?_, fun d e => ?_⟩
  · unfold nextI at e
    split at e
    · cases e
    · show n ≤ i
      omega
  · unfold nextI at e
    split at e
    · rename_i hlt
      refine ⟨hlt, fun x H'' y => ?_⟩
      obtain ⟨y1, y2⟩ := y
      subst y1 y2
      cases e
      refine ⟨μ', Mono.refl, r, ?_⟩
      rw [Int.one_mul]
      exact .int _
    · cases e

section
variable {X : Cx} {ca : Nat → Addr} {W : WX} {pos : Pos} {tg : Expr}
/-- a list or a tuple -/
def iSq (K : PySem.W.Frag) (tl : TE) : TI := fun σ H R => tl σ H fun x H1 => ∃ a, x = .ref a ∧ (((∃ xs, SqL K H1 a xs) ∧ R (Itl K a) H1) ∨ ((∃ xs, SqT K H1 a xs) ∧ R (Itt K a) H1))
theorem pi_sq {l : Expr} {tl : TE} (hl : PE X l tl) : PI X tg l (iSq X.K tl) := by
  refine ⟨fun pins s σ H R I h => ?_⟩
  refine thn (hl.run pins s σ H _ I h) fun v s1 ⟨x, H1, I1, r1, q1⟩ => ?_
  obtain ⟨a, e, q⟩ := q1
  subst e
  cases r1
  rcases q with ⟨⟨xs, hq⟩, q⟩ | ⟨⟨xs, hq⟩, q⟩
  · obtain ⟨its, rv, p, hz⟩ := I1.list hq
    refine wpAny_pyIter_list p.isList ?_
    refine ⟨s1.heap.objs.size, [s1.heap.objs.size], _, _, H1, rfl, I1.kept (t' := s1.toks) fun b o e => Heap.get?_push_of_some _ e, turn_list a _, ⟨_, Heap.get?_push_size _ rfl, rfl, rfl⟩, fun b hb => ?_, q⟩
    have e : b = s1.heap.objs.size := by simpa using hb
    subst e
    exact I1.fpOk (Nat.le_refl _) (I1.hok.fresh (Nat.le_refl _))
  · obtain ⟨its, rv, p, hz⟩ := I1.tuple hq
    refine wpAny_pyIter_tuple (show s1.heap.IsTuple a its.toArray from p) ?_
    refine ⟨s1.heap.objs.size, [s1.heap.objs.size], _, _, H1, rfl, I1.kept (t' := s1.toks) fun b o e => Heap.get?_push_of_some _ e, turn_tuple a _, ⟨_, Heap.get?_push_size _ rfl, rfl, rfl⟩, fun b hb => ?_, q⟩
    have e : b = s1.heap.objs.size := by simpa using hb
    subst e
    exact I1.fpOk (Nat.le_refl _) (I1.hok.fresh (Nat.le_refl _))
theorem x_seq {e : Expr} {fa : EX} (ha : PE X e (tE (pk X ca) W fa)) : PI X tg e (tI (pk X ca) W (iSeq fa)) :=
  PI.imp (pi_sq ha) fun σ H Q h => by
    obtain ⟨μ, f, s, hs, hf, o⟩ := h
    refine ⟨μ, f, s, hs, hf, Out.imp (Out.bnd o) fun x H1 h1 => ?_⟩
    obtain ⟨μ1, d, s1, m1, r1, q1, o1⟩ := h1
    cases q1 with
    | @tup a vs ds ht hr => exact ⟨a, rfl, .inr ⟨⟨vs, ht.sq⟩, o1 μ1 H1 (Itt X.K a) Mono.refl r1 (itr_tup (P := pk X ca) ht hr)⟩⟩
    | @ref a n hm =>
      simp only at o1
      split at o1
      · rename_i ds e1
        obtain ⟨a', vs, g1, g2, g3, g4⟩ := r1.lst e1
        rw [hm] at g1; cases g1
        exact ⟨a, rfl, .inl ⟨⟨vs, .inl (.inl g2)⟩, o1 μ1 H1 (Itl X.K a) Mono.refl r1 (itr_lst (P := pk X ca) hm)⟩⟩
      · exact o1.elim
    | _ => exact o1.elim
theorem rng_ok {i : Int} (h : rngOk i = true) : -(2 ^ 62) ≤ i ∧ i < 2 ^ 62 := by
  unfold rngOk RB at h
  simp only [Bool.and_eq_true, decide_eq_true_eq] at h
  omega
theorem x_rng1 {e : Expr} {p : Pos} {fa : EX} (hg : Gl X "range") (hm : X.mg "range" = none) (hst : ∀ x p, e ≠ .Starred x p) (ha : PE X e (tE (pk X ca) W fa)) : PI X tg (.Call (.Name "range" p) [e] [] pos) (tI (pk X ca) W (iRng1 fa)) :=
  PI.imp (pi_range1 hg hm (pa_cons ha pa_nil (star_of hst)) (star_of hst)) fun σ H Q h => by
    obtain ⟨μ, f, s, hs, hf, o⟩ := h
    refine ⟨μ, f, s, hs, hf, Out.imp (Out.bnd o) fun x H1 h1 => ?_⟩
    obtain ⟨μ1, d, s1, m1, r1, q1, o1⟩ := h1
    cases q1 with
    | int j =>
      simp only at o1
      split at o1
      · rename_i hr
        obtain ⟨r2, r3⟩ := rng_ok hr
        exact ⟨j, rfl, r2, r3, o1 μ1 H1 (L2.Itr 0 j.toNat) Mono.refl r1 itr_rng⟩
      · exact o1.elim
    | _ => exact o1.elim
theorem x_rng2 {e g : Expr} {p : Pos} {fa fb : EX} (hg : Gl X "range") (hm : X.mg "range" = none) (hst : ∀ x p, e ≠ .Starred x p) (hst2 : ∀ x p, g ≠ .Starred x p) (ha : PE X e (tE (pk X ca) W fa)) (hb : PE X g (tE (pk X ca) W fb)) :
    PI X tg (.Call (.Name "range" p) [e, g] [] pos) (tI (pk X ca) W (iRng2 fa fb)) :=
  PI.imp (pi_range2 hg hm (pa_cons ha (pa_cons hb pa_nil (star_of hst2)) (star_of hst)) (by rw [star_of hst, star_of hst2]; rfl) (star_of hst2)) fun σ H Q h => by
    obtain ⟨μ, f, s, hs, hf, o⟩ := h
    refine ⟨μ, f, s, hs, hf, Out.imp (Out.bnd o) fun x H1 h1 => ?_⟩
    obtain ⟨μ1, d, s1, m1, r1, q1, o1⟩ := h1
    refine ⟨μ1, f, s1, r1, hf.mono m1, Out.imp (Out.bnd o1) fun y H2 h2 => ?_⟩
    obtain ⟨μ2, d2, s2, m2, r2, q2, o2⟩ := h2
    cases q1 with
    | int i =>
      cases q2 with
      | int j =>
        simp only at o2
        split at o2
        · rename_i hr
          rw [Bool.and_eq_true] at hr
          obtain ⟨a1, a2⟩ := rng_ok hr.1
          obtain ⟨a3, a4⟩ := rng_ok hr.2
          exact ⟨i, j, rfl, ⟨a1, a2, a3, a4⟩, o2 μ2 H2 (L2.Itr i (j - i).toNat) Mono.refl r2 itr_rng⟩
        · exact o2.elim
      | _ => exact o2.elim
    | _ => exact o2.elim

/-! ### targets -/
theorem x_gName {i : Nat} {x : Str} (hN : X.N.Nodup) (hi : X.N[i]? = some x) (hx : Loc X.env.scope x) (hf : X.fn x = true ∨ X.env.scope.names.lookup x = some .local) : PG X (.Name x pos) (tG (pk X ca) [i] (gVar i)) :=
  PG.imp (pg_name hN hi hx hf) fun v σ H Q h => by
    obtain ⟨μ, f, f', d, hf, r, e, q⟩ := h
    unfold gVar at e
    cases e
    exact q _ (hf.set r i) fun vs hv => wipe_set (hv i (by simp))
theorem x_gsNil : PGs X [] (tGs (pk X ca) [] []) := PGs.imp pgs_nil fun v σ H Q h => by
  obtain ⟨μ, f, f', ds, hf, r, e, q⟩ := h
  cases r with
  | nil =>
    unfold gTups at e
    cases e
    exact ⟨rfl, q σ hf fun _ _ => rfl⟩
  | cons _ _ => cases e
theorem x_gsCons {e : Expr} {es : List Expr} {sl sl' : List Nat} {g : GX} {gs : List GX} (h1 : PG X e (tG (pk X ca) sl g)) (h2 : PGs X es (tGs (pk X ca) sl' gs)) (hs : (assignEach (e :: es) X.env).map (·.2) = assign e X.env :: (assignEach es X.env).map (·.2)) : PGs X (e :: es) (tGs (pk X ca) (sl ++ sl') (g :: gs)) :=
  PGs.imp (pgs_cons h1 h2 hs) fun vs σ H Q h => by
    obtain ⟨μ, f, f', ds, hf, r, e, q⟩ := h
    cases r with
    | nil => cases e
    | @cons v d vr dr r rr =>
      unfold gTups at e
      split at e
      · rename_i f1 e1
        refine ⟨v, vr, rfl, μ, f, f1, d, hf, r, e1, fun σ1 hf1 w1 => ⟨μ, f1, f', dr, hf1, rr, e, fun σ2 hf2 w2 => q σ2 hf2 fun vs hv => ?_⟩⟩
        rw [w2 vs fun j hj => hv j (List.mem_append_right _ hj), w1 vs fun j hj => hv j (List.mem_append_left _ hj)]
      · cases e
theorem x_gTup {es : List Expr} {k : Nat} {sl : List Nat} {gs : List GX} (hc : X.calm = true) (h : PGs X es (tGs (pk X ca) sl gs)) (hl : gs.length = es.length) (hn : (assignEach es X.env).length = es.length) (hst : (assignEach es X.env).findIdx? (·.1) = none) : PG X (.Tuple es k pos) (tG (pk X ca) sl (LG.gTup gs)) :=
  PG.imp (pg_tup (n := es.length) hc h hn hst) fun v σ H Q h => by
    obtain ⟨μ, f, f', d, hf, r, e, q⟩ := h
    unfold LG.gTup at e
    cases r with
    | @tup a vs ds ht hr =>
      refine ⟨a, vs, rfl, ht.sq, ?_, μ, f, f', ds, hf, hr, e, q⟩
      have : ∀ (gs : List GX) (ds : List D) (f : Fr), gTups gs ds f = some f' → ds.length = gs.length := by
        intro gs
        induction gs with
        | nil => intro ds f e; cases ds with | nil => rfl | cons _ _ => cases e
        | cons g gs ih =>
          intro ds f e
          cases ds with
          | nil => cases e
          | cons d dr =>
            unfold gTups at e
            split at e
            · simp [ih _ _ e]
            · cases e
      rw [RVs.length hr, this gs ds f e, hl]
    | _ => cases e

/-! ### comprehensions -/
theorem Mono.skip {K : PySem.W.Frag} {μ μ' : List Addr} {H H' : Hp} {p : Addr} {o : HO} (m : Mono K μ H μ' H') (hp : H p = none) (hm : p ∉ μ') : Mono K μ H μ' (upd H' p o) :=
  ⟨m.ix, fun a xs h => by rw [upd_ne (ne_of_none h hp)]; exact m.tup a xs h, fun a ob u h => by rw [upd_ne (ne_of_none h hp)]; exact m.frz a ob u h,
    fun a h n => by rw [upd_ne fun z => n (by rw [z]; exact hp)]; exact m.keep a h n, m.new, fun a C d h => by rw [upd_ne (ne_of_none h hp)]; exact m.exc a C d h⟩
theorem mono0_lst {K : PySem.W.Frag} {μ : List Addr} {H : Hp} {p : Addr} {o : HO} {vs : List V} (h : H p = some (.lst vs)) : Mono0 K μ H μ (upd H p o) :=
  ⟨fun _ _ h => h, fun a xs e => by rw [upd_ne fun z => by rw [z, h] at e; cases e]; exact e, fun a ob u e => by rw [upd_ne fun z => by rw [z, h] at e; cases e]; exact e⟩
theorem RO.mono0 {P : PK} {μ μ' : List Addr} {H H' : Hp} {a : Addr} {o : MO} (r : RO P μ H a o) (m : Mono0 P.K μ H μ' H') (ha : H' a = H a) (hx : ∀ d fs, H d = some (.xd fs) → H' d = some (.xd fs)) : RO P μ' H' a o := by
  cases o with
  | lst ds => obtain ⟨vs, h, r, z⟩ := r; exact ⟨vs, ha.trans h, RVs.mono0 m r, z⟩
  | exc c x => obtain ⟨d, v, h1, h2, r⟩ := r; exact ⟨d, v, ha.trans h1, hx _ _ h2, RV.mono0 m r⟩
  | dct kvs => obtain ⟨xs, h1, h2, h3⟩ := r; exact ⟨xs, ha.trans h1, Paired.mapP h2 fun _ _ q => q.mono0 m, h3⟩
  | box kvs => obtain ⟨ks, h1⟩ := r; exact ⟨ks, ha.trans h1⟩
/-- a list that the store does not know is written -/
theorem RS.out {P : PK} {μ : List Addr} {H : Hp} {s : Sto} (r : RS P μ H s) {p : Addr} {vs vs' : List V} (h : H p = some (.lst vs)) (hm : p ∉ μ) : RS P μ (upd H p (.lst vs')) s :=
  ⟨r.len, r.nd, fun n a o e1 e2 => (r.ob n a o e1 e2).mono0 (mono0_lst h) (upd_ne fun z => hm (by rw [← z]; exact List.mem_of_getElem? e1)) fun d fs q => by rw [upd_ne fun z => by rw [z, h] at q; cases q]; exact q,
    fun a ha => by rw [upd_ne fun z => hm (by rw [← z]; exact ha)]; exact r.nn a ha⟩
/-- a list that the store does not know comes into it -/
theorem RS.adopt {P : PK} {μ : List Addr} {H : Hp} {s : Sto} (r : RS P μ H s) {p : Addr} {vs : List V} {ds : List D} (h : H p = some (.lst vs)) (hm : p ∉ μ) (hr : RVs P.K μ H vs ds) (hz : ds.length ≤ LIM) : RS P (μ ++ [p]) H (s ++ [.lst ds]) := by
  have m : Mono0 P.K μ H (μ ++ [p]) H := ⟨fun n a e => by
    obtain ⟨hn, _⟩ := List.getElem?_eq_some_iff.mp e
    rw [List.getElem?_append_left hn]; exact e, fun _ _ h => h, fun _ _ _ h => h⟩
  refine ⟨by simp [r.len], ?_, fun n a y e1 e2 => ?_, fun a ha => ?_⟩
  · rw [List.nodup_append]
    refine ⟨r.nd, by simp, fun a h1 b h2 z => ?_⟩
    have : b = p := by simpa using h2
    exact hm (by rw [← this, ← z]; exact h1)
  · by_cases hn : n < s.length
    · rw [List.getElem?_append_left hn] at e2
      rw [List.getElem?_append_left (by rw [r.len]; exact hn)] at e1
      exact (r.ob n a y e1 e2).mono0 m rfl fun d fs q => q
    · have hn' : n = s.length := by
        obtain ⟨h1, _⟩ := List.getElem?_eq_some_iff.mp e2
        simp at h1; omega
      subst hn'
      rw [List.getElem?_append_right (Nat.le_refl _)] at e2
      rw [List.getElem?_append_right (by rw [r.len]; exact Nat.le_refl _)] at e1
      simp [r.len] at e1 e2
      subst e1; subst e2
      exact ⟨vs, h, RVs.mono0 m hr, hz⟩
  · rcases List.mem_append.mp ha with h' | h'
    · exact r.nn a h'
    · have : a = p := by simpa using h'
      rw [this, h]; simp
theorem Out.here' {P : PK} {W : WX} {σ : L2.St} {μ μ' : List Addr} {H H' : Hp} {α ω : Type} {R : List Addr → Hp → ω → α → Prop} {r : Res α} {a : α} {s : Sto} {Q : ω → Hp → Prop} {v : ω} (o : Out P W σ μ H R r Q) (e : r = .ok a s) (m : Mono P.K μ H μ' H') (rs : RS P μ' H' s) (q : R μ' H' v a) : Q v H' := by
  subst e
  exact o μ' H' v m rs q
theorem bnd_app {α β : Type} (m : M α) (f : α → M β) (s : Sto) : LG.bnd m f s = (match m s with | .ok a s' => f a s' | .err c v s' => .err c v s' | .bad => .bad) := rfl
abbrev Wn : WX := fun _ _ _ _ => False
theorem lc_imp {own : List (Str × Nat)} {sl : List Nat} {fi : IX} {gx : GX} {ft : TX} {fe : EX} (hsl : ∀ j ∈ sl, j ∈ own.map (·.2)) {σ : L2.St} {H : Hp} {Q : VK} (h : tE (pk X ca) W (eLc (own.map (·.2)) fi gx ft fe) σ H Q) :
    tLc (tI (pk X ca) W fi) (tG (pk X ca) sl gx) (tT (pk X ca) Wn ft) (tE (pk X ca) Wn fe) (own.map (·.2)) σ H Q := by
    obtain ⟨μ, f, s, hs, hf, o⟩ := h
    refine ⟨μ, f, s, hs, hf, Out.imp (Out.bnd o) fun J H1 h1 => ?_⟩
    obtain ⟨μ1, it, s1, m1, r1, q1, o1⟩ := h1
    intro D hD
    generalize hvs : own.map (·.2) = vs at *
    obtain ⟨r0, hr0⟩ : ∃ r0, r0 = bnd (lcI it gx ft fe (wipeF f vs) LF 0 []) (fun ys => alloc (.lst ys)) s1 := ⟨_, rfl⟩
    rw [← hr0] at o1
    refine ⟨fun i m H' => ∃ (μ' : List Addr) (s' : Sto) (acc : List LG.D) (accV : List V), Mono X.K μ1 H1 μ' H' ∧ D ∉ μ' ∧ H' D = some (.lst accV) ∧ RVs X.K μ' H' accV acc ∧ acc.length ≤ LIM ∧ RS (pk X ca) μ' H' s' ∧
      r0 = bnd (lcI it gx ft fe (wipeF f vs) m i acc) (fun ys => alloc (.lst ys)) s', ⟨LF, μ1, s1, [], [], mono_upd (P := pk X ca) hD, r1.fresh hD, upd_same, .nil, Nat.zero_le _, r1.upd_free hD, hr0⟩, ?_⟩
    rintro i m H' ⟨μ', s', acc, accV, mm, hDm, hDl, ra, hz, rs, er⟩
    rw [er] at o1
    cases m with
    | zero => exact o1.elim
    | succ m =>
      obtain ⟨itStop, itGo⟩ := q1 μ' H' s' i mm rs
      cases en : nextI s' it i with
      | none => unfold lcI LG.bnd at o1; simp only [en] at o1; exact o1.elim
      | some r =>
        cases r with
        | none =>
          refine .inl ⟨itStop en, ?_⟩
          have e2 : bnd (lcI it gx ft fe (wipeF f vs) (m + 1) i acc) (fun ys => alloc (.lst ys)) s' = .ok (.ref s'.length) (s' ++ [.lst acc]) := by
            unfold lcI LG.bnd
            simp only [en]
            rfl
          refine Out.here' o1 e2 (μ' := μ' ++ [D]) (H' := H') ?_ (rs.adopt hDl hDm ra hz) ?_
          · refine ⟨fun n a h => ?_, mm.tup, mm.frz, mm.keep, fun a h n => ?_, mm.exc⟩
            · have h' := mm.ix n a h
              obtain ⟨hn, _⟩ := List.getElem?_eq_some_iff.mp h'
              rw [List.getElem?_append_left hn]; exact h'
            · rcases List.mem_append.mp h with h | h
              · exact mm.new a h n
              · have : a = D := by simpa using h
                rw [this]; exact hD
          · refine .ref ?_
            rw [List.getElem?_append_right (by rw [rs.len]; exact Nat.le_refl _)]
            simp [rs.len]
        | some d =>
          obtain ⟨go, yl⟩ := itGo d en
          refine .inr ⟨go, fun H'' => ∃ (μ' : List Addr) (s' : Sto) (acc : List LG.D) (accV : List V), Mono X.K μ1 H1 μ' H'' ∧ D ∉ μ' ∧ H'' D = some (.lst accV) ∧ RVs X.K μ' H'' accV acc ∧ acc.length ≤ LIM ∧ RS (pk X ca) μ' H'' s' ∧
            r0 = bnd (lcI it gx ft fe (wipeF f vs) m (i + 1) acc) (fun ys => alloc (.lst ys)) s', fun H'' h => ⟨m, Nat.lt_succ_self m, h⟩, fun x H'' y => ?_⟩
          obtain ⟨μ2, m2, rs2, rx⟩ := yl x H'' y
          have hF : RF (pk X ca) μ2 H'' (wipe σ vs) (wipeF f vs) := ((hf.mono (m1.trans (mm.trans m2)))).wipe vs
          have er' := er
          rw [bnd_app (lcI it gx ft fe (wipeF f vs) (m + 1) i acc)] at er'
          unfold lcI at er'
          simp only [en] at er'
          have ob := o1
          rw [← er, er'] at ob
          cases eg : gx d (wipeF f vs) with
          | none => simp only [eg] at ob; exact ob.elim
          | some f' =>
            simp only [eg] at ob er'
            refine ⟨μ2, wipeF f vs, f', d, hF, rx, eg, fun σ2 hf2 w2 => ⟨(w2 vs hsl).trans (wipe_sub fun _ h => h), μ2, f', s', rs2, hf2, ?_⟩⟩
            cases et : ft f' s' with
            | bad => simp only [et] at ob; exact ob.elim
            | err c v s2 => simp only [et] at ob; exact ob.elim
            | ok b s2 =>
              simp only [et] at ob er'
              intro μ3 H3 b' m3 rs3 eb
              have eb : b' = b := eb
              subst eb
              cases b' with
              | false =>
                simp only at er' ob
                rw [if_neg Bool.false_ne_true]
                have mt := mm.trans (m2.trans m3)
                have md := m2.trans m3
                exact ⟨μ3, s2, acc, accV, mt, fun z => (by have := md.new D z hDm; rw [hDl] at this; cases this), by rw [md.keep D hDm (by rw [hDl]; simp)]; exact hDl, ra.mono md, hz, rs3, er'⟩
              | true =>
                simp only at er' ob
                rw [if_pos rfl]
                refine ⟨μ3, f', s2, rs3, hf2.mono m3, ?_⟩
                cases ee : fe f' s2 with
                | bad => simp only [ee] at ob; exact ob.elim
                | err c v s3 => simp only [ee] at ob; exact ob.elim
                | ok yd s3 =>
                  simp only [ee] at ob er'
                  intro μ4 H4 yv m4 rs4 ry
                  have md := m2.trans (m3.trans m4)
                  have mt := mm.trans md
                  have hD4 : H4 D = some (.lst accV) := by rw [md.keep D hDm (by rw [hDl]; simp)]; exact hDl
                  have hDm4 : D ∉ μ4 := fun z => by have := md.new D z hDm; rw [hDl] at this; cases this
                  by_cases hlen : acc.length < LIM
                  · rw [if_pos hlen] at er' ob
                    have ra4 : RVs X.K μ4 H4 accV acc := ra.mono md
                    refine ⟨accV, hD4, by rw [RVs.length ra4, lim_eq]; exact hlen, μ4, s3, acc ++ [yd], accV ++ [yv], mt.skip hD hDm4, hDm4, upd_same, ?_, by simp; omega, rs4.out hD4 hDm4, er'⟩
                    exact RVs.mono0 (mono0_lst hD4) (ra4.append (.cons ry .nil))
                  · rw [if_neg hlen] at ob; exact ob.elim

theorem x_lc {elt iter : Expr} {ifs : List Expr} {scope : Scope} {own : List (Str × Nat)} {sl : List Nat} {fi : IX} {gx : GX} {ft : TX} {fe : EX} (hc : X.calm = true) (hN : X.N.Nodup) (hi : PI X tg iter (tI (pk X ca) W fi)) (ok : BlkOk X.N X.env.scope scope own)
    (hg : ∀ (s : Shared) (H : Hp) (C : Addr) (cl : List (Str × Addr)) (fp : List Addr), PG (X.blk s H scope (compEnvC scope cl C X.env) fp) tg (tG (pk X ca) sl gx)) (ht : ∀ (s : Shared) (H : Hp) (C : Addr) (cl : List (Str × Addr)) (fp : List Addr), PTs (X.blk s H scope (compEnvC scope cl C X.env) fp) ifs (tT (pk X ca) Wn ft))
    (he : ∀ (s : Shared) (H : Hp) (C : Addr) (cl : List (Str × Addr)) (fp : List Addr), PE (X.blk s H scope (compEnvC scope cl C X.env) fp) elt (tE (pk X ca) Wn fe)) (hsl : ∀ j ∈ sl, j ∈ own.map (·.2)) (hs : ∀ x, foldedSetIterable iter X.env x = pure x) :
    PE X (.ListComp elt [⟨tg, iter, ifs, 0⟩] scope pos) (tE (pk X ca) W (eLc (own.map (·.2)) fi gx ft fe)) :=
  PE.imp (pe_lc hc hN hi ok hg ht he hs) fun σ H Q h => lc_imp hsl h
theorem x_setLc {i : Nat} {y : Str} {py : Pos} {elt iter : Expr} {ifs : List Expr} {scope : Scope} {own : List (Str × Nat)} {sl : List Nat} {fi : IX} {gx : GX} {ft : TX} {fe : EX} {spos : Pos} (hc : X.calm = true) (hN : X.N.Nodup) (hy : X.N[i]? = some y) (hyl : X.env.scope.names.lookup y = some .local)
    (hsw : swapsWith (.ListComp elt [⟨tg, iter, ifs, 0⟩] scope pos) (some (.Name y py)) spos.line X.env = pure true) (hi : PI X tg iter (tI (pk X ca) W fi)) (ok : BlkOk X.N X.env.scope scope own)
    (hg : ∀ (s : Shared) (H : Hp) (C : Addr) (cl : List (Str × Addr)) (fp : List Addr), PG (X.blk s H scope (compEnvC scope cl C X.env) fp) tg (tG (pk X ca) sl gx)) (ht : ∀ (s : Shared) (H : Hp) (C : Addr) (cl : List (Str × Addr)) (fp : List Addr), PTs (X.blk s H scope (compEnvC scope cl C X.env) fp) ifs (tT (pk X ca) Wn ft))
    (he : ∀ (s : Shared) (H : Hp) (C : Addr) (cl : List (Str × Addr)) (fp : List Addr), PE (X.blk s H scope (compEnvC scope cl C X.env) fp) elt (tE (pk X ca) Wn fe)) (hsl : ∀ j ∈ sl, j ∈ own.map (·.2)) (hs : ∀ x, foldedSetIterable iter X.env x = pure x) :
    PS X (.Assign [.Name y py] (.ListComp elt [⟨tg, iter, ifs, 0⟩] scope pos) spos) (tAsg (tE (pk X ca) W (eLc (own.map (·.2)) fi gx ft fe)) (gName i)) :=
  PS.imp (ps_setLc hc hN hy hyl hsw hi ok hg ht he hs) fun D σ H h => lc_imp hsl h
end
end LG
set_option Elab.async false
set_option linter.all false
set_option maxRecDepth 100000
/-! LG11: statements. -/
namespace LG
open PySem PySem.Spec PyProof.Rows L2

def SOut (P : PK) (W : WX) (D : Ends) (μ : List Addr) (H : Hp) (r : SR) : Prop := match r with
  | .next f s => ∀ μ' H' σ', Mono P.K μ H μ' H' → RS P μ' H' s → RF P μ' H' σ' f → D.nx σ' H'
  | .ret d s => ∀ μ' H' v, Mono P.K μ H μ' H' → RS P μ' H' s → RV P.K μ' H' v d → D.rt v H'
  | .brk f s => ∀ μ' H' σ', Mono P.K μ H μ' H' → RS P μ' H' s → RF P μ' H' σ' f → D.bk σ' H'
  | .cont f s => ∀ μ' H' σ', Mono P.K μ H μ' H' → RS P μ' H' s → RF P μ' H' σ' f → D.ct σ' H'
  | .err f c x s => ∀ μ' H' σ' d v, Mono P.K μ H μ' H' → RS P μ' H' s → RF P μ' H' σ' f → RV P.K μ' H' v x → H' d = some (.xd [(valF, v)]) → W (.ref (P.ca c)) (some d) σ' H'
  | .bad => False
theorem SOut.mono {P : PK} {W : WX} {D : Ends} {μ μ1 : List Addr} {H H1 : Hp} {r : SR} (o : SOut P W D μ H r) (m : Mono P.K μ H μ1 H1) : SOut P W D μ1 H1 r := by
  cases r with
  | next f s => exact fun μ' H' σ' m' => o μ' H' σ' (m.trans m')
  | ret d s => exact fun μ' H' v m' => o μ' H' v (m.trans m')
  | brk f s => exact fun μ' H' σ' m' => o μ' H' σ' (m.trans m')
  | cont f s => exact fun μ' H' σ' m' => o μ' H' σ' (m.trans m')
  | err f c x s => exact fun μ' H' σ' d v m' => o μ' H' σ' d v (m.trans m')
  | bad => exact o
abbrev tSt (P : PK) (W : WX) (m : SX) : TS := fun D σ H => ∃ μ f s, RS P μ H s ∧ RF P μ H σ f ∧ SOut P W D μ H (m f s)

section
variable {P : PK} {W : WX}
theorem slift {α ω : Type} {R : List Addr → Hp → ω → α → Prop} {m : Fr → M α} {k : α → SX} {D : Ends} {σ : L2.St} {H : Hp} (h : tSt P W (sLift m k) D σ H) :
    tX P W R m σ H fun v H1 => ∃ μ1 a f s1, RS P μ1 H1 s1 ∧ RF P μ1 H1 σ f ∧ R μ1 H1 v a ∧ SOut P W D μ1 H1 (k a f s1) := by
  obtain ⟨μ, f, s, hs, hf, o⟩ := h
  refine ⟨μ, f, s, hs, hf, ?_⟩
  unfold sLift at o
  cases e : m f s with
  | ok a s1 =>
    rw [e] at o
    exact fun μ' H' v m' r q => ⟨μ', a, f, s1, r, hf.mono m', q, SOut.mono o m'⟩
  | err c v s1 =>
    rw [e] at o
    exact fun μ' H' d v m' r q hd => o μ' H' σ d v m' r (hf.mono m') q hd
  | bad => rw [e] at o; exact o
end

section
variable {X : Cx} {ca : Nat → Addr} {W : WX} {pos : Pos} {tg : Expr}
theorem s_pass : PS X (.Pass pos) (tSt (pk X ca) W sSkip) := PS.imp ps_pass fun D σ H h => by
  obtain ⟨μ, f, s, hs, hf, o⟩ := h
  exact o μ H σ Mono.refl hs hf
theorem s_doc {x j pos pos'} : PS X (.Expr (.Constant (.str x) j pos) pos') (tSt (pk X ca) W sSkip) := PS.imp ps_doc fun D σ H h => by
  obtain ⟨μ, f, s, hs, hf, o⟩ := h
  exact o μ H σ Mono.refl hs hf
theorem s_break : PS X (.Break pos) (tSt (pk X ca) W sBrk) := PS.imp ps_break fun D σ H h => by
  obtain ⟨μ, f, s, hs, hf, o⟩ := h
  exact o μ H σ Mono.refl hs hf
theorem s_cont : PS X (.Continue pos) (tSt (pk X ca) W sCont) := PS.imp ps_continue fun D σ H h => by
  obtain ⟨μ, f, s, hs, hf, o⟩ := h
  exact o μ H σ Mono.refl hs hf
theorem s_retN : PS X (.Return none pos) (tSt (pk X ca) W sRetN) := PS.imp ps_retN fun D σ H h => by
  obtain ⟨μ, f, s, hs, hf, o⟩ := h
  exact o μ H .non Mono.refl hs .non
theorem s_expr {e : Expr} {a : EX} (he : PE X e (tE (pk X ca) W a)) (hs : swapsWith e none pos.line X.env = pure false) : PS X (.Expr e pos) (tSt (pk X ca) W (sExpr a)) :=
  PS.imp (ps_expr he hs) fun D σ H h => by
    obtain ⟨μ, f, s, hs, hf, o⟩ := slift (R := RE (pk X ca)) h
    exact ⟨μ, f, s, hs, hf, Out.imp o fun v H1 h1 => by
      obtain ⟨μ1, a1, f1, s1, r1, hf1, q1, o1⟩ := h1
      exact o1 μ1 H1 σ Mono.refl r1 hf1⟩
theorem s_ret {e : Expr} {a : EX} (he : PE X e (tE (pk X ca) W a)) : PS X (.Return (some e) pos) (tSt (pk X ca) W (sRet a)) :=
  PS.imp (ps_ret he) fun D σ H h => by
    obtain ⟨μ, f, s, hs, hf, o⟩ := slift (R := RE (pk X ca)) h
    exact ⟨μ, f, s, hs, hf, Out.imp o fun v H1 h1 => by
      obtain ⟨μ1, a1, f1, s1, r1, hf1, q1, o1⟩ := h1
      exact o1 μ1 H1 v Mono.refl r1 q1⟩
theorem s_if {c : Expr} {a b : List Stmt} {t : TX} {x y : SX} (hc : PT X c (tT (pk X ca) W t)) (ha : PSs X a (tSt (pk X ca) W x)) (hb : PSs X b (tSt (pk X ca) W y)) : PS X (.If c a b pos) (tSt (pk X ca) W (sIf t x y)) :=
  PS.imp (ps_if hc ha hb) fun D σ H h => by
    obtain ⟨μ, f, s, hs, hf, o⟩ := slift (R := RB') h
    refine ⟨μ, f, s, hs, hf, Out.imp o fun v H1 h1 => ?_⟩
    obtain ⟨μ1, a1, f1, s1, r1, hf1, q1, o1⟩ := h1
    have e : v = a1 := q1
    subst e
    cases v with
    | true => exact ⟨μ1, f1, s1, r1, hf1, o1⟩
    | false => exact ⟨μ1, f1, s1, r1, hf1, o1⟩
theorem ss_nil : PSs X [] (tSt (pk X ca) W sSkip) := PSs.imp pss_nil fun D σ H h => by
  obtain ⟨μ, f, s, hs, hf, o⟩ := h
  exact o μ H σ Mono.refl hs hf
theorem ss_one {st : Stmt} {a : SX} (h : PS X st (tSt (pk X ca) W a)) : PSs X [st] (tSt (pk X ca) W a) := pss_one h
theorem sseq {P : PK} {a b : SX} {D : Ends} {σ : L2.St} {H : Hp} (h : tSt P W (sSeq a b) D σ H) : tSt P W a { D with nx := tSt P W b D } σ H := by
  obtain ⟨μ, f, s, hs, hf, o⟩ := h
  refine ⟨μ, f, s, hs, hf, ?_⟩
  unfold sSeq at o
  cases e : a f s with
  | next f' s' =>
    rw [e] at o
    exact fun μ' H' σ' m r q => ⟨μ', f', s', r, q, SOut.mono o m⟩
  | ret d s' => rw [e] at o; exact o
  | brk f' s' => rw [e] at o; exact o
  | cont f' s' => rw [e] at o; exact o
  | err f' c v s' => rw [e] at o; exact o
  | bad => rw [e] at o; exact o
theorem ss_cons {st : Stmt} {rest : List Stmt} {a b : SX} (h1 : PS X st (tSt (pk X ca) W a)) (h2 : PSs X rest (tSt (pk X ca) W b)) : PSs X (st :: rest) (tSt (pk X ca) W (sSeq a b)) :=
  PSs.imp (pss_cons h1 h2) fun D σ H h => sseq h
/-! ### loops -/
theorem s_while {c : Expr} {body : List Stmt} {t : TX} {b : SX} (hp : PassesOwn (model X.prog X.w) X.A X.env X.xe) (hc : PT X c (tT (pk X ca) W t)) (hb : PSs X body (tSt (pk X ca) W b)) : PS X (.While c body [] pos) (tSt (pk X ca) W (sWhile t b)) :=
  PS.imp (ps_while hp hc hb) fun D σ H h => by
    refine ⟨fun m σ H => tSt (pk X ca) W (whileI t b m) D σ H, ⟨LF, h⟩, fun m σ H h => ?_⟩
    cases m with
    | zero => obtain ⟨μ, f, s, hs, hf, o⟩ := h; exact o.elim
    | succ m =>
      obtain ⟨μ, f, s, hs, hf, o⟩ := h
      refine ⟨μ, f, s, hs, hf, ?_⟩
      unfold whileI at o
      cases e : t f s with
      | bad => rw [e] at o; exact o
      | err c v s1 =>
        rw [e] at o
        exact fun μ' H' d v m r q hd => o μ' H' σ d v m r (hf.mono m) q hd
      | ok k s1 =>
        rw [e] at o
        intro μ1 H1 v m1 r1 ev
        have ev : v = k := ev
        subst ev
        cases v with
        | false => exact o μ1 H1 σ m1 r1 (hf.mono m1)
        | true =>
          refine ⟨fun σ H => tSt (pk X ca) W (whileI t b m) D σ H, fun σ' H' h => ⟨m, Nat.lt_succ_self m, h⟩, μ1, f, s1, r1, hf.mono m1, ?_⟩
          simp only at o
          have o := SOut.mono o m1
          cases eb : b f s1 with
          | next f2 s2 => simp only [eb] at o; exact fun μ' H' σ' m' r q => ⟨μ', f2, s2, r, q, SOut.mono o m'⟩
          | cont f2 s2 => simp only [eb] at o; exact fun μ' H' σ' m' r q => ⟨μ', f2, s2, r, q, SOut.mono o m'⟩
          | brk f2 s2 => simp only [eb] at o; exact o
          | ret d s2 => simp only [eb] at o; exact o
          | err f2 c v s2 => simp only [eb] at o; exact o
          | bad => simp only [eb] at o; exact o
theorem s_for {iter : Expr} {body : List Stmt} {fi : IX} {sl : List Nat} {gx : GX} {b : SX} (hp : PassesOwn (model X.prog X.w) X.A X.env X.xe) (hc : X.calm = true) (hi : PI X tg iter (tI (pk X ca) W fi)) (hg : PG X tg (tG (pk X ca) sl gx)) (hb : PSs X body (tSt (pk X ca) W b))
    (hs : ∀ x, foldedSetIterable iter X.env x = pure x) : PS X (.For tg iter body [] pos) (tSt (pk X ca) W (sFor fi gx b)) :=
  PS.imp (ps_for hp hc hi hg hb hs) fun D σ H h => by
    obtain ⟨μ, f, s, hs, hf, o⟩ := slift (R := ItR (pk X ca)) h
    refine ⟨μ, f, s, hs, hf, Out.imp o fun J H1 h1 => ?_⟩
    obtain ⟨μ1, it, f1, s1, r1, hf1, q1, o1⟩ := h1
    refine ⟨fun i m σ H => ∃ μ f s, Mono X.K μ1 H1 μ H ∧ RS (pk X ca) μ H s ∧ RF (pk X ca) μ H σ f ∧ SOut (pk X ca) W D μ H (forI it gx b m i f s), ⟨LF, μ1, f1, s1, Mono.refl, r1, hf1, o1⟩, ?_⟩
    rintro i m σ H ⟨μ, f, s, mm, rs, rf, o⟩
    cases m with
    | zero => exact o.elim
    | succ m =>
      obtain ⟨itStop, itGo⟩ := q1 μ H s i mm rs
      unfold forI at o
      cases en : nextI s it i with
      | none => simp only [en] at o; exact o.elim
      | some r =>
        cases r with
        | none =>
          simp only [en] at o
          exact .inl ⟨itStop en, o μ H σ Mono.refl rs rf⟩
        | some d =>
          obtain ⟨go, yl⟩ := itGo d en
          simp only [en] at o
          refine .inr ⟨go, fun σ H => ∃ μ f s, Mono X.K μ1 H1 μ H ∧ RS (pk X ca) μ H s ∧ RF (pk X ca) μ H σ f ∧ SOut (pk X ca) W D μ H (forI it gx b m (i + 1) f s), fun σ' H' h => ⟨m, Nat.lt_succ_self m, h⟩, fun x H2 y => ?_⟩
          obtain ⟨μ2, m2, rs2, rx⟩ := yl x H2 y
          cases eg : gx d f with
          | none => simp only [eg] at o; exact o.elim
          | some f' =>
            simp only [eg] at o
            have o := SOut.mono o m2
            refine ⟨μ2, f, f', d, rf.mono m2, rx, eg, fun σ2 hf2 _ => ⟨μ2, f', s, rs2, hf2, ?_⟩⟩
            cases eb : b f' s with
            | next f2 s2 => simp only [eb] at o; exact fun μ' H' σ' m' r q => ⟨μ', f2, s2, mm.trans (m2.trans m'), r, q, SOut.mono o m'⟩
            | cont f2 s2 => simp only [eb] at o; exact fun μ' H' σ' m' r q => ⟨μ', f2, s2, mm.trans (m2.trans m'), r, q, SOut.mono o m'⟩
            | brk f2 s2 => simp only [eb] at o; exact o
            | ret d s2 => simp only [eb] at o; exact o
            | err f2 c v s2 => simp only [eb] at o; exact o
            | bad => simp only [eb] at o; exact o
/-! ### assignments -/
theorem asg_imp {sl : List Nat} {gx : GX} {a : EX} {D : Ends} {σ : L2.St} {H : Hp} (h : tSt (pk X ca) W (sAsg gx a) D σ H) : tE (pk X ca) W a σ H fun x H1 => tG (pk X ca) sl gx x σ H1 D.nx := by
  obtain ⟨μ, f, s, hs, hf, o⟩ := slift (R := RE (pk X ca)) h
  refine ⟨μ, f, s, hs, hf, Out.imp o fun v H1 h1 => ?_⟩
  obtain ⟨μ1, d, f1, s1, r1, hf1, q1, o1⟩ := h1
  cases eg : gx d f1 with
  | none => simp only [eg] at o1; exact o1.elim
  | some f' =>
    simp only [eg] at o1
    exact ⟨μ1, f1, f', d, hf1, q1, eg, fun σ' hf' _ => o1 μ1 H1 σ' Mono.refl r1 hf'⟩
theorem s_asg {e : Expr} {a : EX} {sl : List Nat} {gx : GX} (he : PE X e (tE (pk X ca) W a)) (hg : PG X tg (tG (pk X ca) sl gx)) (hs : swapsWithSole [tg] e pos.line X.env = pure false) (hw : swappedStores [tg] e X.env = pure none)
    (h1 : (assignEach [tg] X.env).map (·.2) = [assign tg X.env]) : PS X (.Assign [tg] e pos) (tSt (pk X ca) W (sAsg gx a)) :=
  PS.imp (ps_asg he hg hs hw h1) fun D σ H h => asg_imp h
theorem s_setN {i : Nat} {x : Str} {e : Expr} {a : EX} {pos' : Pos} (hN : X.N.Nodup) (hi : X.N[i]? = some x) (hx : Loc X.env.scope x) (he : PE X e (tE (pk X ca) W a)) (hs : swapsWith e (some (.Name x pos')) pos.line X.env = pure false) (hf : X.fn x = true ∨ X.env.scope.names.lookup x = some .local) :
    PS X (.Assign [.Name x pos'] e pos) (tSt (pk X ca) W (sAsg (gVar i) a)) :=
  PS.imp (ps_set hN hi hx he hs hf) fun D σ H h => by
    obtain ⟨μ, f, s, hs, hf, o⟩ := slift (R := RE (pk X ca)) h
    refine ⟨μ, f, s, hs, hf, Out.imp o fun v H1 h1 => ?_⟩
    obtain ⟨μ1, d, f1, s1, r1, hf1, q1, o1⟩ := h1
    exact o1 μ1 H1 _ Mono.refl r1 (hf1.set q1 i)
theorem s_setLc {i : Nat} {y : Str} {py : Pos} {elt iter : Expr} {ifs : List Expr} {scope : Scope} {own : List (Str × Nat)} {sl : List Nat} {fi : IX} {gx : GX} {ft : TX} {fe : EX} {spos : Pos} (hc : X.calm = true) (hN : X.N.Nodup) (hy : X.N[i]? = some y) (hyl : X.env.scope.names.lookup y = some .local)
    (hsw : swapsWith (.ListComp elt [⟨tg, iter, ifs, 0⟩] scope pos) (some (.Name y py)) spos.line X.env = pure true) (hi : PI X tg iter (tI (pk X ca) W fi)) (ok : BlkOk X.N X.env.scope scope own)
    (hg : ∀ (s : Shared) (H : Hp) (C : Addr) (cl : List (Str × Addr)) (fp : List Addr), PG (X.blk s H scope (compEnvC scope cl C X.env) fp) tg (tG (pk X ca) sl gx)) (ht : ∀ (s : Shared) (H : Hp) (C : Addr) (cl : List (Str × Addr)) (fp : List Addr), PTs (X.blk s H scope (compEnvC scope cl C X.env) fp) ifs (tT (pk X ca) Wn ft))
    (he : ∀ (s : Shared) (H : Hp) (C : Addr) (cl : List (Str × Addr)) (fp : List Addr), PE (X.blk s H scope (compEnvC scope cl C X.env) fp) elt (tE (pk X ca) Wn fe)) (hsl : ∀ j ∈ sl, j ∈ own.map (·.2)) (hs : ∀ x, foldedSetIterable iter X.env x = pure x) :
    PS X (.Assign [.Name y py] (.ListComp elt [⟨tg, iter, ifs, 0⟩] scope pos) spos) (tSt (pk X ca) W (sAsg (gVar i) (eLc (own.map (·.2)) fi gx ft fe))) :=
  PS.imp (x_setLc (W := W) hc hN hy hyl hsw hi ok hg ht he hsl hs) fun D σ H h => by
    obtain ⟨μ, f, s, hs, hf, o⟩ := slift (R := RE (pk X ca)) h
    refine ⟨μ, f, s, hs, hf, Out.imp o fun v H1 h1 => ?_⟩
    obtain ⟨μ1, d, f1, s1, r1, hf1, q1, o1⟩ := h1
    exact o1 μ1 H1 _ Mono.refl r1 (hf1.set q1 i)
theorem pset_all (hu : X.A.units + 64 < cLine) : PSet X fun o i v H Q => ∃ σ₀, rSet (pk X ca) W σ₀ o i v H Q :=
  fun pins s σ H o i v ov iv u Q I ro ri rv ⟨σ₀, q⟩ => ok_setI hu (σ₀ := σ₀) pins s σ H o i v ov iv u Q I ro ri rv q
theorem setI_noErr {a b c : LG.D} {s s' : Sto} {k : Nat} {v : LG.D} : setI a b c s ≠ .err k v s' := by
  unfold setI
  intro h
  repeat' (split at h)
  all_goals cases h
theorem s_setI {o i e : Expr} {fo fi fe : EX} {p : Pos} (hu : X.A.units + 64 < cLine) (ho : PE X o (tE (pk X ca) W fo)) (hi : PE X i (tE (pk X ca) W fi)) (he : PE X e (tE (pk X ca) W fe))
    (ha : ∀ v, assign (.Subscript o i p) X.env v = (do
      let ov ← holding [v] (eval o X.env)
      let iv ← holding [v, ov] (eval i X.env)
      standAt p
      holding [v, ov, iv] (setItem ov iv v)
      release [v, ov, iv] []))
    (hs : swapsWithSole [.Subscript o i p] e pos.line X.env = pure false) (hw : swappedStores [.Subscript o i p] e X.env = pure none) :
    PS X (.Assign [.Subscript o i p] e pos) (tSt (pk X ca) W (sSetI fo fi fe)) :=
  PS.imp (ps_asg he (pg_sub ho hi (pset_all hu (ca := ca) (W := W)) ha) hs hw rfl) fun D σ H h => by
    obtain ⟨μ, f, s, hs, hf, o⟩ := slift (R := fun _ _ (_ : Unit) (_ : Unit) => True) h
    refine ⟨μ, f, s, hs, hf, Out.imp (Out.bnd o) fun v H1 h1 => ?_⟩
    obtain ⟨μ1, dv, s1, m1, r1, q1, o1⟩ := h1
    refine ⟨μ1, f, s1, r1, hf.mono m1, Out.imp (Out.bnd o1) fun x H2 h2 => ?_⟩
    obtain ⟨μ2, dx, s2, m2, r2, q2, o2⟩ := h2
    refine ⟨μ2, f, s2, r2, (hf.mono m1).mono m2, Out.imp (Out.bnd o2) fun y H3 h3 => ?_⟩
    obtain ⟨μ3, dy, s3, m3, r3, q3, o3⟩ := h3
    refine ⟨σ, μ3, dx, dy, dv, s3, r3, q2.mono m3, q3, (q1.mono m2).mono m3, Out.imp o3 fun _ H4 h4 => ?_⟩
    obtain ⟨μ4, _, f4, s4, r4, hf4, _, o4⟩ := h4
    exact o4 μ4 H4 σ Mono.refl r4 hf4
theorem pip_all {o : Operator} {op : Op2} (h : ∀ σ₀, PIp X o (rOp (pk X ca) W σ₀ op)) : PIp X o (fun x y H Q => ∃ σ₀, rOp (pk X ca) W σ₀ op x y H Q) :=
  fun pins s σ H x y v u Q I rx ry ⟨σ₀, q⟩ => h σ₀ pins s σ H x y v u Q I rx ry q
theorem s_aug {i : Nat} {x : Str} {e : Expr} {a : EX} {o : Operator} {op : Op2} {pos' : Pos} (hN : X.N.Nodup) (hi : X.N[i]? = some x) (hx : Loc X.env.scope x) (he : PE X e (tE (pk X ca) W a)) (ho : ∀ σ₀, PIp X o (rOp (pk X ca) W σ₀ op)) (hf : X.fn x = true ∨ X.env.scope.names.lookup x = some .local) :
    PS X (.AugAssign (.Name x pos') o e pos) (tSt (pk X ca) W (sAug i op a)) :=
  PS.imp (ps_aug hN hi hx he (pip_all ho) hf) fun D σ H h => by
    obtain ⟨μ, f, s, hs, hf, o⟩ := slift (R := RE (pk X ca)) h
    have o' := Out.bnd (R := RE (pk X ca)) o
    unfold eVar at o'
    cases e1 : f[i]? with
    | none => simp only [e1] at o'; exact o'.elim
    | some z =>
      cases z with
      | none => simp only [e1] at o'; exact o'.elim
      | some d =>
        obtain ⟨v, h1, h2⟩ := hf.at_ i d e1
        simp only [e1] at o'
        obtain ⟨μ1, d1, s1, m1, r1, q1, o1⟩ := o'.ok hs h2
        refine ⟨v, h1, μ1, f, s1, r1, hf.mono m1, Out.imp (Out.bnd o1) fun y H2 h3 => ?_⟩
        obtain ⟨μ2, d2, s2, m2, r2, q2, o2⟩ := h3
        refine ⟨σ, μ2, d1, d2, s2, r2, q1.mono m2, q2, Out.imp o2 fun z H3 h4 => ?_⟩
        obtain ⟨μ3, d3, f3, s3, r3, hf3, q3, o3⟩ := h4
        exact o3 μ3 H3 _ Mono.refl r3 (hf3.set q3 i)
theorem ip_addI {σ₀ : L2.St} : PIp X .Add (rOp (pk X ca) W σ₀ opAddI) := fun pins s σ H x y v u Q I rx ry h => by
  obtain ⟨μ, a, b, st, hs, ha, hb, o⟩ := h
  cases ha with
  | int i =>
    cases hb with
    | int j => exact ip_add pins s σ H _ _ v u Q I rx ry ⟨i, j, rfl, rfl, o.here hs (.int _)⟩
    | _ => exact o.elim
  | _ => exact o.elim
theorem ip_subI {σ₀ : L2.St} : PIp X .Sub (rOp (pk X ca) W σ₀ opSub) := fun pins s σ H x y v u Q I rx ry h => by
  obtain ⟨μ, a, b, st, hs, ha, hb, o⟩ := h
  cases ha with
  | int i =>
    cases hb with
    | int j => exact ip_sub pins s σ H _ _ v u Q I rx ry ⟨i, j, rfl, rfl, o.here hs (.int _)⟩
    | _ => exact o.elim
  | _ => exact o.elim
/-- two names at once -/
theorem s_par2 {i j : Nat} {x y : Str} {a b : Expr} {fa : AX} {px py pt : Pos} {kt k2 pt2} (hc : X.calm = true) (hN : X.N.Nodup) (hi : X.N[i]? = some x) (hj : X.N[j]? = some y) (hij : i ≠ j)
    (hx : X.env.scope.names.lookup x = some .local) (hy : X.env.scope.names.lookup y = some .local) (ha : PA X [a, b] (tA (pk X ca) W fa))
    (hw : swappedStores [.Tuple [.Name x px, .Name y py] kt pt] (.Tuple [a, b] k2 pt2) X.env = pure (some [x, y])) :
    PS X (.Assign [.Tuple [.Name x px, .Name y py] kt pt] (.Tuple [a, b] k2 pt2) pos) (tSt (pk X ca) W (sPar [i, j] fa)) :=
  PS.imp (ps_par hc hN hi hj hij hx hy ha hw) fun D σ H h => by
    obtain ⟨μ, f, s, hs, hf, o⟩ := slift (R := RA (pk X ca)) h
    refine ⟨μ, f, s, hs, hf, Out.imp o fun vs H1 h1 => ?_⟩
    obtain ⟨μ1, ds, f1, s1, r1, hf1, q1, o1⟩ := h1
    cases q1 with
    | nil => exact o1.elim
    | @cons v1 d1 vr dr q1 qr =>
      cases qr with
      | nil => exact o1.elim
      | @cons v2 d2 vr dr q2 qr =>
        cases qr with
        | cons _ _ => exact o1.elim
        | nil =>
          refine ⟨v1, v2, rfl, ?_⟩
          rw [List.set_comm _ _ hij]
          exact o1 μ1 H1 _ Mono.refl r1 ((hf1.set q2 j).set q1 i)
theorem s_par3 {i j l : Nat} {x y z : Str} {a b c : Expr} {fa : AX} {px py pz pt : Pos} {kt k2 pt2} (hc : X.calm = true) (hN : X.N.Nodup) (hi : X.N[i]? = some x) (hj : X.N[j]? = some y) (hl : X.N[l]? = some z) (hij : i ≠ j) (hil : i ≠ l) (hjl : j ≠ l)
    (hx : X.env.scope.names.lookup x = some .local) (hy : X.env.scope.names.lookup y = some .local) (hz : X.env.scope.names.lookup z = some .local) (ha : PA X [a, b, c] (tA (pk X ca) W fa))
    (hw : swappedStores [.Tuple [.Name x px, .Name y py, .Name z pz] kt pt] (.Tuple [a, b, c] k2 pt2) X.env = pure (some [x, y, z])) :
    PS X (.Assign [.Tuple [.Name x px, .Name y py, .Name z pz] kt pt] (.Tuple [a, b, c] k2 pt2) pos) (tSt (pk X ca) W (sPar [i, j, l] fa)) :=
  PS.imp (ps_par3 hc hN hi hj hl hij hil hjl hx hy hz ha hw) fun D σ H h => by
    obtain ⟨μ, f, s, hs, hf, o⟩ := slift (R := RA (pk X ca)) h
    refine ⟨μ, f, s, hs, hf, Out.imp o fun vs H1 h1 => ?_⟩
    obtain ⟨μ1, ds, f1, s1, r1, hf1, q1, o1⟩ := h1
    cases q1 with
    | nil => exact o1.elim
    | @cons v1 d1 vr dr q1 qr =>
      cases qr with
      | nil => exact o1.elim
      | @cons v2 d2 vr dr q2 qr =>
        cases qr with
        | nil => exact o1.elim
        | @cons v3 d3 vr dr q3 qr =>
          cases qr with
          | cons _ _ => exact o1.elim
          | nil =>
            refine ⟨v1, v2, v3, rfl, ?_⟩
            rw [List.set_comm (some v2) (some v3) hjl, List.set_comm (some v1) (some v3) hil, List.set_comm (some v1) (some v2) hij]
            exact o1 μ1 H1 _ Mono.refl r1 (((hf1.set q3 l).set q2 j).set q1 i)
end
end LG
set_option Elab.async false
set_option linter.all false
set_option maxRecDepth 100000
/-! LGE: displays of dicts. -/
namespace LG
open PySem PySem.Spec PyProof.Rows L2
section
variable {X : Cx} {ca : Nat → Addr} {W : WX} {pos : Pos}
theorem x_dct : PE X (.Dict [] [] pos) (tE (pk X ca) W eDct) := ⟨fun pins s σ H Q I h => by
  obtain ⟨μ, f, st, hs, hf, o⟩ := h
  have hp : H s.heap.objs.size = none := I.hok.fresh (Nat.le_refl _)
  refine wpAny_Dict_empty ⟨.ref s.heap.objs.size, _, dct_new I, rfl, ?_⟩
  have hsm : (s.heap.objs.size == sysModules) = false := beq_eq_false_iff_ne.mpr (Ne.symm (Nat.ne_of_lt I.big))
  refine o (μ ++ [s.heap.objs.size]) _ _ (mono_new hp) (hs.push hp ⟨[], upd_same, .nil, List.nodup_nil, Nat.zero_le _, hsm⟩) (.ref ?_)
  rw [← hs.len]
  simp⟩
theorem RS.adoptD {P : PK} {μ : List Addr} {H : Hp} {s : Sto} (r : RS P μ H s) {p : Addr} {ks ks' : List (Key × V)} {b : List (D × D)} (h : H p = some (.dK ks)) (hm : p ∉ μ) : RS P (μ ++ [p]) (upd H p (.dK ks')) (s ++ [.box b]) := by
  have m : Mono0 P.K μ H (μ ++ [p]) (upd H p (.dK ks')) := ⟨fun n a e => by
    obtain ⟨hn, _⟩ := List.getElem?_eq_some_iff.mp e
    rw [List.getElem?_append_left hn]; exact e, fun a xs e => by rw [upd_ne fun z => by rw [z, h] at e; cases e]; exact e, fun a ob u e => by rw [upd_ne fun z => by rw [z, h] at e; cases e]; exact e⟩
  refine ⟨by simp [r.len], ?_, fun n a y e1 e2 => ?_, fun a ha => ?_⟩
  · rw [List.nodup_append]
    refine ⟨r.nd, by simp, fun a h1 b h2 z => ?_⟩
    have : b = p := by simpa using h2
    exact hm (by rw [← this, ← z]; exact h1)
  · by_cases hn : n < s.length
    · rw [List.getElem?_append_left hn] at e2
      rw [List.getElem?_append_left (by rw [r.len]; exact hn)] at e1
      exact (r.ob n a y e1 e2).mono0 m (upd_ne fun z => hm (by rw [← z]; exact List.mem_of_getElem? e1)) fun d fs q => by rw [upd_ne fun z => by rw [z, h] at q; cases q]; exact q
    · have hn' : n = s.length := by
        obtain ⟨h1, _⟩ := List.getElem?_eq_some_iff.mp e2
        simp at h1; omega
      subst hn'
      rw [List.getElem?_append_right (Nat.le_refl _)] at e2
      rw [List.getElem?_append_right (by rw [r.len]; exact Nat.le_refl _)] at e1
      simp [r.len] at e1 e2
      subst e1; subst e2
      exact ⟨ks', upd_same⟩
  · rcases List.mem_append.mp ha with h' | h'
    · rw [upd_ne fun z => hm (by rw [← z]; exact h')]; exact r.nn a h'
    · have : a = p := by simpa using h'
      rw [this, upd_same]; simp
theorem x_box {k : Str} {j : Nat} {kp : Pos} {e : Expr} {fe : EX} (he : PE X e (tE (pk X ca) W fe)) : PE X (.Dict [some (.Constant (.str k) j kp)] [e] pos) (tE (pk X ca) W (eBox k.cps.toList fe)) := by
  refine PE.imp (pe_disp (pps_cons pe_str he pps_nil) rfl rfl (by simp) (by simp)) fun σ H Q h p hp => ?_
  obtain ⟨μ, f, s, hs, hf, o⟩ := h
  have hm : p ∉ μ := hs.fresh hp
  refine ⟨μ, f, s, hs.upd_free hp, hf.mono (mono_upd hp), ?_⟩
  unfold eBox LG.bnd at o
  cases q : fe f s with
  | bad => rw [q] at o; exact o
  | err c x s1 => rw [q] at o; exact Out.mono (r := .err c x s1) (α := D) (R := RE (pk X ca)) (Q := Q) o (mono_upd hp)
  | ok y s1 =>
    rw [q] at o
    intro μ1 H2 v m1 r1 q1
    have hp1 : p ∉ μ1 := fun z => by
      have := m1.new p z hm
      rw [upd_same] at this
      cases this
    have hH2 : H2 p = some (.dK []) := by rw [m1.keep p hm (by rw [upd_same]; simp), upd_same]
    refine ⟨hH2, [(.inr k, v)], rfl, by simp, ?_⟩
    refine o (μ1 ++ [p]) _ (.ref p) ⟨fun n a e => ?_, fun a xs e => ?_, fun a ob u e => ?_, fun a h1 h2 => ?_, fun a h1 h2 => ?_, fun a C d e => ?_⟩ (r1.adoptD hH2 hp1) (.ref ?_)
    · have := m1.ix n a e
      obtain ⟨hn, _⟩ := List.getElem?_eq_some_iff.mp this
      rw [List.getElem?_append_left hn]; exact this
    · have ne := ne_of_none e hp
      rw [upd_ne ne]; exact m1.tup a xs (by rw [upd_ne ne]; exact e)
    · have ne := ne_of_none e hp
      rw [upd_ne ne]; exact m1.frz a ob u (by rw [upd_ne ne]; exact e)
    · have ne : a ≠ p := fun z => h2 (by rw [z]; exact hp)
      rw [upd_ne ne, m1.keep a h1 (by rw [upd_ne ne]; exact h2), upd_ne ne]
    · rcases List.mem_append.mp h1 with h1 | h1
      · by_cases ne : a = p
        · rw [ne]; exact hp
        · have := m1.new a h1 h2
          rwa [upd_ne ne] at this
      · have : a = p := by simpa using h1
        rw [this]; exact hp
    · have ne := ne_of_none e hp
      rw [upd_ne ne]; exact m1.exc a C d (by rw [upd_ne ne]; exact e)
    · rw [← r1.len]; simp
end
end LG
set_option Elab.async false
set_option linter.all false
set_option maxRecDepth 100000
set_option maxHeartbeats 1000000
/-! LG12: the errors of lettersgone are made and raised. -/
namespace PySem
namespace LeX
open PySem.W PySem.Calls PyProof.Rows PySem.HandSPX
def iA (p1 p2 : Pos) : Arguments := { posonlyargs := [], args := [{ arg := "self", annotation := none, pos := p1 }, { arg := "value", annotation := none, pos := p2 }], vararg := none, kwonlyargs := [], kw_defaults := [], kwarg := none, defaults := [] }
def iB (r1 r2 r3 r4 r5 r6 q1 q2 q3 q4 : Pos) (j : Nat) : List Stmt := [.Expr (.Call (.Attribute (.Call (.Name "super" r1) [] [] r2) "__init__" r3) [.Constant (.str "lettersgone") j r4] [] r5) r6,
  .Assign [.Attribute (.Name "self" q1) "value" q2] (.Name "value" q3) q4]
/-- what the written part says of LetterError at D, and of its __init__, at fI -/
structure LeTxt (P : Program) (K : Frag) (D fI : Addr) : Prop where
  fn : ∃ (oc : Value) (od : Option Addr) (doc pm : Value) (an : Option Addr) (cda cc : Addr) (ct : Value) (osl : Array (Option Value)) (p1 p2 r1 r2 r3 r4 r5 r6 q1 q2 q3 q4 : Pos) (j : Nat) (iS : Scope),
    K.lookup fI = some ⟨oc, od, .func (ksFn "__init__" "LetterError.__init__" (iA p1 p2) (iB r1 r2 r3 r4 r5 r6 q1 q2 q3 q4 j) iS .none .none doc pm an (.ref cda) ct cc), osl⟩ ∧ codeIn K (.ref cda) "LetterError.__init__" = true ∧
    (r3.endLine == r5.line) = true ∧ iS.kind = .function ∧ iS.isCoroutine = false ∧ iS.isGenerator = false ∧ (∀ x ∈ iS.names, x.2 ≠ .cell) ∧ iS.names.lookup ("self" : Str) = some .local ∧ iS.names.lookup ("value" : Str) = some .local ∧
      iS.names.lookup ("super" : Str) = some .globalImplicit ∧ iS.names.lookup ("__class__" : Str) = some .free ∧
    (∃ (ccl : Value) (cdd : Option Addr) (vs : Array Value) (ccs : Array (Option Value)) (file : Str) (tf : Tok), K.lookup cda = some ⟨ccl, cdd, .fields vs, ccs⟩ ∧ vs[2]? = some (.str file tf) ∧ ((P.main.file : Str) == file) = true) ∧
    ∃ (cl : Value) (cld : Option Addr) (csl : Array (Option Value)), K.lookup cc = some ⟨cl, cld, .cell (some (.ref D)), csl⟩
  hD : (clsIn K D).isSome = true
  htop : (P.main.scope.names.lookup ("super" : Str)).isSome = false
  opq : nsIn K cStatics "thirdparty.any" = some none
/-- of a class at C -/
structure ExC (K : Frag) (D fI C : Addr) : Prop where
  cls : ∃ nm q N bs bm sn sub ab col dd k0 k1 k2 k3 k5, K.lookup C = some (excClassObj nm q C N bs bm true sn sub ab col dd k0 k1 k2 k3 k5 "ValueError.__new__") ∧ refsVE bm = true
  sa : findIn K (.ref C) "__setattr__" = some (some (.builtin "object.__setattr__"))
  ga : findIn K (.ref C) "__getattribute__" = some (some (.builtin "BaseException.__getattribute__"))
  gg : findIn K (.ref C) "__getattr__" = some none
  noN : findIn K (.ref C) "value" = some none
  iC : findIn K (.ref C) "__init__" = some (some (.ref fI))
  tC : typeIn K (.ref fI) = some (.type "function")
  kC : keepIn K (.ref C) = true
  exC : subIn K (.ref C) (.type "BaseException") = some true
  exV : subIn K (.ref C) (.type "ValueError") = some true
  tyC : typeIn K (.ref C) = some (.type "type")
  hdC : hasDictIn K C = true
  mro : mroIn K C (.ref D) = some true
  ini : ks_superIn K C D "__init__" = some (some (.builtin "ValueError.__init__"))
theorem boot_super : bootBuiltins "super" = some (.type "super") := by decide +kernel
theorem one_size (v : Value) : [v].length ≤ sizeLine := by
  rw [sizeLine_eq]
  exact (by decide : 1 ≤ 16777216)
theorem check_bound_v {M : Model} {A : Around} {E : Value → Shared → Prop} {h : Heap} {g : Array GenState} {d : Drawn} {t : Nat} {os : OsState} {nm q : Str} {C N : Addr} {bs bm bmB : List Value} {hdct : Bool} {sn : List Str} {sub : List Value} {ab : Bool} {col : Option Bool} {dd : Option Addr} {k0 k1 k2 k3 k5 : Option Value} {B newId initId : String}
    (F : ExcBaseFacts B newId initId bmB) {e : Addr} {oe : Obj} {rest : List Value} {Q : Unit → Shared → Prop}
    (hC : h.get? C = some (excClassObj nm q C N bs bm hdct sn sub ab col dd k0 k1 k2 k3 k5 newId)) (he : h.get? e = some oe) (hcls : oe.cls = .ref C) (hq : Q () ⟨h, g, d, t, os⟩) :
    wpAny M A (checkBoundCall initId ⟨.ref e :: rest, []⟩) Q E ⟨h, g, d, t, os⟩ := ESX.check_bound F hC he hcls hq
theorem call_bwV {prog : Program} {w : World} {A : Around} {E : Value → Shared → Prop} {h : Heap} {g : Array GenState} {d : Drawn} {t : Nat} {os : OsState}
    {nm q : Str} {C N : Addr} {bs bm : List Value} {hdct : Bool} {sn : List Str} {sub : List Value} {ab : Bool} {col : Option Bool} {dd : Option Addr} {k0 k1 k2 k3 k5 : Option Value} {u e t0 : Addr} {rest : List Value} {Q : Value → Shared → Prop}
    (hC : h.get? C = some (excClassObj nm q C N bs bm hdct sn sub ab col dd k0 k1 k2 k3 k5 "ValueError.__new__")) (he : h.get? e = some (excO C t0)) (hu : h.get? u = some (kxs_mw "ValueError.__init__" e)) (hrest : rest.length ≤ sizeLine)
    (hq : ∀ h' t1, (∀ b o, b ≠ e → h.get? b = some o → h'.get? b = some o) → h'.get? e = some (excO C t1) → Q .none ⟨h', g, d, t, os⟩) :
    wpAny (model prog w) A (call (.ref u) rest) Q E ⟨h, g, d, t, os⟩ := by
  refine wpAny_call (codeAny_of_tree ?_)
  show wpAny _ A.in1 (callAny (.ref u) ⟨rest, []⟩) _ _ _
  simp only [callAny]
  refine wpAny_bind (wpAny_load hu ?_)
  simp only [kxs_mw, show (Value.type "method-wrapper" == Value.type "method" || Value.type "method-wrapper" == Value.type "builtin_function_or_method" || Value.type "method-wrapper" == Value.type "method-wrapper") = true by decide, if_true]
  refine KFB.if_so (by decide) ?_
  refine wpAny_bind (check_bound_v F.excBase_ValueError hC he rfl ?_)
  refine wpAny_bind (wpAny_pure (wpAny_pure ?_))
  refine ⟨Code.quiet_builtin _ (by decide +kernel), codeAny_builtin F.excBase_ValueError.initEntry ?_⟩
  rw [Around.under_plainId F.excBase_ValueError.init.plain _]
  wp_walk
  refine hq _ h.objs.size (fun b o hb ho => ?_) ?_
  · rw [Heap.get?_update_other _ _ (Ne.symm hb)]
    exact Heap.get?_push_of_some _ ho
  · rw [Heap.get?_update_self _ (Heap.get?_push_of_some _ he) rfl]
    rfl
theorem ldE {M : Model} {A : Around} {E : Value → Shared → Prop} {s : Shared} {env : Env} {m : Str → Option Value} {x : Str} {pos : Pos} {v : Value} {Q : Value → Shared → Prop} (hn : s.heap.Ns env.locals m) (hv : m x = some v) (h : Q v s)
    (hk : env.scope.kind = .function) (hl : env.kindOf x = some .local) (hd : (x == ("__debug__" : Str)) = false) : wpAny M A (eval (.Name x pos) env) Q E s := wpAny_Name (wpAny_loadName_local hk hl hn hv h) hd
theorem wpAt_MethodCallL {prog : Program} {w : World} {A : Around} {c : Code} {E : Value → Shared → Prop} {s : Shared} {env : Env} {o : Expr} {name : Str} {apos pos : Pos} {args : List Expr} {Q : Value → Shared → Prop}
    (hfew : ((backTo pos (starEach args env)).all (fun x => !x.1) && (backToKw pos (keywordEach [] env)).all (fun x => x.1.isSome)
      && decide (args.length + ([] : List Keyword).length + (if ([] : List Keyword).isEmpty then 0 else 1) < 30)) = true)
    (hline : (apos.endLine == pos.line) = true)
    (h : wpAt (model prog w) A c (attributeBase o name env (eval o env)) (fun ov s₁ => ∀ pl, wpAny (model prog w) A (getMethod ov name pl) (fun fx s₂ => wpAny (model prog w) A (callWith pos fx.1 fx.2 (backTo pos (starEach args env)) []) Q E s₂) E s₁) E s) :
    wpAt (model prog w) A c (eval (.Call (.Attribute o name apos) args [] pos) env) Q E s := by
  rw [arm_eval_Call]
  refine wpAt_bind (wpAt_mono h (fun ov s₁ h₁ => wpAt_of_wpAny ?_) fun _ _ x => x)
  refine wpAny_bind (wpAny_standAt ?_)
  have hform : methodCallForm (args.length + ([] : List Keyword).length) (backTo pos (starEach args env)) (backToKw pos (keywordEach [] env)) = true := hfew
  have hpos : methodCallPos true o env apos pos = pure pos := by unfold methodCallPos; simp [hline]
  unfold methodCall
  rw [hform]
  refine wpAny_bind (wpAny_holding (wpAny_mono (h₁ _) (fun fx s₂ h₂ => ?_) fun _ _ x => x))
  exact wpAny_bind (wpAny_of_eq hpos h₂)
/-- what __init__ leaves of a fresh exception at x -/
structure InitEnd (h h' : Heap) (x C dx t1 : Addr) (v : Value) : Prop where
  keep : ∀ b o, b ≠ x → h.get? b = some o → h'.get? b = some o
  obj : h'.get? x = some { cls := .ref C, dict := some dx, data := .fields #[.ref t1, .none, .none, .none, .bool false, .none] }
  dbig : h.objs.size ≤ dx
  dne : dx ≠ x
  ns : h'.Ns1 dx (fun y => if y = "value" then some v else none)
structure OwnMade (h h' : Heap) (e C d : Addr) (v : Value) : Prop where
  keep : ∀ b o, h.get? b = some o → h'.get? b = some o
  new : h.objs.size ≤ e
  obj : ∃ oe vs, h'.get? e = some oe ∧ oe.cls = .ref C ∧ oe.dict = some d ∧ oe.data = .fields vs ∧ vs[1]? = some .none ∧ vs[2]? = some .none
  dbig : h.objs.size ≤ d
  dne : d ≠ e
  ns : h'.Ns1 d (fun y => if y = "value" then some v else none)
section
variable {prog : Program} {w : World} {A : Around} {E : Value → Shared → Prop} {R : Result → Shared → Prop} {s : Shared} {K : Frag} {mg : Str → Option Value} {base : Heap} {D C fI : Addr}
theorem le_init (T : LeTxt prog K D fI) (TC : ExC K D fI C) {x t0 : Addr} {v : Value} (md : L2.Mod K mg base) (bk : ∀ b o, base.get? b = some o → s.heap.get? b = some o) (hsup : mg "super" = none) (hx : s.heap.get? x = some (excO C t0)) (hnx : base.get? x = none) (hroom : A.depth < recursionLimit)
    (hq : ∀ h' tk dx t1, InitEnd s.heap h' x C dx t1 v → R (.ok (.ret .none)) { s with heap := h', toks := tk }) :
    codeAny (model prog w) A (.call (.ref fI) ⟨[.ref x, v], []⟩) R s := by
  obtain ⟨oc, od, doc, pm, an, cda, cc, ct, osl, p1, p2, r1, r2, r3, r4, r5, r6, q1, q2, q3, q4, j, iS, ho, hcd, hline, hk, hco, hgen, hcell, lself, lval, lsup, lcls, ⟨ccl, cdd, vs, ccs, file, tf, hcode, hvs, hfile⟩, cl, cld, csl, hcl0⟩ := T.fn
  obtain ⟨nm, q, N, bs, bm, sn, sub, ab, col, dd, k0, k1, k2, k3, k5, hC, hbm⟩ := TC.cls
  have hcl : clsIn K C = some { name := nm, bases := bs, mro := .ref C :: bm, ns := N, qualname := q, hasDict := true, slotNames := sn, subclasses := sub, abstract := ab, collection := col, hasDel := false } := by unfold clsIn; rw [hC] <;> rfl
  have X : K.In s.heap := md.kin.keeps bk
  have hlim : s.heap.NoLimit := md.nolimit.keeps bk
  refine ks_codeAny_call_defAt (fd := ksFn "__init__" "LetterError.__init__" (iA p1 p2) (iB r1 r2 r3 r4 r5 r6 q1 q2 q3 q4 j) iS .none .none doc pm an (.ref cda) ct cc) (body := iB r1 r2 r3 r4 r5 r6 q1 q2 q3 q4 j) (binds := [("self", .ref x), ("value", v)]) hroom (X _ _ ho) rfl hlim (codeRec_of X hcd) rfl
    (BindsTo.of_eq (by first | rfl | with_unfolding_all rfl)) hcell (fun y hy => ?_) (fun h₁ hn k => ?_) hco hgen hk
  · rcases List.mem_cons.mp hy with rfl | hy
    · exact lself
    · rcases List.mem_cons.mp hy with rfl | hy
      · exact lval
      · cases hy
  have hxL : s.heap.objs.size ≠ x := Nat.ne_of_gt (Heap.lt_size hx)
  have X₁ : K.In h₁ := X.keeps k
  have hx₁ := k _ _ hx
  have I₁ : InstAt h₁ x (excO C t0) C none := ⟨hx₁, rfl, rfl, trivial⟩
  have hms : (fun y => List.lookup y ([(("self" : Str), Value.ref x), (("value" : Str), v)] : List (Str × Value)).reverse) "self" = some (.ref x) := by first | rfl | with_unfolding_all rfl | kernel_rfl
  have hmv : (fun y => List.lookup y ([(("self" : Str), Value.ref x), (("value" : Str), v)] : List (Str × Value)).reverse) "value" = some v := by first | rfl | with_unfolding_all rfl | kernel_rfl
  obtain ⟨oD, cdD, hD1, hD2, hDc⟩ : ∃ oD cdD, h₁.get? D = some oD ∧ oD.data = .cls cdD ∧ clsIn K D = some cdD := by
    obtain ⟨cd, hc⟩ := Option.isSome_iff_exists.mp T.hD
    have hc' := hc
    unfold clsIn at hc
    split at hc
    · rename_i ho'
      cases hc
      exact ⟨_, _, X₁ _ _ ho', rfl, hc'⟩
    · cases hc
  obtain ⟨mb, hb1, hb2⟩ := md.blt
  have bk₁ : ∀ b o, base.get? b = some o → h₁.get? b = some o := fun b o e => k b o (bk b o e)
  refine ks_wpAt_execs_cons (ks_wpAt_Expr_any (wpAt_MethodCallL rfl hline ?_) ?_ rfl)
  · refine ks_wpAt_super_base (ar := { arg := "self", annotation := none, pos := p1 }) (vs := vs) (file := file) (tf := tf) lsup lcls (by decide) rfl (X₁ _ _ ho) rfl rfl rfl (X₁ _ _ hcode) rfl hvs hfile T.htop ?_
    refine ks_loadName_global hk lsup (loadGlobal_builtin (mg := mg) (mb := mb) (md.glob.keeps bk₁) hsup (hb1.keeps bk₁) ((hb2 _ (by decide)).trans boot_super) ⟨rfl, ?_⟩)
    refine wpAny_loadName_free hk lcls rfl ⟨_, X₁ _ _ hcl0, rfl⟩ ?_
    refine wpAny_loadName_local hk lself hn hms ?_
    refine ks_wpAny_isType_cls hD1 hD2 ⟨rfl, ?_⟩
    refine ks_wpAny_call_super hD1 hD2 hx₁ rfl (fun c e => by cases e) (looks_mroIn X₁ TC.mro) (fun h₂ e₂ k₂ pl => ?_)
    have X₂ : K.In h₂ := X₁.keeps k₂
    have I₂ : InstAt h₂ x (excO C t0) C none := ⟨k₂ _ _ hx₁, rfl, rfl, trivial⟩
    have hf : alongIn K "__init__" (((Value.ref C :: bm).dropWhile (· != .ref D)).drop 1) = some (some (.builtin "ValueError.__init__")) := by
      have z := TC.ini
      unfold ks_superIn at z
      rw [hcl] at z
      exact z
    refine kxs_getMethod kxs_ValueError e₂ (looks_opaque X₂ T.opq) (l₀ := .ref C :: bm) (fun A Q E s k q => wpAny_bind ((looks_clsIn X₂ hcl) A _ E s k (wpAny_pure q))) rfl X₂ hf (I₂.type.andThen (looks_subIn X₂ TC.exV)) (ks_ne X₁ I₁ hcl) (by decide) ?_
    have hu : (h₂.push (kxs_mw "ValueError.__init__" x)).get? h₂.objs.size = some (kxs_mw "ValueError.__init__" x) := Heap.get?_push_size _ rfl
    refine kxs_callWith (i := "ValueError.__init__") (x := x) rfl (evalArgs_plain ?_)
    refine PyProof.Rows.spliced_more (Constant_str (PyProof.Rows.spliced_none ?_)) rfl
    refine ⟨hu, ?_⟩
    have k3 : ∀ b o, s.heap.get? b = some o → (h₂.push (kxs_mw "ValueError.__init__" x)).get? b = some o := fun b o e => Heap.get?_push_of_some _ (k₂ b o (k b o e))
    refine call_bwV (k3 _ _ (X _ _ hC)) (k3 _ _ hx) hu (one_size _) fun h₄ t1 k4 hx4 => ?_
    have X4 : K.In h₄ := md.kin.keeps fun b o e => k4 b o (fun z => by rw [z, hnx] at e; cases e) (k3 b o (bk b o e))
    have hn4 : h₄.Ns s.heap.objs.size _ := (((hn.at fun o e => k₂ _ o e).at fun o e => Heap.get?_push_of_some _ e).at fun o e => k4 _ o hxL e)
    -- self.value = value
    show wpAt _ _ _ (execs _ _) _ _ _
    refine wpAt_of_wpAny (wpAny_execs_cons (plainObj_wpAny_Assign_Attribute ?_ rfl))
    refine ldE (v := v) hn4 hmv (ldE (v := .ref x) hn4 hms ?_ hk lself (by decide)) hk lval (by decide)
    refine set_plain X4 (ox := excO C t1) (od := none) ⟨hx4, rfl, rfl, trivial⟩ TC.sa ?_
    refine exc_osa X4 hx4 hcl (show refsVE (.ref C :: bm) = true from hbm) rfl TC.noN (fun h₅ tk₅ dx k5 dn dne hx5 hn5 => ?_)
    show wpAny _ _ (execs _ _) _ _ _
    have z : s.heap.objs.size < h₄.objs.size := hn4.lt
    exact wpAny_execs_nil (hq h₅ _ dx t1 ⟨fun b o hb e => k5 b o hb (k4 b o hb (k3 b o e)), hx5, Nat.le_of_lt (Nat.lt_of_lt_of_le z dn), dne, hn5⟩)
  · generalize he : callEnv _ _ _ = env
    have hk' : env.scope.kind = .function := by rw [← he]; exact hk
    simp [interactive, hk']
theorem le_made (T : LeTxt prog K D fI) (TC : ExC K D fI C) {v : Value} (md : L2.Mod K mg base) (bk : ∀ b o, base.get? b = some o → s.heap.get? b = some o) (hsup : mg "super" = none) (hroom : A.depth + 1 < recursionLimit)
    (hq : ∀ h' tk e d, OwnMade s.heap h' e C d v → R (.ok (.ret (.ref e))) { s with heap := h', toks := tk }) :
    codeAny (model prog w) A (.call (.ref C) ⟨[v], []⟩) R s := by
  obtain ⟨nm, q, N, bs, bm, sn, sub, ab, col, dd, k0, k1, k2, k3, k5, hC, hbm⟩ := TC.cls
  have X : K.In s.heap := md.kin.keeps bk
  obtain ⟨hp, g, dr, tk, os⟩ := s
  have k : ∀ b o, hp.get? b = some o → ((hp.push (kdv_tup [v])).push (excO C hp.objs.size)).get? b = some o := fun b o e => Heap.get?_push_of_some _ (Heap.get?_push_of_some _ e)
  have hget : ((hp.push (kdv_tup [v])).push (excO C hp.objs.size)).get? (hp.objs.size + 1) = some (excO C hp.objs.size) := by heap_get
  have hnx : base.get? (hp.objs.size + 1) = none := by
    cases e : base.get? (hp.objs.size + 1) with
    | none => rfl
    | some o =>
      have z : hp.get? (hp.objs.size + 1) = some o := bk _ _ e
      exact absurd (Nat.lt_of_succ_lt (Heap.lt_size z)) (Nat.lt_irrefl _)
  refine call_own F.excBase_ValueError (fun X => refsVE_contains X bm hbm) (X _ _ hC) (looks_findIn X TC.iC) (fun self => bind_fn X self TC.tC) (one_size v) ?_
  refine le_init (s := ⟨(hp.push (kdv_tup [v])).push (excO C hp.objs.size), g, dr, tk, os⟩) T TC md (fun b o e => k b o (bk b o e)) hsup hget hnx ?_ fun h' tk' dx t1 ⟨k', hx, dn, dne, hns⟩ => ?_
  · show A.depth + 1 < recursionLimit
    exact hroom
  · have old : ∀ b o, hp.get? b = some o → h'.get? b = some o := fun b o e => k' b o (Nat.ne_of_lt (Nat.lt_succ_of_lt (Heap.lt_size e))) (k b o e)
    have z : hp.objs.size + 1 + 1 ≤ dx := by
      first
        | (simpa only [Heap.size_push] using dn)
        | exact dn
        | (have q := dn; rw [Heap.size_push, Heap.size_push] at q; exact q)
    exact ⟨rfl, hq h' tk' (hp.objs.size + 1) dx ⟨old, Nat.le_succ _, ⟨_, _, hx, rfl, rfl, rfl, rfl, rfl⟩, Nat.le_trans (Nat.le_trans (Nat.le_succ _) (Nat.le_succ _)) z, dne, hns⟩⟩
end
end LeX
end PySem
namespace LG
open PySem PySem.Spec PyProof.Rows L2
theorem relO_val {v : V} {v' : Value} (r : RelV v v') (f : Str) : RelO (List.lookup f [(valF, v)]) (if f = "value" then some v' else none) := by
  by_cases hw : f = "value"
  · subst hw
    rw [if_pos rfl]
    have q : List.lookup valF [(valF, v)] = some v := by simp [List.lookup]
    rw [q]
    exact r
  · rw [if_neg hw]
    have qw : (f == valF) = false := by simpa using hw
    have q2 : List.lookup f [(valF, v)] = none := by simp [List.lookup, qw]
    rw [q2]
    trivial
section
variable {X : Cx} {D C fI : Addr}
/-- C(e) -/
def tMkLe (C : Addr) (ta : TA) : L2.St → Hp → XK → Prop := fun σ H Q => ta σ H fun vs H1 => ∃ v, vs = [v] ∧ ∀ d, H1 d = none → Q (.ref C) (some d) (upd H1 d (.xd [(valF, v)]))
theorem pmk_le {a : Expr} {ta : TA} {x : Str} {p pos : Pos} {k : Nat} (T : PySem.LeX.LeTxt X.prog X.K D fI) (TC : PySem.LeX.ExC X.K D fI C) (gC : X.mg x = some (.ref C)) (hsup : X.mg "super" = none) (hr : Room k X.A) (ha : PA X [a] ta) (hg : Gl X x) (hd0 : (x == ("__debug__" : Str)) = false)
    (he : starEach (a :: []) X.env = (false, eval a X.env) :: starEach [] X.env) (hpl : (backTo pos (starEach [] X.env)).any (·.1) = false) :
    L2N.PMk X (.Call (.Name x p) [a] [] pos) (tMkLe C ta) := by
  intro pins s σ H Q I h
  refine wpAny_Call_Name_kw (ld_glob I hg gC ?_ hd0)
  refine PySem.W.callWith_K (h₀ := X.base) I.ok.mod.kin TC.kC (thn (ha.run pos pins s σ H _ I h) fun us s1 hh => ?_) he hpl
  obtain ⟨vs, H1, I1, r1, v, ev, q1⟩ := hh
  subst ev
  refine ⟨I1.kIn, ?_⟩
  cases r1 with
  | cons rv rn =>
    rename_i v' us'
    cases rn
    show wpAny _ _ (call (.ref C) [v']) _ _ _
    have hbk := I1.bk
    obtain ⟨hp, g, dr, tk, os⟩ := s1
    refine wpAny_call (PySem.LeX.le_made T TC I1.ok.mod hbk hsup (by have := hr.dp; omega) fun h' tk' e d M => ?_)
    show L2N.MkP X pins σ Q (.ref e) ⟨h', g, dr, tk', os⟩
    obtain ⟨oe, fv, hoe, hc, hd, hdat, h1, h2⟩ := M.obj
    have hns := M.ns
    obtain ⟨G', g1, g2⟩ := restrict h' fun b => decide (b ≠ e)
    have gk : ∀ b, b ≠ e → G'.get? b = h'.get? b := fun b hb => g1 b (decide_eq_true hb)
    have ge : G'.get? e = none := g2 e (by simp)
    have old : ∀ b o, hp.get? b = some o → G'.get? b = some o := fun b o q => (gk b (Nat.ne_of_lt (Nat.lt_of_lt_of_le (Heap.lt_size q) M.new))).trans (M.keep b o q)
    have ob : ObjOk X.prog X.w (upd H1 d (.xd [(valF, v)])) G' d (.xd [(valF, v)]) :=
      ⟨_, hns.at (fun o q => (gk d M.dne).trans q), fun f => relO_val rv f⟩
    have J : Inv X pins σ (upd H1 d (.xd [(valF, v)])) ⟨G', g, dr, tk', os⟩ := I1.laid (t' := tk') old M.dbig ob
    refine ⟨e, oe, fv, ⟨G', g, dr, tk', os⟩, _, .ref C, some d, rfl, J, fun b o q => ?_, ge, hoe, ⟨hc, hd, fun vs e => by rw [hdat] at e; cases e; exact h2⟩, hdat, h1, ?_, rfl, I1.bare, raises_own TC.exC TC.tyC, q1 d (I1.hok.fresh M.dbig)⟩
    · by_cases hb : b = e
      · have q' : G'.get? b = some o := q
        rw [hb, ge] at q'; cases q'
      · exact (gk b hb).symm.trans q
    · rw [upd_ne (Ne.symm M.dne)]
      exact I1.hok.fresh M.new
variable {W : WX} {ca : Nat → Addr}
theorem s_raise {a : Expr} {fa : EX} {x : Str} {c : Nat} {p pos pos2 : Pos} {k : Nat} (hc : X.calm = true) (tk : L2N.Takes X W) (T : PySem.LeX.LeTxt X.prog X.K D fI) (TC : PySem.LeX.ExC X.K D fI (ca c)) (gC : X.mg x = some (.ref (ca c))) (hsup : X.mg "super" = none) (hr : Room k X.A) (ha : PE X a (tE (pk X ca) W fa)) (hg : Gl X x) (hd0 : (x == ("__debug__" : Str)) = false)
    (hst : ∀ x p, a ≠ .Starred x p) : PS X (.Raise (some (.Call (.Name x p) [a] [] pos)) none pos2) (tSt (pk X ca) W (sRaise c fa)) :=
  PS.imp (L2N.ps_raise hc tk (pmk_le T TC gC hsup hr (pa_cons ha pa_nil (star_of hst)) hg hd0 (star_of hst) rfl)) fun D σ H h => by
    obtain ⟨μ, f, s, hs, hf, o⟩ := h
    refine ⟨μ, f, s, hs, hf, ?_⟩
    unfold sRaise at o
    cases e : fa f s with
    | bad => rw [e] at o; exact o.elim
    | err c2 v s1 =>
      rw [e] at o
      exact fun μ' H' d v m r q hd => o μ' H' σ d v m r (hf.mono m) q hd
    | ok dv s1 =>
      rw [e] at o
      intro μ1 H1 v m1 r1 q1
      refine ⟨v, rfl, fun d hd => ?_⟩
      have m2 : Mono (pk X ca).K μ1 H1 μ1 (upd H1 d (.xd [(valF, v)])) := mono_upd hd
      exact o μ1 _ σ d v (m1.trans m2) (r1.upd_free hd) ((hf.mono m1).mono m2) (RV.mono m2 q1) upd_same
end
end LG
set_option Elab.async false
set_option linter.all false
set_option maxRecDepth 100000
set_option maxHeartbeats 1000000
/-! LG13: try, the caught exception tracked. -/
namespace LG
open PySem PySem.Spec PyProof.Rows L2
theorem excO_ok {P : Program} {w : World} {H : Hp} {h : Heap} {a C d : Addr} {o : Obj} {vs : Array Value} (e : h.get? a = some o) (hc : o.cls = .ref C) (hd : o.dict = some d) (hv : o.data = .fields vs) (h2 : vs[2]? = some .none) : ObjOk P w H h a (excO a C d) :=
  ⟨⟨o, vs, e, hc, hd, hv, h2⟩, ⟨_, e⟩, fun _ _ ⟨o, v, q, r⟩ k => ⟨o, v, k _ q, r⟩⟩
theorem excO_at {P : Program} {w : World} {H : Hp} {h : Heap} {a C d : Addr} (x : ObjOk P w H h a (excO a C d)) : ∃ (o : Obj) (vs : Array Value), h.get? a = some o ∧ o.cls = .ref C ∧ o.dict = some d ∧ o.data = .fields vs ∧ vs[2]? = some .none := by
  have x' : ObjOk P w H h a (.ext fun h => ∃ (o : Obj) (vs : Array Value), h.get? a = some o ∧ o.cls = .ref C ∧ o.dict = some d ∧ o.data = .fields vs ∧ vs[2]? = some .none) := x
  exact x'.1
section
variable {X : Cx} {pins : List (Addr × Obj)} {σ : L2.St} {H : Hp} {s : Shared}
theorem inv_suite (I : Inv X pins σ H s) (a : Addr) : Inv (X.suite a (X.pn ++ pins)) [] σ H s :=
  ⟨I.ok.suite _ _, I.os, I.bare, I.base, I.loc, I.cell, I.free, I.freeC, fun p hp => I.pin p (by rw [List.append_nil] at hp; exact hp), I.hok, I.len⟩
theorem inv_unsuite {a : Addr} {pn' : List (Addr × Obj)} (I : Inv (X.suite a (X.pn ++ pins)) pn' σ H s) (ok : X.Ok) : Inv X pins σ H s :=
  ⟨ok, I.os, I.bare, I.base, I.loc, I.cell, I.free, I.freeC, fun p hp => I.pin p (List.mem_append_left _ hp), I.hok, I.len⟩
end
/-- a clause: the class, the name's slot, what its suite does with the exception at a -/
structure Hd where
  c : Value
  o : Option Nat
  ts : Addr → TS
def ends (D : Ends) : Option Nat → Ends
  | none => D
  | some i => { nx := fun σ' H' => D.nx (σ'.set i none) H', rt := D.rt, bk := fun σ' H' => D.bk (σ'.set i none) H', ct := fun σ' H' => D.ct (σ'.set i none) H' }
def put (σ : L2.St) (a : Addr) : Option Nat → L2.St
  | none => σ
  | some i => σ.set i (some (.ref a))
def wT (K : PySem.W.Frag) (Wout : WX) (D : Ends) : List Hd → WX
  | [] => Wout
  | h :: r => fun cls d σ H => ∃ b, PySem.W.exmOne K cls h.c = some b ∧ (b = true → ∃ C dd, cls = .ref C ∧ d = some dd ∧ ∀ a, H a = none → h.ts a (ends D h.o) (put σ a h.o) (upd H a (excO a C dd))) ∧ (b = false → wT K Wout D r cls d σ H)
def NameOk (X : Cx) : Option Str → Option Nat → Prop
  | none, none => True
  | some n, some i => X.N[i]? = some n ∧ X.env.kindOf n = some .local
  | _, _ => False
inductive HdsT (X : Cx) : List ExceptHandler → List Hd → Prop
  | nil : HdsT X [] []
  | cons {x : Str} {h : Hd} {n : Option Str} {b₀ : Stmt} {suite : List Stmt} {np pos' : Pos} {hds : List ExceptHandler} {l : List Hd} (hc : Names X x h.c) (hn : NameOk X n h.o)
      (hsu : ∀ (a : Addr) (pn : List (Addr × Obj)), PSs (X.suite a pn) (b₀ :: suite) (h.ts a)) (r : HdsT X hds l) :
      HdsT X (.ExceptHandler (some (.Name x np)) n (b₀ :: suite) pos' :: hds) (h :: l)
section
variable {X : Cx} {body : List Stmt} {h₀ : ExceptHandler} {hds : List ExceptHandler} {l : List Hd} {pos : Pos} {tb : WX → TS} {Wout : WX}
theorem ps_tryT (hs : X.stack = X.env :: X.outer) (hf : X.env.frame = some X.env.locals) (hN : X.N.Nodup) (tk : L2N.Takes X Wout)
    (hb : ∀ (W : WX) (pn : List (Addr × Obj)) (xe : Value → Shared → Prop), L2N.Takes (X.tr pn xe) W → PassesOwn (model X.prog X.w) X.A X.env xe → PSs (X.tr pn xe) body (tb W))
    (hh : HdsT X (h₀ :: hds) l) : PS X (.Try body (h₀ :: hds) [] [] pos) (fun D σ H => tb (wT X.K Wout D l) D σ H) := by
  refine ⟨fun pins s σ H D I h => ?_⟩
  have ok := I.ok
  have hfr : X.A.frames = some (X.env :: X.outer) := by rw [ok.frames, hs]
  refine wpAny_Try_except ?_
  refine wpAny_mono ((hb (wT X.K Wout D l) (X.pn ++ pins) (fun e s₁ => wpAny (model X.prog X.w) X.A (noteFrame e X.env) (fun _ s₂ => wpAny (model X.prog X.w) X.A (setFlight e none) (fun _ s₃ =>
    wpAny (model X.prog X.w) X.A (handleBy e X.env (h₀ :: hds)) (SP X pins D) X.xe s₃) X.xe s₂) X.xe s₁) (fun u s' xx => ?_) PassesOwn.looking).run [] s σ H D (I.toTry _) h) (fun f s1 hsp => ?_) (fun e s1 he => he)
  · -- the catch
    obtain ⟨a, B, sI, pins', σ', H', cls, d, rfl, J', nb, up, sky, na, os, ag, w⟩ := xx
    have J : Inv X pins σ' H' sI := J'.ofTry ok
    have sky' : Sky B (X.env :: X.outer) a (L2N.Zn cls d) X.env.locals s'.heap := by rw [← hs]; exact sky
    show wpAny (model X.prog X.w) X.A (noteFrame (.ref a) X.env) _ _ _
    refine L2N.Sky.land L2N.Zn.steady hfr hf sky' fun h3 fl3 up3 => ?_
    have J3 : Inv X pins σ' H' { s' with heap := h3 } := J.landed nb fl3.1 (up.trans up3) os ag
    obtain ⟨oe3, vs3, he3, hz3, hd3⟩ := fl3.there
    have notFr : ∀ {h : Heap} {o : Obj} {vs : Array Value}, h.FunFrames B (X.env :: X.outer) → h.get? a = some o → o.data = .fields vs → a ∉ frs (X.env :: X.outer) := fun {h o vs} ff e dd hm => by
      obtain ⟨_, o', e', hnf⟩ := ff.mem hm
      rw [e] at e'; cases e'
      exact hnf _ dd
    have nfr := notFr fl3.2.2.1 he3 hd3
    have nL : a ≠ X.env.locals := fun z => nfr (List.mem_filterMap.mpr ⟨X.env, List.mem_cons_self, by rw [hf, z]⟩)
    have nF : a ∉ X.fs := fun hm => by
      obtain ⟨e, he, q⟩ := List.mem_filterMap.mp hm
      exact nfr (List.mem_filterMap.mpr ⟨e, List.mem_cons_of_mem _ he, q⟩)
    have S3 := J3.suite he3 hd3 na nL nF
    have sIa : sI.heap.get? a = none := by
      cases e : sI.heap.get? a with
      | none => rfl
      | some o =>
        have z := nb a o e (by rw [hs]; exact nfr)
        rw [fl3.2.1] at z; cases z
    -- the exception tracked
    have track : ∀ {h4 : Heap} {C dd : Addr}, HandSPX.FlyingZ B (X.env :: X.outer) a (L2N.Zn cls d) h4 → sI.heap.UpToSlots h4 → cls = .ref C → d = some dd → Inv X pins σ' (upd H' a (excO a C dd)) { s' with heap := h4 } := fun {h4 C dd} fl4 up4 ec ed => by
      obtain ⟨oe4, vs4, he4, hz4, hd4⟩ := fl4.there
      obtain ⟨G, g1, g2⟩ := restrict h4 fun b => decide (b ≠ a)
      have JG : Inv X pins σ' H' { s' with heap := G } := J.landed (s' := { s' with heap := G }) nb (fun b o e => by
          have hba : b ≠ a := fun z => by rw [z, fl4.2.1] at e; cases e
          exact (g1 b (decide_eq_true hba)).trans (fl4.1 b o e))
        (fun b o e hnf => by
          obtain ⟨sl, q⟩ := up4 b o e hnf
          have hba : b ≠ a := fun z => by rw [z, sIa] at e; cases e
          exact ⟨sl, (g1 b (decide_eq_true hba)).trans q⟩) os ag
      have Ga : G.get? a = none := g2 a (by simp)
      exact JG.laidN (h' := h4) (t' := s'.toks) (fun b o e => by
        have hba : b ≠ a := fun z => by
          have e' : G.get? b = some o := e
          rw [z, Ga] at e'; cases e'
        exact (g1 b (decide_eq_true hba)).symm.trans e) Ga na (excO_ok he4 (by rw [hz4.1, ec]) (by rw [hz4.2.1, ed]) hd4 (hz4.2.2 _ hd4))
    have go : ∀ {hds' : List ExceptHandler} {l' : List Hd}, HdsT X hds' l' → wT X.K Wout D l' cls d σ' H' →
        wpAny (model X.prog X.w) X.A (handleBy (.ref a) X.env hds') (SP X pins D) X.xe { s' with heap := h3 } := by
      intro hds' l' hk
      induction hk with
      | nil =>
        intro w
        refine wpAny_handleBy_nil ?_
        obtain ⟨k1, k2, k3, oe, vs, T, oT, ts', he, hz, hd, h1, hr⟩ := id fl3
        unfold PySem.passOn
        refine wpAny_bind (wpAny_field he hd h1 ?_)
        rw [if_neg (show ¬ ((Value.ref T == Value.none) = true) from by simp)]
        have fin : wpAny (model X.prog X.w) X.A (setFlight (.ref a) X.env.frame) (fun _ s4 => wpAny (model X.prog X.w) X.A (throw (.ref a) : Sem Flow) (SP X pins D) X.xe s4) X.xe { s' with heap := h3 } := by
          rw [hf]
          refine HandSPX.setFlight_upZ fl3 fun h4 hh4 up4 => wpAny_throw (tk _ _ ?_)
          exact ⟨a, B, sI, pins, σ', H', cls, d, rfl, J, nb, (up.trans up3).trans up4, .inr (.inr (by rw [hs]; exact hh4)), na, os, ag, w⟩
        first
          | exact wpAny_bind (wpAny_pure (wpAny_bind fin))
          | exact wpAny_bind fin
      | @cons x hd n b₀ suite np pos' hds2 l2 hc hn hsu r ih =>
        intro w
        obtain ⟨b, hb1, hyes, hno⟩ := w
        refine wpAny_handleBy_cons (codeAny_handlers_test ?_) (by intro q; cases q)
        have LT : PySem.W.Looks (model X.prog X.w) h3 (typeOf (.ref a)) cls := fun A Q E s k q => wpAny_typeOf_ref (k _ _ he3) (by rw [hz3.1]; exact q)
        have LM := PySem.W.exm_one (M := model X.prog X.w) (J3.kIn) LT hb1
        have test : ∀ {Q : Value → Shared → Prop} {E : Value → Shared → Prop}, Q hd.c { s' with heap := h3 } → wpAny (model X.prog X.w) (X.A.mark (some (.ref a))) (eval (.Name x np) X.env) Q E { s' with heap := h3 } := fun {Q E} q => by
          obtain ⟨hg, hdbg, hm | ⟨hm, hv, hnn⟩⟩ := hc
          · exact ld_glob (X := X.suite a ((a, oe3) :: (X.pn ++ pins))) S3 hg hm q hdbg
          · exact ld_blt (X := X.suite a ((a, oe3) :: (X.pn ++ pins))) S3 hg hm hv q hnn hdbg
        refine test (LM.here ?_)
        cases b with
        | true =>
          obtain ⟨C, dd, ec, ed, run⟩ := hyes rfl
          obtain ⟨hc0, ho, hts⟩ := hd
          cases n with
          | none =>
            cases ho with
            | some i => exact hn.elim
            | none =>
              refine codeAny_handlers_suite ?_
              refine HandSPX.lands_againZ fl3 fun h4 fl4 up4 => ?_
              have T4 := track fl4 ((up.trans up3).trans up4) ec ed
              have S4 := inv_suite T4 a
              refine wpAny_mono ((hsu a (X.pn ++ pins)).run [] _ _ _ _ S4 (run a na)) (fun f s6 hsp => ?_) (fun _ _ z => False.elim z)
              cases f with
              | next => obtain ⟨σ6, H6, S6, q6⟩ := hsp; exact ⟨_, _, inv_unsuite S6 ok, q6⟩
              | brk => obtain ⟨σ6, H6, S6, q6⟩ := hsp; exact ⟨_, _, inv_unsuite S6 ok, q6⟩
              | cont => obtain ⟨σ6, H6, S6, q6⟩ := hsp; exact ⟨_, _, inv_unsuite S6 ok, q6⟩
              | ret u => obtain ⟨v6, σ6, H6, S6, r6, q6⟩ := hsp; exact ⟨_, _, _, inv_unsuite S6 ok, r6, q6⟩
          | some n =>
            cases ho with
            | none => exact hn.elim
            | some i =>
              obtain ⟨hi, hln⟩ := hn
              refine codeAny_handlers_suite_as ?_
              refine HandSPX.lands_againZ fl3 fun h4 fl4 up4 => ?_
              have T4 := track fl4 ((up.trans up3).trans up4) ec ed
              have S4 := inv_suite T4 a
              refine store_ok (X := X.suite a (X.pn ++ pins)) (v := .ref a) S4 hN hi (.inl hln) rfl (fun s5 S5 => ?_) (.inr hln)
              refine wpAny_mono ((hsu a (X.pn ++ pins)).run [] s5 _ _ _ S5 (run a na)) (fun f s6 hsp => ?_) (fun _ _ z => False.elim z)
              have end_ : ∀ {σ6 : L2.St} {H6 : Hp} {Q : Shared → Prop}, Inv (X.suite a (X.pn ++ pins)) [] σ6 H6 s6 → (∀ s7, Inv X pins (σ6.set i none) H6 s7 → Q s7) →
                  wpAny (model X.prog X.w) X.A (do bindName X.env n .none; unbindBehindTheSuite X.env n pos') (fun _ s7 => Q s7) X.xe s6 := fun {σ6 H6 Q} S6 hq => gone_ok (inv_unsuite S6 ok) hN hi hln hq
              cases f with
              | next => obtain ⟨σ6, H6, S6, q6⟩ := hsp; exact end_ S6 fun s7 J7 => ⟨_, _, J7, q6⟩
              | brk => obtain ⟨σ6, H6, S6, q6⟩ := hsp; exact end_ S6 fun s7 J7 => ⟨_, _, J7, q6⟩
              | cont => obtain ⟨σ6, H6, S6, q6⟩ := hsp; exact end_ S6 fun s7 J7 => ⟨_, _, J7, q6⟩
              | ret u => obtain ⟨v6, σ6, H6, S6, r6, q6⟩ := hsp; exact end_ S6 fun s7 J7 => ⟨_, _, _, J7, r6, q6⟩
        | false =>
          show wpAny _ X.A (handleBy (.ref a) X.env hds2) _ _ _
          exact ih (hno rfl)
    exact go hh w
  · cases f with
    | next =>
      obtain ⟨σ', H', J', q⟩ := hsp
      exact wpAny_execs_nil ⟨σ', H', J'.ofTry ok, q⟩
    | brk =>
      obtain ⟨σ', H', J', q⟩ := hsp
      exact ⟨σ', H', J'.ofTry ok, q⟩
    | cont =>
      obtain ⟨σ', H', J', q⟩ := hsp
      exact ⟨σ', H', J'.ofTry ok, q⟩
    | ret u =>
      obtain ⟨v, σ', H', J', r, q⟩ := hsp
      exact ⟨v, σ', H', J'.ofTry ok, r, q⟩
end
end LG
set_option Elab.async false
set_option linter.all false
set_option maxRecDepth 100000
set_option maxHeartbeats 1000000
/-! LG14: repr, caught exceptions, except suites. -/
namespace LG
open PySem PySem.Spec PyProof.Rows L2
section
variable {X : Cx} {ca : Nat → Addr} {W : WX} {pos : Pos} {σ₀ : L2.St}
theorem ok_repr (hu : X.A.units + 65 < cLine) (hgd : X.A.guards = some []) : CallR X (.builtin "repr") (rFn (pk X ca) W σ₀ bRepr) := by
  intro pins s σ H xs us Q I r h
  obtain ⟨μ, ds, st, hs, hv, o⟩ := h
  cases hv with
  | nil => exact o.elim
  | @cons v d vr dr hv hr =>
    cases hr with
    | cons _ _ => exact o.elim
    | nil =>
      cases r with
      | cons rv rr =>
        rename_i u ur
        cases rr
        unfold bRepr at o
        simp only at o
        split at o
        · rename_i p ep
          split at o
          · rename_i hz
            obtain ⟨h1, h2, h3⟩ := toPD_ok hs 60 d v p hv ep
            obtain ⟨as, r1⟩ := Dp.reads I p v u h1 rv
            have q : Q (.str p.shown) H := o.here hs (.str _)
            have hz2 : p.shown.length ≤ sizeLine := by rw [lim_eq]; exact hz.2
            have fin : ∀ {t : Tok} {h' : Heap} {tk : Nat}, (∀ b o, s.heap.get? b = some o → h'.get? b = some o) → EP X pins σ Q (.str p.shown t) { s with heap := h', toks := tk } := fun {t h' tk} hk => ⟨.str p.shown, H, I.kept (t' := tk) hk, ⟨t, rfl⟩, q⟩
            have nd := PyData.hasDict_of_canLay p h2
            cases r1 with
            | none => exact PySem.P.repr_of_none (by have z := @fin s.toks s.heap (s.toks + 1) fun _ _ e => e; simpa only [PyData.shown] using z)
            | bool b => exact PySem.P.repr_of_bool (by have z := @fin s.toks s.heap (s.toks + 1) fun _ _ e => e; simpa only [PyData.shown] using z)
            | int i t => exact PySem.P.repr_of_int (by simpa [PyData.showable] using hz.1) (by have z := @fin s.toks s.heap (s.toks + 1) fun _ _ e => e; simpa only [PyData.shown] using z)
            | str x t => exact PySem.P.repr_of_str (by have z := @fin s.toks s.heap (s.toks + 1) fun _ _ e => e; simpa only [PyData.shown] using z) (by simpa only [PyData.shown] using hz2)
            | list a1 a2 a3 a4 => exact repr_of_reads' (.list a1 a2 a3 a4) hz.1 (PyData.noDict_hsm nd) hgd (by omega) (fun _ _ e => e) (fun h' t tk hk => fin hk) hz2
            | tuple a1 a2 a3 a4 => exact repr_of_reads' (.tuple a1 a2 a3 a4) hz.1 (PyData.noDict_hsm nd) hgd (by omega) (fun _ _ e => e) (fun h' t tk hk => fin hk) hz2
            | dict a1 a2 a3 a4 a5 => exact absurd nd (by simp [PyData.hasDict])
          · exact o.elim
        · exact o.elim

/-! ### caught exceptions -/
/-- of the classes: what reading asks -/
structure ClsOk (g : Glob) (ca : Nat → Addr) (X : Cx) : Prop where
  exc : ∀ c, c < g.cls.length → ∃ D fI, PySem.LeX.LeTxt X.prog X.K D fI ∧ PySem.LeX.ExC X.K D fI (ca c)
  isa : ∀ c, c < g.cls.length → L2.ExcC X.K (ca c)
  sub : ∀ c k b, g.sub c k = some b → c < g.cls.length ∧ PySem.W.kitOne X.K (.ref (ca c)) (.ref (ca k)) = some b ∧ PySem.W.exmOne X.K (.ref (ca c)) (.ref (ca k)) = some b
  mg : ∀ x c, slotOf x g.cls 0 = some c → X.mg x = some (.ref (ca c))
  sup : X.mg "super" = none
theorem exc_of {P : PK} {μ : List Addr} {H : Hp} {s : Sto} {x : V} {d : LG.D} {c : Nat} {w : LG.D} (hs : RS P μ H s) (h : RV P.K μ H x d) (e : excOf s d = some (c, w)) : ∃ a dd v, x = .ref a ∧ H a = some (excO a (P.ca c) dd) ∧ H dd = some (.xd [(valF, v)]) ∧ RV P.K μ H v w := by
  unfold excOf at e
  cases h with
  | @ref a n hm =>
    simp only at e
    split at e
    · rename_i c' v' e1
      cases e
      obtain ⟨dd, v, q1, q2, q3⟩ := hs.ob n a _ hm e1
      exact ⟨a, dd, v, rfl, q1, q2, q3⟩
    · cases e
  | _ => cases e
theorem inst_of {pins : List (Addr × Obj)} {σ : L2.St} {H : Hp} {s : Shared} (I : Inv X pins σ H s) {a C dd : Addr} {v : V} (h1 : H a = some (excO a C dd)) (h2 : H dd = some (.xd [(valF, v)])) :
    ∃ (oe od : Obj) (mA : Str → Option Value), PySem.W.InstAt s.heap a oe C (some od) ∧ (∀ name, PySem.W.lookIn name od = some (mA name)) ∧ ∀ f, RelO (List.lookup f [(valF, v)]) (mA f) := by
  obtain ⟨o, vs, e1, e2, e3, e4, e5⟩ := excO_at (I.hok a _ h1)
  have hx : ObjOk X.prog X.w H s.heap dd (.xd [(valF, v)]) := I.hok dd _ h2
  obtain ⟨mA, hns, hr⟩ := hx
  obtain ⟨od, ho, hl⟩ := lookIn_ns hns
  exact ⟨o, od, mA, ⟨e1, e2, by unfold PySem.W.notCls; rw [e4] <;> rfl, by rw [e3]; exact ho⟩, hl, hr⟩
theorem x_fld {g : Glob} {e : Expr} {fa : EX} (G : ClsOk g ca X) (ha : PE X e (tE (pk X ca) W fa)) (hb : attributeBase e "value" X.env (eval e X.env) = eval e X.env) : PE X (.Attribute e "value" pos) (tE (pk X ca) W (eFld g.cls.length fa)) := by
  refine ⟨fun pins s σ H Q I h => ?_⟩
  obtain ⟨μ, f, st, hs, hf, o⟩ := h
  refine attr_of hb (thn (ha.run pins s σ H _ I ⟨μ, f, st, hs, hf, Out.bnd o⟩) fun u s1 hh => ?_)
  obtain ⟨x, H1, I1, rx, μ1, d, s1', m1, r1, q1, o1⟩ := hh
  cases q1 with
  | @ref a n hm =>
    simp only at o1
    split at o1
    · rename_i c w e1
      split at o1
      · rename_i hc
        obtain rfl : u = Value.ref a := rx
        obtain ⟨dd, v, q2, q3, q4⟩ := r1.ob n a _ hm e1
        obtain ⟨D, fI, T, TC⟩ := G.exc c hc
        obtain ⟨oe, od, mA, J, hl, hr⟩ := inst_of I1 q2 q3
        have l : List.lookup valF [(valF, v)] = some v := by simp [List.lookup]
        obtain ⟨u, hu, ru⟩ := RelO.some_of (v := v) (o := mA "value") (by rw [← l]; exact hr "value")
        exact HandSPX.exc_get I1.kIn J TC.ga TC.gg TC.exC (PySem.W.findObj_own TC.hdC TC.noN rfl (by rw [hl, hu])) (handed_of ru) ⟨v, H1, I1.tok _, ru, o1.here r1 q4⟩
      · exact o1.elim
    · exact o1.elim
  | _ => exact o1.elim
/-- isinstance of a caught exception, by own classes -/
def rIsX (P : PK) (W : WX) (σ : L2.St) (sub : Nat → Nat → Option Bool) (k : Nat) : List V → Hp → VK → Prop := fun xs H Q => ∃ x μ d s, xs = [x, .ref (P.ca k)] ∧ RS P μ H s ∧ RV P.K μ H x d ∧ Out P W σ μ H (RE P) (match isinst sub (.cls k) s d with | some b => .ok (.bl b) s | none => .bad) Q
theorem call_isX {g : Glob} {k : Nat} {σ₀ : L2.St} (G : ClsOk g ca X) : CallR X (.builtin "isinstance") (rIsX (pk X ca) W σ₀ g.sub k) := by
  intro pins s σ H xs us Q I r h
  obtain ⟨x, μ, d, st, rfl, hs, hx, o⟩ := h
  obtain ⟨u1, u2, rfl, r1, r2⟩ := vals2 r
  obtain rfl : u2 = Value.ref (ca k) := r2
  split at o
  · rename_i b eb
    unfold isinst at eb
    obtain ⟨⟨c, w⟩, e1, e2⟩ := Option.bind_eq_some_iff.mp eb
    obtain ⟨a, dd, v, rfl, q2, q3, q4⟩ := exc_of (P := pk X ca) hs hx e1
    obtain rfl : u1 = Value.ref a := r1
    obtain ⟨hc, hk, _⟩ := G.sub c k b e2
    obtain ⟨oe, od, mA, J, _, _⟩ := inst_of I q2 q3
    have C := G.isa c hc
    have hcl : (PySem.W.clsIn X.K (ca c)).isSome = true := by
      obtain ⟨cd, hcd, _⟩ := PySem.W.any_some C.hd
      rw [hcd]; rfl
    exact PySem.W.kia_one (PySem.W.kitx_exc hcl C.hg C.hk C.hs C.ha C.hn C.ht C.hm) I.kIn J hk (fun z => nomatch z) fun tk => ⟨.bl b, H, I.tok tk, rfl, o.here hs (.bl b)⟩
  · exact o.elim
theorem x_isX {g : Glob} {e : Expr} {p tp : Pos} {tx : Str} {k : Nat} {fa : EX} (G : ClsOk g ca X) (hk : slotOf tx g.cls 0 = some k) (hg : Gl X "isinstance") (hm : X.mg "isinstance" = none) (hgt : Gl X tx) (hdb : (tx == ("__debug__" : Str)) = false)
    (hst : ∀ x p, e ≠ .Starred x p) (ha : PE X e (tE (pk X ca) W fa)) : PE X (.Call (.Name "isinstance" p) [e, .Name tx tp] [] pos) (tE (pk X ca) W (eIs g.sub (.cls k) fa)) :=
  PE.imp (pe_callB (r := fun vs H Q => ∃ σ₀, rIsX (pk X ca) W σ₀ g.sub k vs H Q) (fun pins s σ H xs us Q I r ⟨σ₀, q⟩ => call_isX G pins s σ H xs us Q I r q) hg hm PyProof.Rows.boot_isinstance (pa_cons ha (pa_cons (pe_glob (v := .ref (ca k)) hgt (G.mg tx k hk) rfl hdb) pa_nil rfl) (star_of hst)) (he := star_of hst) (hpl := rfl)) fun σ H Q h => by
    obtain ⟨μ, f, s, hs, hf, o⟩ := h
    refine ⟨μ, f, s, hs, hf, Out.imp (Out.bnd o) fun x H1 h1 => ?_⟩
    obtain ⟨μ1, d, s1, m1, r1, q1, o1⟩ := h1
    exact ⟨σ, x, μ1, d, s1, rfl, r1, q1, o1⟩

/-! ### the suites -/
/-- where the exception at a is handled -/
def tStH (P : PK) (W : WX) (a : Addr) (m : SX) : TS := fun D σ H => (∃ C d, H a = some (excO a C d)) ∧ tSt P W m D σ H
theorem h_of {st : Stmt} {a : Addr} {m : SX} (h : PS X st (tSt (pk X ca) W m)) : PS X st (tStH (pk X ca) W a m) := PS.imp h fun D σ H q => q.2
theorem hs_of {st : List Stmt} {a : Addr} {m : SX} (h : PSs X st (tSt (pk X ca) W m)) : PSs X st (tStH (pk X ca) W a m) := PSs.imp h fun D σ H q => q.2
theorem sseqH {P : PK} {a b : SX} {c : Addr} {D : Ends} {σ : L2.St} {H : Hp} (h : tStH P W c (sSeq a b) D σ H) : tStH P W c a { D with nx := tStH P W c b D } σ H := by
  obtain ⟨⟨C, d, hx⟩, μ, f, s, hs, hf, o⟩ := h
  refine ⟨⟨C, d, hx⟩, μ, f, s, hs, hf, ?_⟩
  unfold sSeq at o
  cases e : a f s with
  | next f' s' =>
    rw [e] at o
    exact fun μ' H' σ' m r q => ⟨⟨C, d, m.exc _ _ _ hx⟩, μ', f', s', r, q, SOut.mono o m⟩
  | ret d s' => rw [e] at o; exact o
  | brk f' s' => rw [e] at o; exact o
  | cont f' s' => rw [e] at o; exact o
  | err f' c v s' => rw [e] at o; exact o
  | bad => rw [e] at o; exact o
theorem ss_consH {st : Stmt} {rest : List Stmt} {a b : SX} {c : Addr} (h1 : PS X st (tStH (pk X ca) W c a)) (h2 : PSs X rest (tStH (pk X ca) W c b)) : PSs X (st :: rest) (tStH (pk X ca) W c (sSeq a b)) :=
  PSs.imp (pss_cons h1 h2) fun D σ H h => sseqH h
end
end LG
set_option Elab.async false
set_option linter.all false
set_option maxRecDepth 100000
set_option maxHeartbeats 1000000
/-! LG15: two names at once in an except suite; try. -/
namespace LGH
open PySem PySem.Spec PyProof.Rows
variable {prog : Program} {w : World} {A : Around} {E : Value → Shared → Prop} {s : Shared}
theorem next_tuple_end_hot {it t x1 : Addr} {i : Nat} {items} {Q : Option Value → Shared → Prop} (hot : HotX.HotAt A x1 s.heap) (hne : it ≠ x1)
    (hit : IsTupIter s.heap it t i) (ht : IsTup s.heap t items) (hx : items[i]? = none)
    (hQ : ∀ h', Heap.ExtBut it s.heap h' → Q none { s with heap := h' }) : wpAny (model prog w) A (pyNext (.ref it)) Q E s := by
  obtain ⟨o, ho, hc, hd⟩ := id hit
  obtain ⟨ol, hol, _, nl, hdl⟩ := ht
  obtain ⟨hh, o1, vs1, h1, d1, c1⟩ := hot
  unfold pyNext
  refine wpAny_bind (wpAny_attempt (wpAny_callSpecial?_slot (name := Str.ofString "__next__") hit.typeIs slot_tupleiter_next
    (wpAny_call_entry slot_tupleiter_next hit.typeIs entry_tupleiter_next ?_ (args_tupleiter_next _))))
  show wpAny _ _ (field (.ref it) 0 >>= _) _ _ s
  refine wpAny_bind (wpAny_field ho hd (x := .ref t) rfl ?_)
  show wpAny _ _ (if (Value.ref t == Value.none) = true then _ else _) _ _ s
  rw [if_neg (show ¬ ((Value.ref t == Value.none) = true) from Bool.false_ne_true)]
  show wpAny _ _ (field (.ref it) 1 >>= _) _ _ s
  refine wpAny_bind (wpAny_field ho hd (x := .int i 0) rfl ?_)
  show wpAny _ _ (seqItems? (.ref t) >>= _) _ _ s
  refine wpAny_bind (wpAny_seqItems hol hdl ?_)
  simp only [Int.toNat_natCast, hx]
  refine wpAny_bind (wpAny_rule (wpAny_bind (wpAny_setField ho hd (by simp) ?_)))
  show wpAny _ _ (newExc (.type "StopIteration") [] >>= _) _ _ _
  refine wpAny_bind ?_
  simp only [newExc, newTuple]
  refine wpAny_bind (wpAny_newObj_type ?_ (by size_fits))
  refine wpAny_bind (m := firstArgMember _ _) (wpAny_of_eq (a := Value.none) (by first | rfl | (simp only [firstArgMember]; rfl)) ?_)
  refine wpAny_newObj_type ?_ (by size_fits)
  have k : ∀ b o, b ≠ it → s.heap.get? b = some o → (s.heap.update it (Obj.mapFields (·.setIfInBounds 0 .none))).get? b = some o := fun b o hb e => by
    rw [Heap.get?_update_other _ _ (Ne.symm hb)]; exact e
  have hx1 := Heap.get?_push_of_some { cls := .type "tuple", data := .seq #[] } (k _ _ (Ne.symm hne) h1)
  refine HotX.raiseNew_hot (x1 := x1) ⟨hh, o1, vs1, Heap.get?_push_of_some _ hx1, d1, c1⟩ (Nat.ne_of_lt (Heap.lt_size hx1)) (Heap.get?_push_size _ rfl) rfl (by first | (simp; done) | (simp; omega)) ?_
  refine wpAny_bind (wpAny_isInstance (T := "StopIteration") (b := true) ⟨_, Heap.get?_update_self _ (Heap.get?_push_size _ rfl) rfl, rfl⟩ isSubtype_stop ?_)
  refine wpAny_pure (hQ _ fun b o hb e => ?_)
  have e1 := Heap.get?_push_of_some { cls := .type "tuple", data := .seq #[] } (k _ _ hb e)
  rw [Heap.get?_update_other _ _ (Nat.ne_of_gt (Heap.lt_size e1))]
  exact Heap.get?_push_of_some _ e1
theorem unpackItems_tuple_hot {t x1 : Addr} {items : Array Value} {Q : List Value → Shared → Prop} (hot : HotX.HotAt A x1 s.heap) (ht : IsTup s.heap t items)
    (hQ : ∀ h', Heap.ExtBut s.heap.objs.size s.heap h' → Q items.toList { s with heap := h' }) : wpAny (model prog w) A (unpackItems (.ref t) items.size none) Q E s := by
  have hlt : t ≠ s.heap.objs.size := by obtain ⟨o, ho, _⟩ := ht; exact Nat.ne_of_lt (Heap.lt_size ho)
  have hx1 : x1 < s.heap.objs.size := by obtain ⟨_, o1, vs1, h1, _⟩ := hot; exact Heap.lt_size h1
  unfold unpackItems
  refine wpAny_bind ?_
  · unfold notIterableAtAll
    refine wpAny_bind (wpAny_specialOf ht.typeIs slot_tuple_iter.lookup ?_)
    refine wpAny_pure ?_
    simp only [Bool.false_eq_true, if_false]
    refine wpAny_bind (wpAny_holding (iter_tuple ht ?_))
    refine wpAny_bind (wpAny_holding (draw_tuple hlt items.size 0 _ _ ⟨_, Heap.get?_push_size _ rfl, rfl, rfl⟩ (ht.push _) (by omega) fun h₁ hit₁ hs₁ => ?_))
    have hall : List.take items.size (List.drop 0 items.toList) = items.toList := by
      rw [List.drop_zero]; exact List.take_of_length_le (by simp)
    rw [hall]
    rw [if_neg (by simp)]
    have ht₁ : IsTup h₁ t items := (ht.push _).extBut hs₁.extBut hlt
    have hot1 : HotX.HotAt A x1 h₁ := by
      obtain ⟨hh, o1, vs1, h1, d1, c1⟩ := hot
      exact ⟨hh, o1, vs1, hs₁.extBut _ _ (Nat.ne_of_lt hx1) (Heap.get?_push_of_some _ h1), d1, c1⟩
    refine wpAny_bind (wpAny_holding (next_tuple_end_hot hot1 (Nat.ne_of_gt hx1) hit₁ ht₁ (by simp) fun h₂ he₂ => ?_))
    simp only [Option.isSome_none, Bool.false_eq_true, if_false]
    refine wpAny_pure (hQ h₂ fun b o hb e => he₂ b o hb (hs₁.extBut b o hb (Heap.get?_push_of_some _ e)))
end LGH
namespace LG
open PySem PySem.Spec PyProof.Rows L2
section
variable {X : Cx} {ca : Nat → Addr} {W : WX} {pos : Pos} {σ₀ : L2.St}
/-- a, b = x, y while the exception at c is handled -/
theorem ps_parH {i j : Nat} {x y : Str} {a b : Expr} {ta : TA} {px py pt : Pos} {kt k2 pt2} {c : Addr} (hh : X.A.handled = some (.ref c)) (hN : X.N.Nodup) (hi : X.N[i]? = some x) (hj : X.N[j]? = some y) (hij : i ≠ j)
    (hx : X.env.scope.names.lookup x = some .local) (hy : X.env.scope.names.lookup y = some .local) (ha : PA X [a, b] ta)
    (hw : swappedStores [.Tuple [.Name x px, .Name y py] kt pt] (.Tuple [a, b] k2 pt2) X.env = pure (some [x, y])) :
    PS X (.Assign [.Tuple [.Name x px, .Name y py] kt pt] (.Tuple [a, b] k2 pt2) pos) (fun D σ H => ta σ H fun vs H1 => (∃ C d, H1 c = some (excO c C d)) ∧ ∃ v w, vs = [v, w] ∧ D.nx ((σ.set i (some v)).set j (some w)) H1) := by
  refine ⟨fun pins s σ H D I h => ?_⟩
  rw [exec_Assign_arm]
  refine wpAny_bind (wpAny_standAt ?_)
  rw [show swapsWithSole [.Tuple [.Name x px, .Name y py] kt pt] (.Tuple [a, b] k2 pt2) pos.line X.env = pure false from rfl]
  refine wpAny_bind (wpAny_pure ?_)
  rw [if_neg (by decide)]
  refine wpAny_bind (Tuple_ (thn (ha.run _ pins s σ H _ I h) fun us s1 ⟨vs, H1, I1, r1, q1⟩ => ?_))
  obtain ⟨⟨C, d, hexc⟩, v, w, e1, q1⟩ := q1
  subst e1
  obtain ⟨u1, u2, rfl, rv, rw'⟩ : ∃ u1 u2, us = [u1, u2] ∧ RelV v u1 ∧ RelV w u2 := by
    cases r1 with
    | cons p q =>
      cases q with
      | cons p' q' =>
        cases q'
        exact ⟨_, _, rfl, p, p'⟩
  refine wpAny_newObj_type ?_ (by show 2 ≤ sizeLine; decide)
  have I2 : Inv X pins σ H1 { s1 with heap := s1.heap.push { cls := .type "tuple", data := .seq [u1, u2].toArray } } := I1.kept (t' := s1.toks) fun b o e => Heap.get?_push_of_some _ e
  rw [hw]
  refine wpAny_bind (wpAny_pure ?_)
  show wpAny (model X.prog X.w) X.A (do rule "assign.swapped-stores"; let items ← unpackItems (.ref s1.heap.objs.size) 2 none; assignInOrder [fun v => bindName X.env y v, fun v => bindName X.env x v] items.reverse; pure Flow.next) _ _ _
  have hot : HotX.HotAt X.A c (s1.heap.push { cls := .type "tuple", data := .seq [u1, u2].toArray }) := by
    obtain ⟨o, vs, e1, _, _, e4, e5⟩ := excO_at (I2.hok c _ hexc)
    exact ⟨hh, o, vs, e1, e4, e5⟩
  refine wpAny_bind (wpAny_rule (wpAny_bind (LGH.unpackItems_tuple_hot (items := #[u1, u2]) hot (IsTup.new s1.heap _) fun h' hx' => ?_)))
  have I3 := I2.kept (h' := h') (t' := s1.toks) fun b o e => hx' b o (Nat.ne_of_lt (Heap.lt_size e)) e
  show wpAny _ _ (assignInOrder [fun v => bindName X.env y v, fun v => bindName X.env x v] [u2, u1] >>= fun _ => pure Flow.next) _ _ _
  refine wpAny_bind (assignInOrder_cons (wpAny_bindName (store_ok I3 hN hj (.inl hy) rw' (fun s2 I4 => ?_) (.inr hy))))
  refine assignInOrder_cons (wpAny_bindName (store_ok I4 hN hi (.inl hx) rv (fun s3 I5 => assignInOrder_nil (wpAny_pure ?_)) (.inr hx)))
  rw [List.set_comm _ _ (Ne.symm hij)] at I5
  exact ⟨_, H1, I5, q1⟩
theorem s_par2H {i j : Nat} {x y : Str} {a b : Expr} {fa : AX} {px py pt : Pos} {kt k2 pt2} {c : Addr} (hh : X.A.handled = some (.ref c)) (hN : X.N.Nodup) (hi : X.N[i]? = some x) (hj : X.N[j]? = some y) (hij : i ≠ j)
    (hx : X.env.scope.names.lookup x = some .local) (hy : X.env.scope.names.lookup y = some .local) (ha : PA X [a, b] (tA (pk X ca) W fa))
    (hw : swappedStores [.Tuple [.Name x px, .Name y py] kt pt] (.Tuple [a, b] k2 pt2) X.env = pure (some [x, y])) :
    PS X (.Assign [.Tuple [.Name x px, .Name y py] kt pt] (.Tuple [a, b] k2 pt2) pos) (tStH (pk X ca) W c (sPar [i, j] fa)) :=
  PS.imp (ps_parH hh hN hi hj hij hx hy ha hw) fun D σ H h => by
    obtain ⟨⟨C, d, hexc⟩, μ, f, s, hs, hf, o⟩ := h
    unfold sPar at o
    unfold sLift at o
    refine ⟨μ, f, s, hs, hf, ?_⟩
    cases e : fa f s with
    | err c v s' =>
      rw [e] at o
      exact fun μ' H' d v m' r q hd => o μ' H' σ d v m' r (hf.mono m') q hd
    | bad => rw [e] at o; exact o
    | ok ds s1 =>
      rw [e] at o
      intro μ1 H1 vs m1 r1 q1
      refine ⟨⟨C, d, m1.exc _ _ _ hexc⟩, ?_⟩
      have o1 := SOut.mono o m1
      have hf1 := hf.mono m1
      cases q1 with
      | nil => exact o1.elim
      | @cons v1 d1 vr dr q1 qr =>
        cases qr with
        | nil => exact o1.elim
        | @cons v2 d2 vr dr q2 qr =>
          cases qr with
          | cons _ _ => exact o1.elim
          | nil =>
            refine ⟨v1, v2, rfl, ?_⟩
            rw [List.set_comm _ _ hij]
            exact o1 μ1 H1 _ Mono.refl r1 ((hf1.set q2 j).set q1 i)
/-- the clauses, compiled -/
inductive HdsC (g : Glob) (ca : Nat → Addr) (X : Cx) : List ExceptHandler → List (Nat × Option Nat × SX) → List Hd → Prop
  | nil : HdsC g ca X [] [] []
  | cons {x : Str} {k : Nat} {sl : Option Nat} {m : SX} {n : Option Str} {b₀ : Stmt} {suite : List Stmt} {np pos' : Pos} {hds : List ExceptHandler} {r : List (Nat × Option Nat × SX)} {l : List Hd} (hk : slotOf x g.cls 0 = some k) (hg : Gl X x) (hd0 : (x == ("__debug__" : Str)) = false) (hn : NameOk X n sl)
      (hsu : ∀ (a : Addr) (pn : List (Addr × Obj)), PSs (X.suite a pn) (b₀ :: suite) (tStH (pk X ca) Wn a m)) (hr : HdsC g ca X hds r l) :
      HdsC g ca X (.ExceptHandler (some (.Name x np)) n (b₀ :: suite) pos' :: hds) ((k, sl, m) :: r) (⟨.ref (ca k), sl, fun a => tStH (pk X ca) Wn a m⟩ :: l)
theorem HdsC.t {g : Glob} (G : ClsOk g ca X) {hds : List ExceptHandler} {r : List (Nat × Option Nat × SX)} {l : List Hd} (h : HdsC g ca X hds r l) : HdsT X hds l := by
  induction h with
  | nil => exact .nil
  | cons hk hg hd0 hn hsu hr ih => exact .cons ⟨hg, hd0, .inl (G.mg _ _ hk)⟩ hn hsu ih
theorem sout_ends {P : PK} {D : Ends} {μ : List Addr} {H : Hp} {i : Nat} {r : SR}
    (o : SOut P W D μ H (match r with | .next f' s' => .next (f'.set i none) s' | .ret d s' => .ret d s' | _ => .bad)) : SOut P Wn (ends D (some i)) μ H r := by
  cases r with
  | next f s => exact fun μ' H' σ' m r q => o μ' H' _ m r (q.unset i)
  | ret d s => exact fun μ' H' v m r q => o μ' H' v m r q
  | brk f s => exact o.elim
  | cont f s => exact o.elim
  | err f c v s => exact o.elim
  | bad => exact o.elim
theorem sout_plain {P : PK} {D : Ends} {μ : List Addr} {H : Hp} {r : SR}
    (o : SOut P W D μ H (match r with | .next f' s' => .next f' s' | .ret d s' => .ret d s' | .cont f' s' => .cont f' s' | _ => .bad)) : SOut P Wn D μ H r := by
  cases r with
  | next f s => exact o
  | ret d s => exact o
  | brk f s => exact o.elim
  | cont f s => exact o
  | err f c v s => exact o.elim
  | bad => exact o.elim
theorem hands_imp {g : Glob} (G : ClsOk g ca X) {D : Ends} {hds : List ExceptHandler} {r : List (Nat × Option Nat × SX)} {l : List Hd} (h : HdsC g ca X hds r l) : ∀ {μ : List Addr} {H : Hp} {σ : L2.St} {f : Fr} {c : Nat} {x : LG.D} {s : Sto} {d : Addr} {v : V},
    SOut (pk X ca) W D μ H (hands g.sub r f c x s) → RS (pk X ca) μ H s → RF (pk X ca) μ H σ f → RV X.K μ H v x → H d = some (.xd [(valF, v)]) → wT X.K W D l (.ref (ca c)) (some d) σ H := by
  induction h with
  | nil => exact fun {μ H σ f c x s d v} o rs rf rv hd => o μ H σ d v Mono.refl rs rf rv hd
  | @cons cx k sl m n b₀ suite np pos' hds r l hk hg hd0 hn hsu hr ih =>
    intro μ H σ f c x s d v o rs rf rv hd
    unfold hands at o
    cases es : g.sub c k with
    | none => simp only [es] at o; exact o.elim
    | some b =>
      obtain ⟨_, _, he⟩ := G.sub c k b es
      refine ⟨b, he, fun eb => ?_, fun eb => ?_⟩
      · subst eb
        simp only [es] at o
        refine ⟨ca c, d, rfl, rfl, fun a ha => ?_⟩
        have hda : d ≠ a := fun z => by rw [z, ha] at hd; cases hd
        cases sl with
        | none =>
          simp only at o
          have m2 : Mono X.K μ H μ (upd H a (excO a (ca c) d)) := mono_upd (P := pk X ca) ha
          exact ⟨⟨ca c, d, upd_same⟩, μ, f, s, rs.upd_free ha, rf.mono m2, sout_plain (SOut.mono o m2)⟩
        | some i =>
          simp only at o
          have m2 : Mono X.K μ H (μ ++ [a]) (upd H a (excO a (ca c) d)) := mono_new (P := pk X ca) ha
          have rs2 : RS (pk X ca) (μ ++ [a]) (upd H a (excO a (ca c) d)) (s ++ [.exc c x]) := rs.push ha ⟨d, v, upd_same, by rw [upd_ne hda]; exact hd, RV.mono m2 rv⟩
          refine ⟨⟨ca c, d, upd_same⟩, μ ++ [a], f.set i (some (.ref s.length)), s ++ [.exc c x], rs2, (rf.mono m2).set (.ref ?_) i, sout_ends (SOut.mono o m2)⟩
          rw [List.getElem?_append_right (by rw [rs.len]; exact Nat.le_refl _)]
          simp [rs.len]
      · subst eb
        simp only [es] at o
        exact ih o rs rf rv hd
theorem s_try {g : Glob} {body : List Stmt} {h₀ : ExceptHandler} {hds : List ExceptHandler} {r : List (Nat × Option Nat × SX)} {l : List Hd} {b : SX} (G : ClsOk g ca X) (hs : X.stack = X.env :: X.outer) (hf : X.env.frame = some X.env.locals) (hN : X.N.Nodup) (tk : L2N.Takes X W)
    (hb : ∀ (W : WX) (pn : List (Addr × Obj)) (xe : Value → Shared → Prop), L2N.Takes (X.tr pn xe) W → PassesOwn (model X.prog X.w) X.A X.env xe → PSs (X.tr pn xe) body (tSt (pk X ca) W b))
    (hh : HdsC g ca X (h₀ :: hds) r l) : PS X (.Try body (h₀ :: hds) [] [] pos) (tSt (pk X ca) W (sTry g.sub b r)) :=
  PS.imp (ps_tryT hs hf hN tk hb (hh.t G)) fun D σ H h => by
    obtain ⟨μ, f, s, rs, rf, o⟩ := h
    refine ⟨μ, f, s, rs, rf, ?_⟩
    unfold sTry at o
    cases e : b f s with
    | next f' s' => rw [e] at o; exact o
    | ret d s' => rw [e] at o; exact o
    | brk f' s' => rw [e] at o; exact o
    | cont f' s' => rw [e] at o; exact o
    | bad => rw [e] at o; exact o
    | err f' c x s' =>
      rw [e] at o
      exact fun μ' H' σ' d v m r q rv hd => hands_imp G hh (SOut.mono o m) r q rv hd
end
end LG
set_option Elab.async false
set_option linter.all false
set_option maxRecDepth 100000
set_option maxHeartbeats 2000000
/-! LG16: compiled expressions keep what they say. -/
namespace LG
open PySem PySem.Spec PyProof.Rows L2

structure Ctx2 (g : Glob) (call : Call) (ca : Nat → Addr) (k : Nat) (N : List Str) (W : WX) (X : Cx) (sc : Scope) : Prop extends Ctx g call ca k N W X sc where
  cl : ClsOk g ca X
theorem takes_n {X : Cx} : L2N.Takes X Wn := fun _ _ ⟨_, _, _, _, _, _, _, _, _, _, _, _, _, _, _, _, w⟩ => w.elim
theorem lookup_map_in {f : Str → NameKind → NameKind} {x : Str} : ∀ {l : List (Str × NameKind)}, (l.map fun (n, k) => (n, f n k)).lookup x = (l.lookup x).map (f x)
  | [] => rfl
  | (n, k) :: r => by
    show List.lookup x ((n, f n k) :: r.map fun (n, k) => (n, f n k)) = _
    cases h : x == n with
    | true =>
      have e : x = n := by simpa using h
      subst e
      simp [List.lookup_cons]
    | false => simp only [List.lookup_cons, h]; exact lookup_map_in
theorem rel_lookup {scope sc : Scope} {x : Str} : (relSc scope sc).names.lookup x = (scope.names.lookup x).map fun k => if (k == .free && sc.kind == .function && sc.names.lookup x == some .cell) then .cell else k := by
  have e : (relSc scope sc).names = scope.names.map fun (n, k) => (n, (fun n k => if (k == NameKind.free && sc.kind == .function && sc.names.lookup n == some .cell) then NameKind.cell else k) n k) := by
    unfold relSc
    simp only
    apply List.map_congr_left
    rintro ⟨n, k⟩ _
    simp only
    split <;> rfl
  rw [e]
  exact lookup_map_in (f := fun n k => if (k == NameKind.free && sc.kind == .function && sc.names.lookup n == some .cell) then NameKind.cell else k)
theorem ctx_blk {g : Glob} {call : Call} {ca : Nat → Addr} {k : Nat} {N : List Str} {W : WX} {X : Cx} {sc scope : Scope} (c : Ctx2 g call ca k N W X sc) (hk : scope.kind = .function) (s : Shared) (H : Hp) (C : Addr) (cl : List (Str × Addr)) (fp : List Addr) :
    Ctx2 g call ca k N Wn (X.blk s H scope (compEnvC scope cl C X.env) fp) (relSc scope sc) where
  gl := ⟨c.gl.consts, c.gl.defs, c.gl.blt⟩
  nN := c.nN
  nd := c.nd
  kind := hk
  sc := by
    have e := c.sc
    subst e
    rfl
  calm := c.calm
  room := c.room
  un := c.un
  gd := c.gd
  tk := takes_n
  cl := ⟨c.cl.exc, c.cl.isa, c.cl.sub, c.cl.mg, c.cl.sup⟩

theorem notStar_of {e : Expr} (h : notStar e = true) : ∀ x p, e ≠ .Starred x p := fun x p z => by subst z; cases h
theorem star_all {env : Env} : ∀ {es : List Expr}, es.all notStar = true → starEach es env = es.map fun e => (false, eval e env)
  | [], _ => rfl
  | e :: es, h => by
    rw [List.all_cons, Bool.and_eq_true] at h
    rw [star_of (notStar_of h.1), star_all h.2]
    rfl
theorem any_star {env : Env} {pos : Pos} {es : List Expr} (h : es.all notStar = true) : (backTo pos (starEach es env)).any (·.1) = false := by
  rw [star_all h]
  unfold backTo
  rw [List.any_map, List.any_map]
  simp [Function.comp_def]
theorem all_star {env : Env} {pos : Pos} {es : List Expr} (h : es.all notStar = true) : (backTo pos (starEach es env)).all (fun x => !x.1) = true := by
  rw [star_all h]
  unfold backTo
  rw [List.all_map, List.all_map]
  simp [Function.comp_def]
theorem kwEach {env : Env} : ∀ (kws : List Keyword), keywordEach kws env = kws.map fun k => (k.arg, eval k.value env)
  | [] => rfl
  | ⟨n, v, p⟩ :: r => by
    show (n, eval v env) :: keywordEach r env = _
    rw [kwEach r]
    rfl
/-- keywords with the names ks -/
def kwNames : List Keyword → List Str → Bool
  | [], [] => true
  | ⟨some x, _, _⟩ :: r, k :: ks => x == k && kwNames r ks
  | _, _ => false
theorem kw_facts {env : Env} {pos : Pos} : ∀ {kws : List Keyword} {ks : List Str}, kwNames kws ks = true → (backToKw pos (keywordEach kws env)).all (·.1.isSome) = true ∧ (backToKw pos (keywordEach kws env)).filterMap (·.1) = ks ∧ (backToKw pos (keywordEach kws env)).any (·.1.isNone) = false
  | [], [], _ => ⟨rfl, rfl, rfl⟩
  | [], _ :: _, h => by cases h
  | ⟨none, _, _⟩ :: _, _, h => by
    unfold kwNames at h
    cases h
  | ⟨some x, v, p⟩ :: r, [], h => by cases h
  | ⟨some x, v, p⟩ :: r, k :: ks, h => by
    unfold kwNames at h
    rw [Bool.and_eq_true] at h
    have e : x = k := by simpa using h.1
    subst e
    obtain ⟨h1, h2, h3⟩ := kw_facts (env := env) (pos := pos) h.2
    refine ⟨?_, ?_, ?_⟩
    · show (true && _) = true
      rw [Bool.true_and]; exact h1
    · show x :: _ = x :: ks
      rw [← h2]; rfl
    · show (false || _) = false
      rw [Bool.false_or]; exact h3

section
variable {g : Glob} {call : Call} {ca : Nat → Addr} {k : Nat} {N : List Str} {W : WX} {X : Cx} {sc : Scope} {pos : Pos}
theorem cl_lim : (cLine : Nat) = cLine := rfl
theorem bin_ok (c : Ctx2 g call ca k N W X sc) {o : Operator} {f : Op2} (h : binOf o = some f) : ∀ σ₀, OpR X (binaryOp o) (rOp (pk X ca) W σ₀ f) := by
  intro σ₀
  cases o <;> simp only [binOf] at h <;> first
    | (cases h; done)
    | (cases h; exact ok_add)
    | (cases h; exact ok_sub)
    | (cases h; exact ok_mul)
    | (cases h; exact ok_fdiv)
    | (cases h; exact ok_mod)
    | (cases h; exact ok_pow)
    | (cases h; exact ok_shl)
    | (cases h; exact ok_shr)
    | (cases h; exact ok_band)
    | (cases h; exact ok_bor)
theorem cmp_ok (c : Ctx2 g call ca k N W X sc) {o : CmpOp} {f : Op2} (h : cmpOf o = some f) : ∀ σ₀, OpR X (compareOp o) (rOp (pk X ca) W σ₀ f) := by
  intro σ₀
  have hu := c.un
  cases o <;> simp only [cmpOf] at h <;> cases h
  · exact ok_eq (by omega)
  · exact ok_ne (by omega)
  · exact ok_lt (by omega)
  · exact ok_le
  · exact ok_gt
  · exact ok_ge
  · exact ok_is
  · exact ok_isNot
  · exact ok_in (by omega)
  · exact ok_notIn (by omega)
theorem fn_ok (c : Ctx2 g call ca k N W X sc) (hh : g.hot = false) {x : Str} {f : Fn} (h : fnTab.lookup x = some f) :
    x ∈ bltNames ∧ x ≠ "__name__" ∧ (x == ("__debug__" : Str)) = false ∧ ((∃ id, bootBuiltins x = some (.builtin id) ∧ ∀ σ₀, CallR X (.builtin id) (rFn (pk X ca) W σ₀ f)) ∨ ∃ T, bootBuiltins x = some (.type T) ∧ ∀ σ₀, CallR X (.type T) (rFn (pk X ca) W σ₀ f)) := by
  have hm := PySem.mem_of_lookup h
  have hu := c.un
  have hc := c.calm hh
  unfold fnTab at hm
  simp only [List.mem_cons, List.not_mem_nil, or_false, Prod.mk.injEq] at hm
  rcases hm with ⟨rfl, rfl⟩ | ⟨rfl, rfl⟩ | ⟨rfl, rfl⟩ | ⟨rfl, rfl⟩ | ⟨rfl, rfl⟩ | ⟨rfl, rfl⟩ | ⟨rfl, rfl⟩ | ⟨rfl, rfl⟩ | ⟨rfl, rfl⟩ | ⟨rfl, rfl⟩ | ⟨rfl, rfl⟩ | ⟨rfl, rfl⟩
  · exact ⟨by decide +kernel, by decide +kernel, by decide +kernel, .inl ⟨_, by decide +kernel, fun σ₀ => ok_len⟩⟩
  · exact ⟨by decide +kernel, by decide +kernel, by decide +kernel, .inr ⟨_, by decide +kernel, fun σ₀ => ok_int⟩⟩
  · exact ⟨by decide +kernel, by decide +kernel, by decide +kernel, .inr ⟨_, by decide +kernel, fun σ₀ => ok_list⟩⟩
  · exact ⟨by decide +kernel, by decide +kernel, by decide +kernel, .inr ⟨_, by decide +kernel, fun σ₀ => ok_tuple⟩⟩
  · exact ⟨by decide +kernel, by decide +kernel, by decide +kernel, .inl ⟨_, by decide +kernel, fun σ₀ => ok_all hc⟩⟩
  · exact ⟨by decide +kernel, by decide +kernel, by decide +kernel, .inl ⟨_, by decide +kernel, fun σ₀ => ok_any hc⟩⟩
  · exact ⟨by decide +kernel, by decide +kernel, by decide +kernel, .inl ⟨_, by decide +kernel, fun σ₀ => ok_sum hc⟩⟩
  · exact ⟨by decide +kernel, by decide +kernel, by decide +kernel, .inl ⟨_, by decide +kernel, fun σ₀ => ok_max hc⟩⟩
  · exact ⟨by decide +kernel, by decide +kernel, by decide +kernel, .inl ⟨_, by decide +kernel, fun σ₀ => ok_min hc⟩⟩
  · exact ⟨by decide +kernel, by decide +kernel, by decide +kernel, .inl ⟨_, by decide +kernel, fun σ₀ => ok_sorted hc (by omega)⟩⟩
  · exact ⟨by decide +kernel, by decide +kernel, by decide +kernel, .inl ⟨_, by decide +kernel, fun σ₀ => ok_repr (by omega) c.gd⟩⟩
  · exact ⟨by decide +kernel, by decide +kernel, by decide +kernel, .inr ⟨_, by decide +kernel, fun σ₀ => ok_str⟩⟩
theorem mt_ok (c : Ctx2 g call ca k N W X sc) {x : Str} {f : Mt} (h : mtTab.lookup x = some f) : ∃ id, Slot "list" x id ∧ typeOf (.builtin id) = pure (.type "method_descriptor") ∧ ∀ σ₀, MtR X id (rMt (pk X ca) W σ₀ f) := by
  have hm := PySem.mem_of_lookup h
  have hu := c.un
  unfold mtTab at hm
  simp only [List.mem_cons, List.not_mem_nil, or_false, Prod.mk.injEq] at hm
  rcases hm with ⟨rfl, rfl⟩ | ⟨rfl, rfl⟩ | ⟨rfl, rfl⟩ | ⟨rfl, rfl⟩
  · exact ⟨_, PySem.F.slot_list_append, PySem.F.type_list_append, fun σ₀ => ok_append⟩
  · exact ⟨_, PySem.F.slot_list_pop, PySem.F.type_list_pop, fun σ₀ => ok_pop⟩
  · exact ⟨_, PySem.F.slot_list_index, PySem.F.type_list_index, fun σ₀ => ok_index (by omega)⟩
  · exact ⟨_, PySem.F.slot_list_extend, PySem.F.type_list_extend, fun σ₀ => ok_extend⟩
theorem base_ok {o : Expr} {m : Str} {env : Env} (h : plainO o = true) : attributeBase o m env (eval o env) = eval o env := by
  cases o <;> first
    | (cases h; done)
    | rfl
theorem ty_ok {x : Str} {t : Ty} (h : tyOf g x = some t) : ((∀ c, t ≠ .cls c) ∧ x ∈ (["int", "bool", "str", "tuple", "list", "dict"] : List Str) ∧ bootBuiltins x = some (.type (tyS t))) ∨ ∃ c, t = .cls c ∧ slotOf x g.cls 0 = some c := by
  unfold tyOf at h
  split at h
  · rename_i e; cases h
    have e : x = "int" := by simpa using e
    subst e
    exact .inl ⟨fun c z => (by cases z), by decide +kernel, by decide +kernel⟩
  · split at h
    · rename_i e; cases h
      have e : x = "bool" := by simpa using e
      subst e
      exact .inl ⟨fun c z => (by cases z), by decide +kernel, by decide +kernel⟩
    · split at h
      · rename_i e; cases h
        have e : x = "str" := by simpa using e
        subst e
        exact .inl ⟨fun c z => (by cases z), by decide +kernel, by decide +kernel⟩
      · split at h
        · rename_i e; cases h
          have e : x = "tuple" := by simpa using e
          subst e
          exact .inl ⟨fun c z => (by cases z), by decide +kernel, by decide +kernel⟩
        · split at h
          · rename_i e; cases h
            have e : x = "list" := by simpa using e
            subst e
            exact .inl ⟨fun c z => (by cases z), by decide +kernel, by decide +kernel⟩
          · split at h
            · rename_i e; cases h
              have e : x = "dict" := by simpa using e
              subst e
              exact .inl ⟨fun c z => (by cases z), by decide +kernel, by decide +kernel⟩
            · split at h
              · rename_i c e; cases h
                exact .inr ⟨c, rfl, e⟩
              · cases h
theorem tgt_ok {sc0 : Scope} (hc : X.calm = true) (H : ∀ x i, gxName N sc0 x = some i → X.N.Nodup ∧ X.N[i]? = some x ∧ L2.Loc X.env.scope x ∧ (X.fn x = true ∨ X.env.scope.names.lookup x = some .local)) {tg : Expr} {sl : List Nat} {gx : GX} (h : cTarget N sc0 tg = some (sl, gx)) :
    PG X tg (tG (pk X ca) sl gx) := by
  unfold cTarget at h
  split at h
  · split at h
    · rename_i x p i e
      cases h
      obtain ⟨h1, h2, h3, h4⟩ := H _ _ e
      exact x_gName h1 h2 h3 h4
    · cases h
  · split at h
    · rename_i es kk p z gs e
      cases h
      have key : ∀ (es : List Expr) (gs : List (Nat × GX)), cTargets N sc0 es = some gs → PGs X es (tGs (pk X ca) (gs.map (·.1)) (gs.map (·.2))) ∧ gs.length = es.length ∧ (assignEach es X.env).length = es.length ∧ (assignEach es X.env).findIdx? (·.1) = none := by
        intro es
        induction es with
        | nil => intro gs e; cases e; exact ⟨x_gsNil, rfl, rfl, rfl⟩
        | cons e1 r ih =>
          intro gs e
          unfold cTargets at e
          split at e
          · rename_i hq
            exact absurd hq (by simp)
          · rename_i x p r' heq
            cases heq
            split at e
            · rename_i i ei
              split at e
              · rename_i gs' er
                cases e
                obtain ⟨a1, a2, a3, a4⟩ := ih gs' er
                obtain ⟨h1, h2, h3, h4⟩ := H _ _ ei
                refine ⟨x_gsCons (sl := [i]) (x_gName h1 h2 h3 h4) a1 rfl, by simp [a2], ?_, ?_⟩
                · show (assignEach r X.env).length + 1 = _
                  rw [a3]; rfl
                · show List.findIdx? (·.1) ((false, _) :: assignEach r X.env) = none
                  rw [List.findIdx?_cons]
                  simp [a4]
              · cases e
            · cases e
          · cases e
      obtain ⟨a1, a2, a3, a4⟩ := key es gs e
      exact x_gTup hc a1 (by simp [a2]) a3 a4
    · cases h
  · cases h
theorem gx_fn {x : Str} {i : Nat} (h : gxName N sc x = some i) : N[i]? = some x ∧ (sc.names.lookup x = some .local ∨ sc.names.lookup x = some .cell) := by
  unfold gxName at h
  split at h
  · rename_i e; exact ⟨slotOf_at h, .inl e⟩
  · rename_i e; exact ⟨slotOf_at h, .inr e⟩
  · cases h
theorem swaps_none {e : Expr} {l : Nat} {env : Env} {t : Option Expr} (h1 : ∀ a b c d, e ≠ .ListComp a b c d) (h2 : ∀ a b c d, e ≠ .SetComp a b c d) (h3 : ∀ a b c d f, e ≠ .DictComp a b c d f) : swapsWith e t l env = pure false := by
  cases e <;> first
    | rfl
    | exact absurd rfl (h1 _ _ _ _)
    | exact absurd rfl (h2 _ _ _ _)
    | exact absurd rfl (h3 _ _ _ _ _)
theorem one_bool {op : BoolOp} {e : Expr} {t : TE} (h : PE X e t) : PE X (.BoolOp op [e] pos) t := ⟨fun pins s σ H Q I q => h.run pins s σ H Q I q⟩
theorem fold_ok {e : Expr} {env : Env} (h : ∀ a b c, e ≠ .Set a b c) : ∀ x, foldedSetIterable e env x = pure x := by
  intro x
  cases e <;> first
    | rfl
    | exact absurd rfl (h _ _ _)

/-! ### lists of expressions -/
/-- what is known of a compiler of expressions -/
def SE (X : Cx) (ca : Nat → Addr) (W : WX) (f : Expr → Option EX) : Prop := ∀ e a, f e = some a → PE X e (tE (pk X ca) W a) ∧ notStar e = true
theorem args_ok {f : Expr → Option EX} (hf : SE X ca W f) : ∀ {es : List Expr} {a : AX}, cArgs f es = some a → PA X es (tA (pk X ca) W a) ∧ LenA a es.length ∧ es.all notStar = true
  | [], a, h => by cases h; exact ⟨x_nil, lenA_nil, rfl⟩
  | e :: r, a, h => by
    unfold cArgs at h
    split at h
    · rename_i a1 e1
      split at h
      · rename_i b1 e2
        cases h
        obtain ⟨h1, h2⟩ := hf _ _ e1
        obtain ⟨h3, h4, h5⟩ := args_ok hf e2
        exact ⟨x_cons (notStar_of h2) h1 h3, lenA_cons h4, by rw [List.all_cons, h2, h5]; rfl⟩
      · cases h
    · cases h
theorem kws_ok {f : Expr → Option EX} (hf : SE X ca W f) : ∀ {kws : List Keyword} {ps : List Str} {a : AX}, cKws f kws ps = some a → L2.PK X kws (tA (pk X ca) W a) ∧ LenA a kws.length ∧ kwNames kws ps = true
  | [], [], a, h => by cases h; exact ⟨x_knil, lenA_nil, rfl⟩
  | [], _ :: _, a, h => by cases h
  | ⟨none, v, p⟩ :: r, ps, a, h => by unfold cKws at h; cases h
  | ⟨some x, v, p⟩ :: r, [], a, h => by cases h
  | ⟨some x, v, p⟩ :: r, q :: ps, a, h => by
    unfold cKws at h
    split at h
    · rename_i ex
      split at h
      · rename_i a1 e1
        split at h
        · rename_i b1 e2
          cases h
          obtain ⟨h3, h4, h5⟩ := kws_ok hf e2
          exact ⟨x_kcons (hf _ _ e1).1 h3, lenA_cons h4, by unfold kwNames; rw [ex, h5]; rfl⟩
        · cases h
      · cases h
    · cases h
theorem and_ok {f : Expr → Option EX} (hf : SE X ca W f) : ∀ {es : List Expr} {a : EX}, cAnd f es = some a → PE X (.BoolOp .And es pos) (tE (pk X ca) W a)
  | [], a, h => by cases h
  | [e], a, h => one_bool (hf _ _ h).1
  | e :: e2 :: r, a, h => by
    unfold cAnd at h
    split at h
    · rename_i a1 e1
      split at h
      · rename_i b1 e3
        cases h
        exact x_and (hf _ _ e1).1 (and_ok hf e3)
      · cases h
    · cases h
theorem or_ok {f : Expr → Option EX} (hf : SE X ca W f) : ∀ {es : List Expr} {a : EX}, cOr f es = some a → PE X (.BoolOp .Or es pos) (tE (pk X ca) W a)
  | [], a, h => by cases h
  | [e], a, h => one_bool (hf _ _ h).1
  | e :: e2 :: r, a, h => by
    unfold cOr at h
    split at h
    · rename_i a1 e1
      split at h
      · rename_i b1 e3
        cases h
        exact x_or (hf _ _ e1).1 (or_ok hf e3)
      · cases h
    · cases h
theorem tand_ok {f : Expr → Option TX} (hf : ∀ e a, f e = some a → PT X e (tT (pk X ca) W a)) : ∀ {es : List Expr} {a : TX}, cTAnd f es = some a → PW X (.BoolOp .And es pos) (tT (pk X ca) W a)
  | [], a, h => by cases h
  | [e], a, h => pw_and1 (hf _ _ h)
  | e :: e2 :: r, a, h => by
    unfold cTAnd at h
    split at h
    · rename_i a1 e1
      split at h
      · rename_i b1 e3
        cases h
        exact x_tand (hf _ _ e1) (tand_ok hf e3)
      · cases h
    · cases h
theorem tor_ok {f : Expr → Option TX} (hf : ∀ e a, f e = some a → PT X e (tT (pk X ca) W a)) : ∀ {es : List Expr} {a : TX}, cTOr f es = some a → PW X (.BoolOp .Or es pos) (tT (pk X ca) W a)
  | [], a, h => by cases h
  | [e], a, h => pw_or1 (hf _ _ h)
  | e :: e2 :: r, a, h => by
    unfold cTOr at h
    split at h
    · rename_i a1 e1
      split at h
      · rename_i b1 e3
        cases h
        exact x_tor (hf _ _ e1) (tor_ok hf e3)
      · cases h
    · cases h
theorem part_ok {f : Expr → Option EX} (hf : SE X ca W f) : ∀ {e : Option Expr} {a : Fr → M (Option Int)}, cPart f e = some a → PO X e (tO (pk X ca) W a)
  | none, a, h => by cases h; exact x_none
  | some e, a, h => by
    simp only [cPart] at h
    split at h
    · rename_i a1 e1
      cases h
      exact x_some (hf _ _ e1).1
    · cases h
end
end LG
set_option Elab.async false
set_option linter.all false
set_option maxRecDepth 100000
set_option maxHeartbeats 4000000
/-! LG17: the induction over expressions. -/
namespace LG
open PySem PySem.Spec PyProof.Rows L2
section
variable {g : Glob} {call : Call} {ca : Nat → Addr} {k : Nat} {N : List Str} {pos : Pos}
def SoundE (g : Glob) (call : Call) (ca : Nat → Addr) (k : Nat) (N : List Str) (n : Nat) : Prop :=
  ∀ (W : WX) (X : Cx) (sc : Scope), Ctx2 g call ca k N W X sc → (∀ e a, cE g call N n sc e = some a → PE X e (tE (pk X ca) W a) ∧ notStar e = true) ∧ (∀ e a, cT g call N n sc e = some a → PT X e (tT (pk X ca) W a)) ∧ ∀ e tg a, cI g call N n sc e tg = some a → PI X tg e (tI (pk X ca) W a)
theorem c_name {W : WX} {X : Cx} {sc : Scope} (c : Ctx2 g call ca k N W X sc) {n : Nat} {x : Str} {p : Pos} {a : EX} (h : cE g call N (n + 1) sc (.Name x p) = some a) : PE X (.Name x p) (tE (pk X ca) W a) := by
  have es := c.sc
  have eN := c.nN
  subst es
  subst eN
  simp only [cE] at h
  split at h
  · cases h
  · rename_i ho
    obtain ⟨hd, hcd, hnm⟩ := odd_not (by simpa using ho)
    split at h
    · rename_i hv
      split at h
      · rename_i i ei
        cases h
        exact x_var (slotOf_at ei) (seen_vis hv) hd hcd
      · cases h
    · split at h
      · rename_i hgl
        split at h
        · rename_i d ed
          cases h
          obtain ⟨v, u, h1, h2, h3⟩ := c.gl.consts x d ed
          exact x_const (pe_glob (glob_gl hgl) h1 h2 hd) h3
        · cases h
      · cases h
theorem plainIx_of {b : Expr} (h : isSlice b = false) : PlainIx b := by
  cases b <;> first
    | (cases h; done)
    | (intro a b c d z; cases z; done)
    | exact fun _ _ _ _ z => nomatch z
    | (unfold PlainIx; intros; first | rfl | trivial | simp)
theorem c_call {W : WX} {X : Cx} {sc : Scope} {n : Nat} (ih : SoundE g call ca k N n) (c : Ctx2 g call ca k N W X sc) {f : Expr} {es : List Expr} {kws : List Keyword} {p : Pos} {a : EX} (h : cE g call N (n + 1) sc (.Call f es kws p) = some a) : PE X (.Call f es kws p) (tE (pk X ca) W a) := by
  have esc := c.sc
  have eN := c.nN
  obtain ⟨hE, hT, hI⟩ := ih W X sc c
  cases f with
  | Name x px =>
    simp only [cE] at h
    split at h
    · cases h
    · rename_i ho
      simp only [Bool.or_eq_true, not_or, Bool.not_eq_true, Bool.not_eq_false'] at ho
      obtain ⟨⟨hhot, hodd⟩, hgl⟩ := ho
      obtain ⟨hd, hcd, hnm⟩ := odd_not hodd
      have hG : Gl X x := glob_gl (by rw [esc]; simpa using hgl)
      split at h
      · rename_i i ps ed
        split at h
        · rename_i aa bb ea eb
          split at h
          · rename_i hl
            cases h
            obtain ⟨f, fd, hm, hk, hb, F⟩ := c.gl.defs x i ps ed
            obtain ⟨hA, hLA, hS⟩ := args_ok hE ea
            obtain ⟨hK, hLB, hN⟩ := kws_ok hE eb
            obtain ⟨k1, k2, k3⟩ := kw_facts (env := X.env) (pos := p) hN
            cases es with
            | nil =>
              cases ea
              exact x_call0 F (c.room hhot) c.gd hG hm hk hb c.tk hd hK k1 k2 (by rw [k3]; rfl) hLB (by simpa using hl)
            | cons e r =>
              rw [List.all_cons, Bool.and_eq_true] at hS
              have hS' : (e :: r).all notStar = true := by rw [List.all_cons, hS.1, hS.2]; rfl
              exact x_call F (c.room hhot) c.gd hG hm hk hb c.tk hd hA hK k1 k2 (notStar_of hS.1) (by rw [any_star hS', k3]; rfl) hLA hLB hl
          · cases h
        · cases h
      · rename_i ed
        split at h
        · cases h
        · split at h
          · rename_i hx
            have hx : x = "isinstance" := by simpa using hx
            subst hx
            split at h
            · rename_i e1 t tp
              split at h
              · rename_i ht
                simp only [Bool.and_eq_true, Bool.not_eq_true'] at ht
                obtain ⟨⟨ht1, ht2⟩, ht3⟩ := ht
                obtain ⟨td, _, tn⟩ := odd_not ht2
                split at h
                · rename_i a1 ty e2 e3
                  cases h
                  obtain ⟨hp, hs⟩ := hE _ _ e2
                  have hGt : Gl X t := glob_gl (by rw [esc]; exact ht1)
                  rcases ty_ok e3 with ⟨y1, y2, y3⟩ | ⟨cc, rfl, y2⟩
                  · exact x_isB y1 hG (c.gl.blt _ (by decide +kernel)) hGt (c.gl.blt _ (by
                      simp only [List.mem_cons, List.not_mem_nil, or_false] at y2
                      rcases y2 with rfl | rfl | rfl | rfl | rfl | rfl <;> decide +kernel)) y3 tn td (notStar_of hs) hp
                  · exact x_isX c.cl y2 hG (c.gl.blt _ (by decide +kernel)) hGt td (notStar_of hs) hp
                · cases h
              · cases h
            · cases h
          · split at h
            · rename_i ff e1 r ef
              split at h
              · rename_i aa e2
                cases h
                obtain ⟨hA, hLA, hS⟩ := args_ok hE e2
                rw [List.all_cons, Bool.and_eq_true] at hS
                obtain ⟨b1, b2, b3, b4⟩ := fn_ok c hhot ef
                rcases b4 with ⟨id, b5, b6⟩ | ⟨T, b5, b6⟩
                · exact x_fnB (notStar_of hS.1) (any_star hS.2) b6 hG (c.gl.blt _ b1) b5 b2 b3 hA
                · exact x_fnT (notStar_of hS.1) (any_star hS.2) b6 hG (c.gl.blt _ b1) b5 b2 b3 hA
              · cases h
            · cases h
  | Attribute o m ap =>
    cases kws with
    | cons _ _ => simp only [cE] at h; cases h
    | nil =>
      simp only [cE] at h
      split at h
      · rename_i hh
        simp only [Bool.and_eq_true, Bool.not_eq_true', decide_eq_true_eq] at hh
        obtain ⟨⟨⟨h0, h1⟩, h2⟩, h3⟩ := hh
        split at h
        · rename_i ff fo aa e1 e2 e3
          cases h
          obtain ⟨id, m1, m2, m3⟩ := mt_ok c e1
          obtain ⟨hA, hLA, hS⟩ := args_ok hE e3
          cases es with
          | nil =>
            cases e3
            exact x_mt0 m1 m2 m3 (hE _ _ e2).1 (base_ok h3) h1
          | cons e r =>
            have hS' := hS
            rw [List.all_cons, Bool.and_eq_true] at hS
            refine x_mt m1 m2 m3 (hE _ _ e2).1 hA (base_ok h3) ?_ h1 (star_of (notStar_of hS.1)) (any_star hS.2)
            rw [all_star hS']
            simp only [List.length_cons, List.length_nil, Bool.true_and] at h2 ⊢
            simp [backToKw, keywordEach]
            omega
        · cases h
      · cases h
  | _ => simp only [cE] at h; cases h
theorem rel_loc {scope sc : Scope} {x : Str} (h : scope.names.lookup x = some .local ∨ scope.names.lookup x = some .cell) : (relSc scope sc).names.lookup x = scope.names.lookup x := by
  rw [rel_lookup]
  rcases h with h | h <;> (rw [h]; rfl)
theorem lc_parts {W : WX} {X : Cx} {sc : Scope} {n : Nat} (ih : SoundE g call ca k N n) (c : Ctx2 g call ca k N W X sc) {elt tg it : Expr} {ifs : List Expr} {scope : Scope} {p : Pos} {a : EX} (h : cE g call N (n + 1) sc (.ListComp elt [⟨tg, it, ifs, 0⟩] scope p) = some a) :
    ∃ (fi : IX) (sl : List Nat) (gx : GX) (ft : TX) (fe : EX), a = eLc ((ownOf N scope).map (·.2)) fi gx ft fe ∧ X.calm = true ∧ X.N.Nodup ∧ PI X tg it (tI (pk X ca) W fi) ∧ BlkOk X.N X.env.scope scope (ownOf N scope) ∧
      (∀ (s : Shared) (H : Hp) (C : Addr) (cl : List (Str × Addr)) (fp : List Addr), PG (X.blk s H scope (compEnvC scope cl C X.env) fp) tg (tG (pk X ca) sl gx)) ∧ (∀ (s : Shared) (H : Hp) (C : Addr) (cl : List (Str × Addr)) (fp : List Addr), PTs (X.blk s H scope (compEnvC scope cl C X.env) fp) ifs (tT (pk X ca) Wn ft)) ∧
      (∀ (s : Shared) (H : Hp) (C : Addr) (cl : List (Str × Addr)) (fp : List Addr), PE (X.blk s H scope (compEnvC scope cl C X.env) fp) elt (tE (pk X ca) Wn fe)) ∧ (∀ j ∈ sl, j ∈ (ownOf N scope).map (·.2)) ∧ (∀ x, foldedSetIterable it X.env x = pure x) := by
  have esc := c.sc
  have eN := c.nN
  obtain ⟨hE, hT, hI⟩ := ih W X sc c
  simp only [cE] at h
  split at h
  · rename_i hb
    rw [Bool.and_eq_true, Bool.not_eq_true'] at hb
    have hcalm := c.calm hb.1
    have ok : BlkOk X.N X.env.scope scope (ownOf N scope) := by
      rw [esc, eN]
      exact blkOk_by hb.2
    have hN : X.N.Nodup := by rw [eN]; exact c.nd
    split at h
    · rename_i fi sl gx fe ei et ee
      split at h
      · rename_i hsl
        have hsl' : ∀ j ∈ sl, j ∈ (ownOf N scope).map (·.2) := fun j hj => by
          have z := List.all_eq_true.mp hsl j hj
          simpa using z
        have hG : ∀ (s : Shared) (H : Hp) (C : Addr) (cl : List (Str × Addr)) (fp : List Addr), PG (X.blk s H scope (compEnvC scope cl C X.env) fp) tg (tG (pk X ca) sl gx) := fun s H C cl fp => by
          have cb := ctx_blk c ok.kind s H C cl fp
          refine tgt_ok (X := X.blk s H scope (compEnvC scope cl C X.env) fp) (N := N) hcalm (fun x i hx => ?_) et
          obtain ⟨g1, g2⟩ := gx_fn hx
          have e3 : (X.blk s H scope (compEnvC scope cl C X.env) fp).env.scope.names.lookup x = scope.names.lookup x := by
            rw [cb.sc]; exact rel_loc g2
          refine ⟨hN, by show X.N[i]? = _; rw [eN]; exact g1, ?_, ?_⟩
          · unfold L2.Loc
            rw [e3]
            rcases g2 with g2 | g2
            · exact .inl g2
            · exact .inr g2
          · rcases g2 with g2 | g2
            · exact .inr (by rw [e3]; exact g2)
            · refine .inl ?_
              show (scope.names.lookup x == some .cell) = true
              rw [g2]; rfl
        have hEl : ∀ (s : Shared) (H : Hp) (C : Addr) (cl : List (Str × Addr)) (fp : List Addr), PE (X.blk s H scope (compEnvC scope cl C X.env) fp) elt (tE (pk X ca) Wn fe) := fun s H C cl fp =>
          ((ih Wn _ _ (ctx_blk c ok.kind s H C cl fp)).1 _ _ ee).1
        have hfo : ∀ x, foldedSetIterable it X.env x = pure x := fold_ok fun a b cc z => by
          subst z
          cases n with
          | zero => simp only [cI] at ei; cases ei
          | succ n => simp only [cI] at ei; cases ei
        split at h
        · cases h
          exact ⟨fi, sl, gx, tTrue, fe, rfl, hcalm, hN, hI _ _ _ ei, ok, hG, fun s H C cl fp => PTs.imp pts_nil fun σ H Q q => by
            obtain ⟨μ, f, s, hs, hf, o⟩ := q
            exact o μ H true Mono.refl hs rfl, hEl, hsl', hfo⟩
        · rename_i c1
          split at h
          · rename_i q eq
            cases h
            exact ⟨fi, sl, gx, q, fe, rfl, hcalm, hN, hI _ _ _ ei, ok, hG, fun s H C cl fp => pts_one ((ih Wn _ _ (ctx_blk c ok.kind s H C cl fp)).2.1 _ _ eq), hEl, hsl', hfo⟩
          · cases h
        · cases h
      · cases h
    · cases h
  · cases h
theorem sound_e : ∀ n, SoundE g call ca k N n := by
  intro n
  induction n using Nat.strongRecOn with
  | ind n IH =>
  cases n with
  | zero => exact fun W X sc c => ⟨fun e a h => (by simp only [cE] at h; cases h), fun e a h => (by simp only [cT] at h; cases h), fun e tg a h => (by simp only [cI] at h; cases h)⟩
  | succ n =>
    have ih := IH n (Nat.lt_succ_self n)
    intro W X sc c
    have hE0 : ∀ e a, cE g call N (n + 1) sc e = some a → PE X e (tE (pk X ca) W a) ∧ notStar e = true := by
      obtain ⟨hE, hT, hI⟩ := ih W X sc c
      intro e a h
      cases e with
      | Name x p => exact ⟨c_name c h, rfl⟩
      | Constant cc j p =>
        refine ⟨?_, rfl⟩
        cases cc with
        | none => simp only [cE] at h; cases h; exact x_const pe_non fun _ _ => .non
        | bool b => simp only [cE] at h; cases h; exact x_const pe_bl fun _ _ => .bl b
        | int i => simp only [cE] at h; cases h; exact x_const pe_int fun _ _ => .int i
        | str s => simp only [cE] at h; cases h; exact x_const pe_str fun _ _ => .str s
        | _ => simp only [cE] at h; cases h
      | Tuple es kk p =>
        refine ⟨?_, rfl⟩
        simp only [cE] at h
        split at h
        · rename_i aa ea; cases h; exact x_tup (args_ok hE ea).1
        · cases h
      | List es p =>
        refine ⟨?_, rfl⟩
        simp only [cE] at h
        split at h
        · rename_i aa ea; cases h; exact x_lst (args_ok hE ea).1
        · cases h
      | Dict ks vs p =>
        refine ⟨?_, rfl⟩
        simp only [cE] at h
        split at h
        · rename_i e1
          obtain ⟨rfl, rfl⟩ := dctKind_0 e1
          cases h
          exact x_dct
        · rename_i kk ee e1
          obtain ⟨j, kp, rfl, rfl⟩ := dctKind_1 e1
          split at h
          · rename_i x ex; cases h; exact x_box (hE _ _ ex).1
          · cases h
        · cases h
      | BoolOp op es p =>
        refine ⟨?_, rfl⟩
        cases op with
        | And => simp only [cE] at h; exact and_ok hE h
        | Or => simp only [cE] at h; exact or_ok hE h
      | UnaryOp op x p =>
        refine ⟨?_, rfl⟩
        cases op with
        | Not =>
          simp only [cE] at h
          split at h
          · rename_i aa ea; cases h; exact x_not (hE _ _ ea).1
          · cases h
        | USub =>
          simp only [cE] at h
          split at h
          · rename_i aa ea; cases h; exact x_un (fun σ₀ => ok_neg) (hE _ _ ea).1
          · cases h
        | _ => simp only [cE] at h; cases h
      | BinOp x o y p =>
        refine ⟨?_, rfl⟩
        simp only [cE] at h
        split at h
        · rename_i f aa bb e1 e2 e3; cases h; exact x_bin (bin_ok c e1) (hE _ _ e2).1 (hE _ _ e3).1
        · cases h
      | IfExp t x y p =>
        refine ⟨?_, rfl⟩
        simp only [cE] at h
        split at h
        · rename_i f aa bb e1 e2 e3; cases h; exact x_if (hT _ _ e1) (hE _ _ e2).1 (hE _ _ e3).1
        · cases h
      | Compare x os ys p =>
        refine ⟨?_, rfl⟩
        match os, ys, h with
        | [o], [y], h =>
          simp only [cE] at h
          split at h
          · rename_i hp
            split at h
            · rename_i f aa bb e1 e2 e3; cases h; exact x_cmp hp (cmp_ok c e1) (hE _ _ e2).1 (hE _ _ e3).1
            · cases h
          · cases h
        | [o, o2], [y, z], h =>
          simp only [cE] at h
          split at h
          · rename_i hp
            rw [Bool.and_eq_true] at hp
            split at h
            · rename_i f f2 aa bb cc e1 e2 e3 e4 e5; cases h; exact x_chain hp.2 (cmp_ok c e1) (cmp_ok c e2) (hE _ _ e3).1 (hE _ _ e4).1 (hE _ _ e5).1
            · cases h
          · cases h
        | [], [], h => simp only [cE] at h; cases h
        | [], _ :: _, h => simp only [cE] at h; cases h
        | [_], [], h => simp only [cE] at h; cases h
        | [_], _ :: _ :: _, h => simp only [cE] at h; cases h
        | [_, _], [], h => simp only [cE] at h; cases h
        | [_, _], [_], h => simp only [cE] at h; cases h
        | [_, _], _ :: _ :: _ :: _, h => simp only [cE] at h; cases h
        | _ :: _ :: _ :: _, [], h => simp only [cE] at h; cases h
        | _ :: _ :: _ :: _, [_], h => simp only [cE] at h; cases h
        | _ :: _ :: _ :: _, _ :: _ :: _, h => simp only [cE] at h; cases h
      | Subscript x b p =>
        refine ⟨?_, rfl⟩
        by_cases hsl : isSlice b = true
        · cases b with
          | Slice lo hi st p2 =>
            cases st with
            | none =>
              simp only [cE] at h
              split at h
              · rename_i aa l u e1 e2 e3; cases h; exact x_slc (hE _ _ e1).1 (part_ok hE e2) (part_ok hE e3)
              · cases h
            | some st =>
              cases lo with
              | some _ => simp only [cE, isSlice] at h; cases h
              | none =>
                cases hi with
                | some _ => simp only [cE, isSlice] at h; cases h
                | none =>
                  cases st with
                  | UnaryOp op cst p3 =>
                    cases op with
                    | USub =>
                      cases cst with
                      | Constant cc j p4 =>
                        cases cc with
                        | int i =>
                          by_cases hi : i = 1
                          · subst hi
                            simp only [cE] at h
                            split at h
                            · rename_i aa e1; cases h; exact x_rev (hE _ _ e1).1
                            · cases h
                          · exfalso
                            unfold cE at h
                            simp [isSlice, hi] at h
                        | _ => simp only [cE, isSlice] at h; cases h
                      | _ => simp only [cE, isSlice] at h; cases h
                    | _ => simp only [cE, isSlice] at h; cases h
                  | _ => simp only [cE, isSlice] at h; cases h
          | _ => cases hsl
        · have hsl' : isSlice b = false := by simpa using hsl
          have e0 : cE g call N (n + 1) sc (.Subscript x b p) = (if isSlice b then none else match cE g call N n sc x, cE g call N n sc b with
            | some x, some y => some (eBin idx x y)
            | _, _ => none) := by
            cases b <;> first
              | rfl
              | cases hsl'
          rw [e0, hsl', if_neg Bool.false_ne_true] at h
          split at h
          · rename_i aa bb e1 e2; cases h; exact x_idx (by have := c.un; omega) (plainIx_of hsl') (hE _ _ e1).1 (hE _ _ e2).1
          · cases h
      | ListComp elt gs scope p =>
        refine ⟨?_, rfl⟩
        cases gs with
        | nil => simp only [cE] at h; cases h
        | cons g0 r =>
          obtain ⟨tg, it, ifs, b⟩ := g0
          cases r with
          | cons _ _ => simp only [cE] at h; cases h
          | nil =>
            by_cases hb : b = 0
            · subst hb
              obtain ⟨fi, sl, gx, ft, fe, rfl, h1, h2, h3, h4, h5, h6, h7, h8, h9⟩ := lc_parts ih c h
              exact x_lc h1 h2 h3 h4 h5 h6 h7 h8 h9
            · exfalso
              unfold cE at h
              simp [hb] at h
      | Call f es kws p => exact ⟨c_call ih c h, rfl⟩
      | Attribute o m p =>
        refine ⟨?_, rfl⟩
        simp only [cE] at h
        split at h
        · rename_i hm
          rw [Bool.and_eq_true] at hm
          have em : m = "value" := by simpa using hm.1
          subst em
          split at h
          · rename_i aa e1; cases h; exact x_fld c.cl (hE _ _ e1).1 (base_ok hm.2)
          · cases h
        · cases h
      | _ => simp only [cE] at h; cases h
    obtain ⟨hE, hT, hI⟩ := ih W X sc c
    refine ⟨hE0, fun e a h => ?_, fun e tg a h => ?_⟩
    · cases e with
      | BoolOp op es p =>
        cases op with
        | And => simp only [cT] at h; exact (tand_ok hT h).pt
        | Or => simp only [cT] at h; exact (tor_ok hT h).pt
      | UnaryOp op x p =>
        cases op with
        | Not =>
          simp only [cT] at h
          split at h
          · rename_i aa ea; cases h; exact x_tnot (hT _ _ ea)
          · cases h
        | _ =>
          simp only [cT] at h
          split at h
          · rename_i aa ea; cases h; exact x_tval (hE _ _ ea).1 fun _ => rfl
          · cases h
      | IfExp t x y p => simp only [cT] at h; cases h
      | NamedExpr x y p => simp only [cT] at h; cases h
      | Compare x os ys p =>
        simp only [cT] at h
        split at h
        · rename_i aa ea
          cases h
          cases n with
          | zero => simp only [cE] at ea; cases ea
          | succ n =>
            obtain ⟨hE', _, _⟩ := IH n (by omega) W X sc c
            match os, ys, ea with
            | [o], [y], ea =>
              simp only [cE] at ea
              split at ea
              · rename_i hp
                split at ea
                · rename_i f aa bb e1 e2 e3; cases ea; exact x_tcmp (isB_of e1) hp (cmp_ok c e1) (hE' _ _ e2).1 (hE' _ _ e3).1
                · cases ea
              · cases ea
            | [o, o2], [y, z], ea =>
              simp only [cE] at ea
              split at ea
              · rename_i hp
                rw [Bool.and_eq_true] at hp
                split at ea
                · rename_i f f2 aa bb cc e1 e2 e3 e4 e5; cases ea; exact x_tchain (isB_of e2) hp.2 (cmp_ok c e1) (cmp_ok c e2) (hE' _ _ e3).1 (hE' _ _ e4).1 (hE' _ _ e5).1
                · cases ea
              · cases ea
            | [], [], h => simp only [cE] at h; cases h
            | [], _ :: _, h => simp only [cE] at h; cases h
            | [_], [], h => simp only [cE] at h; cases h
            | [_], _ :: _ :: _, h => simp only [cE] at h; cases h
            | [_, _], [], h => simp only [cE] at h; cases h
            | [_, _], [_], h => simp only [cE] at h; cases h
            | [_, _], _ :: _ :: _ :: _, h => simp only [cE] at h; cases h
            | _ :: _ :: _ :: _, [], h => simp only [cE] at h; cases h
            | _ :: _ :: _ :: _, [_], h => simp only [cE] at h; cases h
            | _ :: _ :: _ :: _, _ :: _ :: _, h => simp only [cE] at h; cases h
        · cases h
      | _ =>
        simp only [cT] at h
        split at h
        · rename_i aa ea; cases h; exact x_tval (hE _ _ ea).1 fun _ => rfl
        · cases h
    · have gen : ∀ e : Expr, (match cE g call N n sc e with | some p => some (iSeq p) | none => none) = some a → PI X tg e (tI (pk X ca) W a) := fun e h => by
        split at h
        · rename_i aa ea; cases h; exact x_seq (hE _ _ ea).1
        · cases h
      have esc := c.sc
      cases e with
      | Call f es kws p =>
        cases f with
        | Name x px =>
          cases kws with
          | cons _ _ => simp only [cI] at h; exact gen _ h
          | nil =>
            simp only [cI] at h
            split at h
            · rename_i hx
              simp only [Bool.and_eq_true] at hx
              have ex : x = "range" := by simpa using hx.1.2
              subst ex
              have hG : Gl X "range" := glob_gl (by rw [esc]; exact hx.1.1)
              have hm : X.mg "range" = none := c.gl.blt _ (by decide +kernel)
              split at h
              · split at h
                · rename_i aa ea
                  cases h
                  exact x_rng1 hG hm (notStar_of (hE _ _ ea).2) (hE _ _ ea).1
                · cases h
              · split at h
                · rename_i aa bb ea eb
                  cases h
                  exact x_rng2 hG hm (notStar_of (hE _ _ ea).2) (notStar_of (hE _ _ eb).2) (hE _ _ ea).1 (hE _ _ eb).1
                · cases h
              · cases h
            · exact gen _ h
        | _ => simp only [cI] at h; exact gen _ h
      | Set a b d => simp only [cI] at h; cases h
      | _ => simp only [cI] at h; exact gen _ h
end
end LG
set_option Elab.async false
set_option linter.all false
set_option maxRecDepth 100000
set_option maxHeartbeats 4000000
/-! LG18: compiled statements keep what they say. -/
namespace LG
open PySem PySem.Spec PyProof.Rows L2
section
variable {g : Glob} {call : Call} {ca : Nat → Addr} {k : Nat} {N : List Str} {pos : Pos}
structure SCtx (g : Glob) (call : Call) (ca : Nat → Addr) (k : Nat) (N : List Str) (W : WX) (X : Cx) (sc : Scope) : Prop extends Ctx2 g call ca k N W X sc where
  cold : g.hot = false
  stk : X.stack = X.env :: X.outer
  frm : X.env.frame = some X.env.locals
  po : PassesOwn (model X.prog X.w) X.A X.env X.xe
  fnA : ∀ x, X.fn x = true
theorem swap_of {X : Cx} {sc : Scope} (hk : X.env.scope.kind = .function) (hs : X.env.scope = sc) {ts vs : List Expr} {k1 k2 : Nat} {p1 p2 : Pos} {r : Option (List Str)} (h : swapN sc ts vs = some r) : swappedStores [.Tuple ts k1 p1] (.Tuple vs k2 p2) X.env = pure r := by
  subst hs
  have hb : (X.env.blockKind != ScopeKind.function) = false := by
    unfold Env.blockKind
    rw [hk]; rfl
  have key : swappedStores [.Tuple ts k1 p1] (.Tuple vs k2 p2) X.env = (
      if (!(ts.length == 2 || ts.length == 3) || vs.length != ts.length) = true then pure none
      else if vs.any isStar = true then pure none
      else if ((swNames X.env.scope ts).length != ts.length || (swNames X.env.scope ts).eraseDups.length != (swNames X.env.scope ts).length) = true then pure none
      else if vs.all (foldedForSure 8) = true then pure none
      else if vs.all (constantsAlone 8) = true then (unsupported "assign.tuple-of-constant-expressions:order-of-the-stores" : Sem Unit) >>= fun _ => pure (some (swNames X.env.scope ts))
      else pure (some (swNames X.env.scope ts))) := by
    unfold swappedStores
    simp only [hb, Bool.or_false]
    have e1 : (fun x : Expr => match x with | .Starred .. => true | _ => false) = isStar := by
      funext x; cases x <;> rfl
    rfl
  rw [key]
  unfold swapN at h
  by_cases c1 : (!(ts.length == 2 || ts.length == 3) || vs.length != ts.length) = true
  · rw [if_pos c1] at h ⊢; cases h; rfl
  · rw [if_neg c1] at h ⊢
    by_cases c2 : vs.any isStar = true
    · rw [if_pos c2] at h ⊢; cases h; rfl
    · rw [if_neg c2] at h ⊢
      by_cases c3 : ((swNames X.env.scope ts).length != ts.length || (swNames X.env.scope ts).eraseDups.length != (swNames X.env.scope ts).length) = true
      · rw [if_pos c3] at h ⊢; cases h; rfl
      · rw [if_neg c3] at h ⊢
        by_cases c4 : vs.all (foldedForSure 8) = true
        · rw [if_pos c4] at h ⊢; cases h; rfl
        · rw [if_neg c4] at h ⊢
          by_cases c5 : vs.all (constantsAlone 8) = true
          · rw [if_pos c5] at h; cases h
          · rw [if_neg c5] at h ⊢; cases h; rfl
theorem swapN_names {sc : Scope} {ts vs : List Expr} {r : List Str} (h : swapN sc ts vs = some (some r)) : r = swNames sc ts ∧ (swNames sc ts).length = ts.length := by
  unfold swapN at h
  split at h
  · cases h
  · split at h
    · cases h
    · split at h
      · cases h
      · rename_i h3
        split at h
        · cases h
        · split at h
          · cases h
          · cases h
            simp only [Bool.or_eq_true, not_or, bne_iff_ne, ne_eq, Decidable.not_not] at h3
            exact ⟨rfl, h3.1⟩
theorem swName_le {sc : Scope} {l : Nat} : ∀ {ts : List Expr}, (ts.filterMap (swName sc l)).length = ts.length → ts.map (swName sc l) = (ts.filterMap (swName sc l)).map some
  | [], _ => rfl
  | t :: ts, h => by
    cases e : swName sc l t with
    | none =>
      rw [List.filterMap_cons, e] at h
      have := List.length_filterMap_le (swName sc l) ts
      simp only [List.length_cons] at h
      omega
    | some y =>
      rw [List.filterMap_cons, e] at h ⊢
      simp only [List.length_cons, Nat.add_right_cancel_iff] at h
      rw [List.map_cons, e, List.map_cons, swName_le h]
theorem swName_name {sc : Scope} {l : Nat} {x y : Str} {p : Pos} (h : swName sc l (.Name x p) = some y) : y = x := by
  simp only [swName] at h
  split at h
  · exact (Option.some.inj h).symm
  · cases h
theorem swapN_two {sc : Scope} {x y : Str} {p1 p2 : Pos} {a b : Expr} {r : List Str} (hx : sc.names.lookup x = some .local) (hy : sc.names.lookup y = some .local) (h : swapN sc [.Name x p1, .Name y p2] [a, b] = some (some r)) : r = [x, y] := by
  obtain ⟨h1, h2⟩ := swapN_names h
  have h3 := swName_le h2
  unfold swNames at h1 h2
  rw [← h1] at h3 h2
  match r, h2, h3 with
  | [u, v], _, h3 =>
    simp only [List.map_cons, List.map_nil, List.cons.injEq, and_true] at h3
    rw [swName_name h3.1, swName_name h3.2]
theorem swapN_three {sc : Scope} {x y z : Str} {p1 p2 p3 : Pos} {a b c : Expr} {r : List Str} (hx : sc.names.lookup x = some .local) (hy : sc.names.lookup y = some .local) (hz : sc.names.lookup z = some .local) (h : swapN sc [.Name x p1, .Name y p2, .Name z p3] [a, b, c] = some (some r)) : r = [x, y, z] := by
  obtain ⟨h1, h2⟩ := swapN_names h
  have h3 := swName_le h2
  unfold swNames at h1 h2
  rw [← h1] at h3 h2
  match r, h2, h3 with
  | [u, v, w], _, h3 =>
    simp only [List.map_cons, List.map_nil, List.cons.injEq, and_true] at h3
    rw [swName_name h3.1, swName_name h3.2.1, swName_name h3.2.2]
theorem blk_ok {W : WX} {X : Cx} {f : Stmt → Option SX} (hf : ∀ s m, f s = some m → PS X s (tSt (pk X ca) W m)) : ∀ {b : List Stmt} {m : SX}, cBlk f b = some m → PSs X b (tSt (pk X ca) W m)
  | [], m, h => by cases h; exact ss_nil
  | [s], m, h => ss_one (hf _ _ h)
  | s :: s2 :: r, m, h => by
    unfold cBlk at h
    split at h
    · rename_i a1 e1
      split at h
      · rename_i b1 e2
        cases h
        exact ss_cons (hf _ _ e1) (blk_ok hf e2)
      · cases h
    · cases h
theorem blk_okH {W : WX} {X : Cx} {c : Addr} {f : Stmt → Option SX} (hf : ∀ s m, f s = some m → PS X s (tStH (pk X ca) W c m)) : ∀ {b : List Stmt} {m : SX}, cBlk f b = some m → PSs X b (tStH (pk X ca) W c m)
  | [], m, h => by cases h; exact hs_of ss_nil
  | [s], m, h => pss_one (hf _ _ h)
  | s :: s2 :: r, m, h => by
    unfold cBlk at h
    split at h
    · rename_i a1 e1
      split at h
      · rename_i b1 e2
        cases h
        exact ss_consH (hf _ _ e1) (blk_okH hf e2)
      · cases h
    · cases h
theorem ctx_suite {W : WX} {X : Cx} {sc : Scope} (c : SCtx g call ca k N W X sc) (a : Addr) (pn : List (Addr × Obj)) : Ctx2 { g with hot := true } call ca k N Wn (X.suite a pn) sc where
  gl := ⟨c.gl.consts, c.gl.defs, c.gl.blt⟩
  nN := c.nN
  nd := c.nd
  kind := c.kind
  sc := c.sc
  calm := fun h => by cases h
  room := fun h => by cases h
  un := c.un
  gd := c.gd
  tk := takes_n
  cl := ⟨c.cl.exc, c.cl.isa, c.cl.sub, c.cl.mg, c.cl.sup⟩
theorem loc_of {X : Cx} {sc : Scope} {x : Str} {i : Nat} (hs : X.env.scope = sc) (h : gxName N sc x = some i) : N[i]? = some x ∧ L2.Loc X.env.scope x := by
  subst hs
  obtain ⟨h1, h2⟩ := gx_fn h
  exact ⟨h1, h2⟩
theorem set_ok {W : WX} {X : Cx} {sc : Scope} (hN : X.N = N) (hnd : N.Nodup) (hs : X.env.scope = sc) (hfn : ∀ x, X.fn x = true) {y : Str} {p ps : Pos} {i : Nat} {e : Expr} {a : EX} (hg : gxName N sc y = some i) (he : PE X e (tE (pk X ca) W a)) (hsw : swapsWith e (some (.Name y p)) ps.line X.env = pure false) :
    PS X (.Assign [.Name y p] e ps) (tSt (pk X ca) W (sAsg (gVar i) a)) := by
  obtain ⟨h1, h2⟩ := loc_of hs hg
  exact s_setN (by rw [hN]; exact hnd) (by rw [hN]; exact h1) h2 he hsw (.inl (hfn y))
theorem h_ok {W : WX} {X : Cx} {sc : Scope} (c : SCtx g call ca k N W X sc) {n : Nat} (a : Addr) (pn : List (Addr × Obj)) {st : Stmt} {m : SX} (h : cH g call N n sc st = some m) : PS (X.suite a pn) st (tStH (pk X ca) Wn a m) := by
  have cs := ctx_suite c a pn
  obtain ⟨hE, hT, hI⟩ := sound_e n Wn _ _ cs
  have hfn : ∀ x, (X.suite a pn).fn x = true := c.fnA
  unfold cH at h
  split at h
  · cases h; exact h_of s_pass
  · cases h; exact h_of s_cont
  · split at h
    · rename_i aa ea; cases h; exact h_of (s_ret (hE _ _ ea).1)
    · cases h
  · rename_i y p e ps
    split at h
    · rename_i i aa ei ea
      split at h
      · cases h
      · cases h
      · cases h
      · rename_i n1 n2 n3
        cases h
        exact h_of (set_ok (X := X.suite a pn) c.nN c.nd c.sc hfn ei (hE _ _ ea).1 (swaps_none n1 n2 n3))
    · cases h
  · rename_i x p1 y p2 k1 p3 a1 b1 k2 p4 ps
    split at h
    · rename_i nm en
      split at h
      · rename_i i j f ei ej ef
        split at h
        · rename_i hh
          obtain ⟨hij, hx, hy⟩ := hh
          cases h
          have er := swapN_two hx hy en
          subst er
          have hsw := swap_of (X := X.suite a pn) (k1 := k1) (k2 := k2) (p1 := p3) (p2 := p4) c.kind c.sc en
          refine s_par2H (X := X.suite a pn) (c := a) rfl (by show X.N.Nodup; rw [c.nN]; exact c.nd) (by show X.N[i]? = _; rw [c.nN]; exact slotOf_at ei) (by show X.N[j]? = _; rw [c.nN]; exact slotOf_at ej) hij ?_ ?_ (args_ok hE ef).1 hsw
          · show X.env.scope.names.lookup x = _
            rw [c.sc]; exact hx
          · show X.env.scope.names.lookup y = _
            rw [c.sc]; exact hy
        · cases h
      · cases h
    · cases h
  · cases h
theorem hs_ok {W : WX} {X : Cx} {sc : Scope} (c : SCtx g call ca k N W X sc) {n : Nat} : ∀ {hds : List ExceptHandler} {r : List (Nat × Option Nat × SX)}, cHs g call N n sc hds = some r → ∃ l, HdsC g ca X hds r l
  | [], r, h => by cases h; exact ⟨[], .nil⟩
  | hd :: hds, r, h => by
    unfold cHs at h
    split at h
    · rename_i hq; exact absurd hq (by simp)
    · rename_i x np nm b bs ps r' heq
      cases heq
      split at h
      · rename_i kk m l ek em el
        obtain ⟨l', hl⟩ := hs_ok c el
        split at h
        · rename_i hx
          rw [Bool.and_eq_true, Bool.not_eq_true'] at hx
          obtain ⟨hd0, _, _⟩ := odd_not hx.2
          have hG : Gl X x := glob_gl (by rw [c.sc]; exact hx.1)
          have hsu : ∀ (a : Addr) (pn : List (Addr × Obj)), PSs (X.suite a pn) (b :: bs) (tStH (pk X ca) Wn a m) := fun a pn => blk_okH (X := X.suite a pn) (fun s m hm => h_ok c a pn hm) em
          cases nm with
          | none =>
            cases h
            exact ⟨_, .cons ek hG hd0 trivial hsu hl⟩
          | some y =>
            simp only at h
            split at h
            · rename_i i e1 e2
              cases h
              refine ⟨_, .cons (sl := some i) ek hG hd0 ⟨by rw [c.nN]; exact slotOf_at e2, ?_⟩ hsu hl⟩
              show X.env.scope.names.lookup y = _
              rw [c.sc]; exact e1
            · cases h
        · cases h
      · cases h
    · cases h
theorem sub_asg {o i : Expr} {p : Pos} {env : Env} (h : isSlice i = false) : ∀ v, assign (.Subscript o i p) env v = (do
      let ov ← holding [v] (eval o env)
      let iv ← holding [v, ov] (eval i env)
      standAt p
      holding [v, ov, iv] (setItem ov iv v)
      release [v, ov, iv] []) := by
  intro v
  cases i <;> first
    | (cases h; done)
    | rfl
theorem aug_ok {X : Cx} {W : WX} {o : Operator} {f : Op2} (h : augOf o = some f) : ∀ σ₀, PIp X o (rOp (pk X ca) W σ₀ f) := by
  intro σ₀
  cases o <;> simp only [augOf] at h <;> first
    | (cases h; done)
    | (cases h; exact ip_addI)
    | (cases h; exact ip_subI)
def SoundS (g : Glob) (call : Call) (ca : Nat → Addr) (k : Nat) (N : List Str) (n : Nat) : Prop :=
  ∀ (W : WX) (X : Cx) (sc : Scope), SCtx g call ca k N W X sc → ∀ st m, cS g call N n sc st = some m → PS X st (tSt (pk X ca) W m)
theorem c_asg {W : WX} {X : Cx} {sc : Scope} {n : Nat} (c : SCtx g call ca k N W X sc) {ts : List Expr} {e : Expr} {p : Pos} {m : SX} (h : cS g call N (n + 1) sc (.Assign ts e p) = some m) : PS X (.Assign ts e p) (tSt (pk X ca) W m) := by
  obtain ⟨hE, hT, hI⟩ := sound_e n W X sc c.toCtx2
  have hcalm := c.calm c.cold
  have hN : X.N.Nodup := by rw [c.nN]; exact c.nd
  have tgts : ∀ x i, gxName N sc x = some i → X.N.Nodup ∧ X.N[i]? = some x ∧ L2.Loc X.env.scope x ∧ (X.fn x = true ∨ X.env.scope.names.lookup x = some .local) := fun x i hx => by
    obtain ⟨h1, h2⟩ := loc_of c.sc hx
    exact ⟨hN, by rw [c.nN]; exact h1, h2, .inl (c.fnA x)⟩
  match ts, h with
  | [], h => simp only [cS] at h; cases h
  | _ :: _ :: _, h => simp only [cS] at h; cases h
  | [t], h =>
    cases t with
    | Name y py =>
      simp only [cS] at h
      split at h
      · rename_i i a ei ea
        split at h
        · rename_i elt tg it ifs scope pl _
          cases h
          obtain ⟨h1, h2⟩ := loc_of c.sc ei
          cases n with
          | zero => simp only [cE] at ea; cases ea
          | succ n =>
            obtain ⟨fi, sl, gx, ft, fe, rfl, q1, q2, q3, q4, q5, q6, q7, q8, q9⟩ := lc_parts (sound_e n) c.toCtx2 ea
            by_cases hw : (X.env.blockKind == .function && X.env.kindOf y == some .local && py.line == pl.line && !(scope.names.any fun (n, k) => n == y && (k == .local || k == .cell))) = true
            · have hsw : swapsWith (.ListComp elt [⟨tg, it, ifs, 0⟩] scope pl) (some (.Name y py)) p.line X.env = pure true := by
                unfold swapsWith
                simp only [Expr.pos]
                rw [hw]
              have hyl : X.env.scope.names.lookup y = some .local := by
                simp only [Bool.and_eq_true] at hw
                have := hw.1.1.2
                exact beq_iff_eq.mp this
              exact s_setLc q1 q2 (by rw [c.nN]; exact h1) hyl hsw q3 q4 q5 q6 q7 q8 q9
            · have hw' : (X.env.blockKind == .function && X.env.kindOf y == some .local && py.line == pl.line && !(scope.names.any fun (n, k) => n == y && (k == .local || k == .cell))) = false := (Bool.not_eq_true _).mp hw
              have hsw : swapsWith (.ListComp elt [⟨tg, it, ifs, 0⟩] scope pl) (some (.Name y py)) p.line X.env = pure false := by
                unfold swapsWith
                simp only [Expr.pos]
                rw [hw']
              exact set_ok c.nN c.nd c.sc c.fnA ei (x_lc q1 q2 q3 q4 q5 q6 q7 q8 q9) hsw
        · cases h
        · cases h
        · cases h
        · rename_i n1 n2 n3 n4
          cases h
          exact set_ok c.nN c.nd c.sc c.fnA ei (hE _ _ ea).1 (swaps_none n2 n3 n4)
      · cases h
    | Tuple ts k1 p1 =>
      by_cases hv : ∃ vs k2 p2, e = .Tuple vs k2 p2
      · obtain ⟨vs, k2, p2, rfl⟩ := hv
        simp only [cS] at h
        split at h
        · rename_i en
          split at h
          · rename_i sl t a et ea
            cases h
            exact s_asg (hE _ _ ea).1 (tgt_ok hcalm tgts et) rfl (swap_of c.kind c.sc en) rfl
          · cases h
        · rename_i nm en
          split at h
          · rename_i x px y py a b
            split at h
            · rename_i i j f ei ej ef
              split at h
              · rename_i hh
                obtain ⟨hij, hx, hy⟩ := hh
                cases h
                have er := swapN_two hx hy en
                subst er
                exact s_par2 hcalm hN (by rw [c.nN]; exact slotOf_at ei) (by rw [c.nN]; exact slotOf_at ej) hij (by rw [c.sc]; exact hx) (by rw [c.sc]; exact hy) (args_ok hE ef).1 (swap_of c.kind c.sc en)
              · cases h
            · cases h
          · rename_i x px y py z pz a b c1
            split at h
            · rename_i i j l f ei ej el ef
              split at h
              · rename_i hh
                obtain ⟨hij, hil, hjl, hx, hy, hz⟩ := hh
                cases h
                have er := swapN_three hx hy hz en
                subst er
                exact s_par3 hcalm hN (by rw [c.nN]; exact slotOf_at ei) (by rw [c.nN]; exact slotOf_at ej) (by rw [c.nN]; exact slotOf_at el) hij hil hjl (by rw [c.sc]; exact hx) (by rw [c.sc]; exact hy) (by rw [c.sc]; exact hz) (args_ok hE ef).1 (swap_of c.kind c.sc en)
              · cases h
            · cases h
          · cases h
        · cases h
      · have h' : (match cTarget N sc (.Tuple ts k1 p1), cE g call N n sc e with
            | some (_, t), some a => some (sAsg t a)
            | _, _ => none) = some m ∧ (∀ a b c d, e ≠ .ListComp a b c d) ∧ (∀ a b c d, e ≠ .SetComp a b c d) ∧ (∀ a b c d f, e ≠ .DictComp a b c d f) := by
          cases e <;> first
            | exact absurd ⟨_, _, _, rfl⟩ hv
            | (simp only [cS] at h; cases h; done)
            | (simp only [cS] at h; exact ⟨h, fun _ _ _ _ z => (by cases z), fun _ _ _ _ z => (by cases z), fun _ _ _ _ _ z => (by cases z)⟩)
        obtain ⟨h', n1, n2, n3⟩ := h'
        have hw : swappedStores [.Tuple ts k1 p1] e X.env = pure none := by
          cases e <;> first
            | exact absurd ⟨_, _, _, rfl⟩ hv
            | rfl
        split at h'
        · rename_i sl t a et ea
          cases h'
          exact s_asg (hE _ _ ea).1 (tgt_ok hcalm tgts et) (by show swapsWith e (some (.Tuple ts k1 p1)) p.line X.env = _; exact swaps_none n1 n2 n3) hw rfl
        · cases h'
    | Subscript o i pp =>
      have h' : (if isSlice i then none else match cE g call N n sc o, cE g call N n sc i, cE g call N n sc e with
          | some x, some y, some z => some (sSetI x y z)
          | _, _, _ => none) = some m ∧ (∀ a b c d, e ≠ .ListComp a b c d) ∧ (∀ a b c d, e ≠ .SetComp a b c d) ∧ (∀ a b c d f, e ≠ .DictComp a b c d f) := by
        cases e <;> first
          | (simp only [cS] at h; split at h <;> cases h; done)
          | (simp only [cS] at h; exact ⟨h, fun _ _ _ _ z => (by cases z), fun _ _ _ _ z => (by cases z), fun _ _ _ _ _ z => (by cases z)⟩)
      obtain ⟨h', n1, n2, n3⟩ := h'
      split at h'
      · cases h'
      · rename_i hs
        split at h'
        · rename_i x y z ex ey ez
          cases h'
          exact s_setI (by have := c.un; omega) (hE _ _ ex).1 (hE _ _ ey).1 (hE _ _ ez).1 (sub_asg (by simpa using hs)) (by show swapsWith e (some (.Subscript o i pp)) p.line X.env = _; exact swaps_none n1 n2 n3) (by cases e <;> rfl)
        · cases h'
    | _ => simp only [cS] at h; cases h
theorem sound_s : ∀ n, SoundS g call ca k N n := by
  intro n
  induction n with
  | zero => exact fun W X sc c st m h => (by simp only [cS] at h; cases h)
  | succ n ih =>
    intro W X sc c st m h
    obtain ⟨hE, hT, hI⟩ := sound_e n W X sc c.toCtx2
    have hcalm := c.calm c.cold
    have hN : X.N.Nodup := by rw [c.nN]; exact c.nd
    have tgts : ∀ x i, gxName N sc x = some i → X.N.Nodup ∧ X.N[i]? = some x ∧ L2.Loc X.env.scope x ∧ (X.fn x = true ∨ X.env.scope.names.lookup x = some .local) := fun x i hx => by
      obtain ⟨h1, h2⟩ := loc_of c.sc hx
      exact ⟨hN, by rw [c.nN]; exact h1, h2, .inl (c.fnA x)⟩
    have hB : ∀ {b : List Stmt} {m : SX}, cBlk (cS g call N n sc) b = some m → PSs X b (tSt (pk X ca) W m) := fun {b m} hb => blk_ok (fun s m hm => ih W X sc c s m hm) hb
    cases st with
    | Pass p => simp only [cS] at h; cases h; exact s_pass
    | Break p => simp only [cS] at h; cases h; exact s_break
    | Continue p => simp only [cS] at h; cases h; exact s_cont
    | Expr e p =>
      by_cases hd : ∃ x j q, e = .Constant (.str x) j q
      · obtain ⟨x, j, q, rfl⟩ := hd
        simp only [cS] at h; cases h; exact s_doc
      · have h' : (match cE g call N n sc e with | some a => some (sExpr a) | none => none) = some m ∧ (∀ a b c d, e ≠ .ListComp a b c d) ∧ (∀ a b c d, e ≠ .SetComp a b c d) ∧ (∀ a b c d f, e ≠ .DictComp a b c d f) := by
          cases e with
          | Constant cc j q =>
            cases cc <;> first
              | exact absurd ⟨_, _, _, rfl⟩ hd
              | (simp only [cS] at h; exact ⟨h, fun _ _ _ _ z => (by cases z), fun _ _ _ _ z => (by cases z), fun _ _ _ _ _ z => (by cases z)⟩)
          | _ => first
              | (simp only [cS] at h; cases h; done)
              | (simp only [cS] at h; exact ⟨h, fun _ _ _ _ z => (by cases z), fun _ _ _ _ z => (by cases z), fun _ _ _ _ _ z => (by cases z)⟩)
        obtain ⟨h', n1, n2, n3⟩ := h'
        split at h'
        · rename_i a ea; cases h'; exact s_expr (hE _ _ ea).1 (swaps_none n1 n2 n3)
        · cases h'
    | Return e p =>
      cases e with
      | none => simp only [cS] at h; cases h; exact s_retN
      | some e =>
        simp only [cS] at h
        split at h
        · rename_i a ea; cases h; exact s_ret (hE _ _ ea).1
        · cases h
    | If t a b p =>
      simp only [cS] at h
      split at h
      · rename_i t' x y et ex ey; cases h; exact s_if (hT _ _ et) (hB ex) (hB ey)
      · cases h
    | While t b o p =>
      cases o with
      | cons _ _ => simp only [cS] at h; cases h
      | nil =>
        simp only [cS] at h
        split at h
        · rename_i t' x et ex; cases h; exact s_while c.po (hT _ _ et) (hB ex)
        · cases h
    | For tg it b o p =>
      cases o with
      | cons _ _ => simp only [cS] at h; cases h
      | nil =>
        simp only [cS] at h
        split at h
        · rename_i fi sl t x ei et ex
          cases h
          refine s_for c.po hcalm (hI _ _ _ ei) (tgt_ok hcalm tgts et) (hB ex) (fold_ok fun a b cc z => ?_)
          subst z
          cases n with
          | zero => simp only [cI] at ei; cases ei
          | succ n => simp only [cI] at ei; cases ei
        · cases h
    | Assign ts e p => exact c_asg c h
    | AugAssign t o e p =>
      cases t with
      | Name y py =>
        simp only [cS] at h
        split at h
        · rename_i f i a ef ei ea
          cases h
          obtain ⟨h1, h2⟩ := loc_of c.sc ei
          exact s_aug hN (by rw [c.nN]; exact h1) h2 (hE _ _ ea).1 (aug_ok ef) (.inl (c.fnA y))
        · cases h
      | _ => simp only [cS] at h; cases h
    | Raise e cz p =>
      cases cz with
      | some _ =>
        cases e with
        | none => simp only [cS] at h; cases h
        | some e =>
          cases e with
          | Call f es kws q =>
            cases f <;> (simp only [cS] at h; cases h)
          | _ => simp only [cS] at h; cases h
      | none =>
        cases e with
        | none => simp only [cS] at h; cases h
        | some e =>
          cases e with
          | Call f es kws q =>
            cases f with
            | Name x px =>
              match es, kws, h with
              | [a], [], h =>
                simp only [cS] at h
                split at h
                · rename_i cc f ec ea
                  split at h
                  · rename_i hh
                    simp only [Bool.and_eq_true, Bool.not_eq_true', decide_eq_true_eq] at hh
                    cases h
                    obtain ⟨D, fI, T, TC⟩ := c.cl.exc cc hh.2
                    obtain ⟨hd0, _, _⟩ := odd_not hh.1.2
                    exact s_raise hcalm c.tk T TC (c.cl.mg _ _ ec) c.cl.sup (c.room c.cold) (hE _ _ ea).1 (glob_gl (by rw [c.sc]; exact hh.1.1)) hd0 (notStar_of (hE _ _ ea).2)
                  · cases h
                · cases h
              | [], _, h => simp only [cS] at h; cases h
              | _ :: _ :: _, _, h => simp only [cS] at h; cases h
              | [_], _ :: _, h => simp only [cS] at h; cases h
            | _ => simp only [cS] at h; cases h
          | _ => simp only [cS] at h; cases h
    | Try b hs o f p =>
      match hs, o, f, h with
      | [], _, _, h => simp only [cS] at h; cases h
      | _ :: _, _ :: _, _, h => simp only [cS] at h; cases h
      | _ :: _, [], _ :: _, h => simp only [cS] at h; cases h
      | h0 :: hr, [], [], h =>
        simp only [cS] at h
        split at h
        · rename_i x l ex el
          cases h
          obtain ⟨l', hl⟩ := hs_ok c el
          exact s_try c.cl c.stk c.frm hN c.tk (fun W' pn xe tk po => blk_ok (X := X.tr pn xe) (fun s m hm => ih W' (X.tr pn xe) sc
            { gl := ⟨c.gl.consts, c.gl.defs, c.gl.blt⟩, nN := c.nN, nd := c.nd, kind := c.kind, sc := c.sc, calm := c.calm, room := c.room, un := c.un, gd := c.gd, tk := tk, cl := ⟨c.cl.exc, c.cl.isa, c.cl.sub, c.cl.mg, c.cl.sup⟩, cold := c.cold, stk := c.stk, frm := c.frm, po := po, fnA := c.fnA } s m hm) ex) hl
        · cases h
    | _ => simp only [cS] at h; cases h
end
end LG
set_option Elab.async false
set_option linter.all false
set_option maxRecDepth 100000
set_option maxHeartbeats 4000000
/-! LG19: the defs of the text, and the law's end. -/
namespace LG
open PySem PySem.Spec PyProof.Rows L2
/-- a def as it stands behind the top -/
structure FunL (K : PySem.W.Frag) (mg : Str → Option Value) (d : DefS) (f : Addr) (fd : FuncData) : Prop where
  ex : ∃ (oc : Value) (od : Option Addr) (kV doc pm : Value) (an : Option Addr) (cdv ct : Value) (osl : Array (Option Value)),
    fd = PySem.W.fnOf d.x d.x (stArgs d.st) (stBody d.st) (stScope d.st) .none kV doc pm an cdv ct ∧ K.lookup f = some ⟨oc, od, .func fd, osl⟩ ∧ PySem.W.codeIn K cdv d.x = true
  kp : PySem.W.keepIn K (.ref f) = true
  mgf : mg d.x = some (.ref f)
  sc : FnScope d.N d.ps (stScope d.st)
  kb : KB K fd d.ps
section
variable {P : Program} {w : World} {K : PySem.W.Frag} {mg : Str → Option Value} {base : Heap}
/-- a def by its body, where no repr is under way -/
theorem fnG_of {d : DefS} {f : Addr} {fd : FuncData} {k : Nat} {sp : Sp} (F : FunL K mg d f fd) (len : ∀ vs H Q E, sp vs H Q E → vs.length = d.ps.length)
    (hbody : ∀ (cdv : Value) (A : Around) (outer : List Env) (s : Shared) (H : Hp) (vs : List V) (Q : VK) (E : XK), Room k (A.deeper (envOfC d.x (stScope d.st) s.heap.objs.size f cdv)) → (A.deeper (envOfC d.x (stScope d.st) s.heap.objs.size f cdv)).guards = some [] → sp vs H Q E →
      ∃ t, PSs (cxOf (L2N.CX P w) P w K mg base d.N d.x (stScope d.st) f cdv A outer s H E) (stBody d.st) t ∧ t { nx := fun _ H' => Q .non H', rt := Q } (start d.N vs) H) :
    FnG P w K mg base (k + 1) f fd d.ps sp := by
  obtain ⟨oc, od, kV, doc, pm, an, cdv, ct, osl, rfl, lk, hcd⟩ := F.ex
  have S := F.sc
  refine ⟨len, fun A outer s H args us vs Q E hr hgd e0 hb r hsp => ?_⟩
  have hl := len _ _ _ _ hsp
  have KX : K.In s.heap := e0.mod.kin.keeps fun b o e => (e0.bs b o e).1
  have lim : s.heap.NoLimit := e0.mod.nolimit.keeps fun b o e => (e0.bs b o e).1
  have hkind : ∀ y ∈ d.ps.zip us, (stScope d.st).names.lookup y.1 = some .local ∨ ((stScope d.st).names.lookup y.1 = some .cell ∧ ((cellsFrom (s.heap.objs.size + 1) (stScope d.st).names []).lookup y.1).isSome = true) := fun ⟨n, v⟩ hy => by
    rcases S.par n (List.of_mem_zip hy).1 with q | q
    · exact .inl q
    · exact .inr ⟨q, PySem.W.cellsFrom_some _ _ _ (.inl q)⟩
  refine codeAny_call_function hr.depth (KX _ _ lk) rfl S.co S.gen rfl (PySem.W.codeRec_of KX hcd) (hb _ _ _ _ ?_)
  refine wpAny_newFunctionEnv_cells S.kind hkind fun env he s1 x => ?_
  subst he
  refine ⟨lim.keeps x.toInCall.keep, codeAny_func ?_⟩
  obtain ⟨t, ht, hq⟩ := hbody cdv A outer s H vs Q E (hr.deeper _) hgd hsp
  have I : Inv (cxOf (L2N.CX P w) P w K mg base d.N d.x (stScope d.st) f cdv A outer s H E) [] (start d.N vs) H s1 := inv_start S hr.hd e0 hl r x
  refine wpAny_mono (ht.run [] s1 (start d.N vs) H _ I hq) (fun fl s' hs => ?_) fun e s' hs => hs
  have fin : ∀ {σ' : L2.St} {H' : Hp} {v : V} {u : Value}, Inv (cxOf (L2N.CX P w) P w K mg base d.N d.x (stScope d.st) f cdv A outer s H E) [] σ' H' s' → RelV v u → Q v H' → CE outer P w H s Q u s' :=
    fun {σ' H' v u} J rv q => ⟨v, H', J.os, J.bare, J.base, J.hok, rv, q⟩
  cases fl with
  | ret u =>
    obtain ⟨v, σ', H', J, rv, q⟩ := hs
    exact fin J rv q
  | next =>
    obtain ⟨σ', H', J, q⟩ := hs
    exact fin (v := V.non) (u := Value.none) J rfl q
  | brk =>
    obtain ⟨_, _, _, q⟩ := hs
    exact False.elim q
  | cont =>
    obtain ⟨_, _, _, q⟩ := hs
    exact False.elim q
/-- all that the module holds, as the compiled code reads it -/
structure Ground' (P : Program) (K : PySem.W.Frag) (mg : Str → Option Value) (g : Glob) (ca : Nat → Addr) (ds : List DefS) (fa : Nat → Addr) (fdt : Nat → FuncData) : Prop where
  cold : g.hot = false
  consts : ∀ x d, g.consts.lookup x = some d → ∃ v u, mg x = some u ∧ RelV v u ∧ ∀ μ H, RV K μ H v d
  defs : ∀ x i ps, defOf' x g.defs 0 = some (i, ps) → ∃ d, ds[i]? = some d ∧ d.x = x ∧ d.ps = ps
  blt : ∀ x, x ∈ bltNames → mg x = none
  fns : ∀ i d, ds[i]? = some d → FunL K mg d (fa i) (fdt i)
  exc : ∀ c, c < g.cls.length → ∃ D fI, PySem.LeX.LeTxt P K D fI ∧ PySem.LeX.ExC K D fI (ca c)
  isa : ∀ c, c < g.cls.length → L2.ExcC K (ca c)
  sub : ∀ c k b, g.sub c k = some b → c < g.cls.length ∧ PySem.W.kitOne K (.ref (ca c)) (.ref (ca k)) = some b ∧ PySem.W.exmOne K (.ref (ca c)) (.ref (ca k)) = some b
  mgc : ∀ x c, slotOf x g.cls 0 = some c → mg x = some (.ref (ca c))
  sup : mg "super" = none
theorem start_rf {P' : PK} {μ : List Addr} {H : Hp} {N : List Str} {vs : List V} {ds : List LG.D} (r : RVs P'.K μ H vs ds) (hl : ds.length ≤ N.length) : RF P' μ H (L2.start N vs) (ds.map some ++ List.replicate (N.length - ds.length) none) := by
  have hlen := RVs.length r
  refine ⟨by unfold L2.start; simp [hlen], fun i d e => ?_⟩
  by_cases hi : i < ds.length
  · rw [List.getElem?_append_left (by simpa using hi), List.getElem?_map] at e
    cases e1 : ds[i]? with
    | none => rw [e1] at e; cases e
    | some d' =>
      rw [e1] at e
      cases e
      obtain ⟨v, h1, h2⟩ := r.get e1
      refine ⟨v, ?_, h2⟩
      unfold L2.start
      rw [List.getElem?_append_left (by simpa [hlen] using hi), List.getElem?_map, h1]
      rfl
  · rw [List.getElem?_append_right (by simpa using hi)] at e
    rw [List.getElem?_replicate] at e
    split at e <;> cases e
theorem sout_of {P' : PK} {E : XK} {Q : VK} {μ : List Addr} {H : Hp} {r : SR} (o : Out P' (fun c d _ H => E c d H) [] μ H (RE P') (fnRes r) Q) : SOut P' (fun c d _ H => E c d H) { nx := fun _ H' => Q .non H', rt := Q } μ H r := by
  cases r with
  | next f s => exact fun μ' H' σ' m r q => o μ' H' .non m r .non
  | ret d s => exact fun μ' H' v m r q => o μ' H' v m r q
  | err f c x s => exact fun μ' H' σ' d v m r q rv hd => o μ' H' d v m r rv hd
  | brk f s => exact o.elim
  | cont f s => exact o.elim
  | bad => exact o.elim
/-- every def keeps what its compiled code says, as deep as there is room -/
theorem fn_all {g : Glob} {ca : Nat → Addr} {ds : List DefS} {fa : Nat → Addr} {fdt : Nat → FuncData} (G : Ground' P K mg g ca ds fa fdt) :
    ∀ (k i : Nat) (d : DefS), ds[i]? = some d → FnG P w K mg base k (fa i) (fdt i) d.ps (spI ⟨K, ca, w⟩ (runF (ds.map (defI g)) k) i d.ps.length)
  | 0, i, d, hd => by
    refine ⟨fun vs H Q E h => h.1, fun A outer s H args us vs Q E hr hgd e0 hb r hsp => ?_⟩
    obtain ⟨_, μ, xs, st, _, _, o⟩ := hsp
    exact o.elim
  | k + 1, i, d, hd => by
    refine fnG_of (G.fns i d hd) (fun vs H Q E h => h.1) fun cdv A outer s H vs Q E hr hgd hsp => ?_
    obtain ⟨hl, μ, xs, st, rs, rv, o⟩ := hsp
    have S := (G.fns i d hd).sc
    have ei : (ds.map (defI g))[i]? = some (defI g d) := by rw [List.getElem?_map, hd]; rfl
    have hx : xs.length = d.ps.length := by rw [← RVs.length rv]; exact hl
    unfold runF at o
    simp only [ei] at o
    rw [if_pos (show xs.length = (defI g d).ps from hx)] at o
    have hpl : d.ps.length ≤ d.N.length := by have := congrArg List.length S.pre; rw [List.length_take] at this; omega
    have ctx : SCtx g (runF (ds.map (defI g)) k) ca k d.N (fun c d _ H => E c d H) (cxOf (L2N.CX P w) P w K mg base d.N d.x (stScope d.st) (fa i) cdv A outer s H E) (stScope d.st) :=
      { gl := ⟨G.consts, fun x j ps hj => by
          obtain ⟨d', h1, h2, h3⟩ := G.defs x j ps hj
          subst h2
          subst h3
          have F := G.fns j d' h1
          exact ⟨fa j, fdt j, F.mgf, F.kp, F.kb, fn_all G k j d' h1⟩, G.blt⟩
        nN := rfl, nd := S.nd, kind := S.kind, sc := rfl, calm := fun _ => rfl, room := fun _ => hr
        un := by
          have := hr.un
          show (A.deeper _).units + 200 < cLine
          omega
        gd := hgd
        tk := L2N.takes_of rfl rfl rfl rfl
        cl := ⟨G.exc, G.isa, G.sub, G.mgc, G.sup⟩
        cold := G.cold, stk := rfl, frm := rfl, po := passes_of rfl, fnA := fun _ => rfl }
    have o : Out (⟨K, ca, w⟩ : PK) (fun c d _ H => E c d H) [] μ H (RE ⟨K, ca, w⟩) (fnRes (compD g d (runF (ds.map (defI g)) k) (xs.map some ++ List.replicate (d.N.length - xs.length) none) st)) Q := o
    unfold compD at o
    cases ec : cBlk (cS g (runF (ds.map (defI g)) k) d.N 80 (stScope d.st)) (stBody d.st) with
    | none => rw [ec] at o; exact o.elim
    | some m =>
      rw [ec] at o
      exact ⟨_, blk_ok (fun st m hm => sound_s 80 _ _ _ ctx st m hm) ec, μ, _, st, rs, start_rf (P' := pk (cxOf (L2N.CX P w) P w K mg base d.N d.x (stScope d.st) (fa i) cdv A outer s H E) ca) rv (by rw [hx]; exact hpl), sout_of o⟩
end
end LG
set_option Elab.async false
set_option linter.all false
set_option maxRecDepth 100000
set_option maxHeartbeats 4000000
/-! LG20: the law's end. -/
namespace LG
open PySem PySem.Spec PyProof.Rows L2
/-- the law's promise at the heap behind the top (as the hand layer's law_call, for FnG) -/
theorem law_callG {P : Program} {w : World} {K : PySem.W.Frag} {mg mb : Str → Option Value} {k : Nat} {fa a : Addr} {fd : FuncData} {x : Str} {sp : Sp} {s₁ : Shared} {vs : List Value} {ns : List Int}
    (KX : K.In s₁.heap) (hns : s₁.heap.Ns mainGlobals mg) (hb : s₁.heap.Ns builtinsNs mb) (hbb : ∀ x : Str, x ≠ "__name__" → mb x = bootBuiltins x) (hlim : s₁.heap.NoLimit) (hg : s₁.gens = #[])
    (ha : s₁.heap.get? a = some { cls := .type "list", data := .seq vs.toArray }) (hi : IntsAre vs ns) (hl : ns.length ≤ sizeLine) (hr : Room k callerA)
    (F : ∀ base : Heap, K.In base → base.Ns mainGlobals mg → FnG P w K mg base k fa fd [x] sp) (hbind : ∀ (s : Shared) (u : Value), BindsTo s fd ⟨[u], []⟩ [(x, u)])
    (hsp : ∀ H : Hp, Only H → SqL K H a (ns.map V.int) → sp [.ref a] H (fun v _ => v = .bl true) fun _ _ _ => False) :
    codeAny (model P w) callerA (.call (.ref fa) ⟨[.ref a], []⟩) (fun r s' => r = .ok (.ret (.bool true)) ∧ OldK s₁.heap s'.heap ∧ s'.os = s₁.os ∧ AllBare s'.gens) s₁ := by
  have rv := vals_ints hi
  have lenV := hi.length
  have core : ∀ H : Hp, Only H → SqL K H a (ns.map V.int) → HOk P w H s₁.heap → (∀ b, H b ≠ none → b = a) → (H a ≠ none → K.lookup a = none) →
      codeAny (model P w) callerA (.call (.ref fa) ⟨[.ref a], []⟩) (fun r s' => r = .ok (.ret (.bool true)) ∧ OldK s₁.heap s'.heap ∧ s'.os = s₁.os ∧ AllBare s'.gens) s₁ := by
    intro H hO hS hok hA hK
    have base_of : ∀ {b : Addr} {o : Obj}, s₁.heap.get? b = some o → H b = none → (hidT s₁.heap H).get? b = some o := fun e n => hidT_get e n
    have noA : ∀ {b : Addr} {o : Obj} {es : Array DictEntry} {ep : Nat}, s₁.heap.get? b = some o → o.data = .dict es ep → H b = none := fun {b o es ep} e d => by
      cases q : H b with
      | none => rfl
      | some u =>
        have e' : b = a := hA b (by rw [q]; simp)
        subst e'
        rw [ha] at e; cases e
        have d' : Data.seq vs.toArray _ = Data.dict es ep := d
        cases d'
    have nsK : ∀ {b : Addr} {m : Str → Option Value}, s₁.heap.Ns b m → (hidT s₁.heap H).Ns b m := fun {b m} ⟨o, es, ep, e, d, r⟩ => ⟨o, es, ep, base_of e (noA e d), d, r⟩
    have hKb : K.In (hidT s₁.heap H) := fun b o e => base_of (KX b o e) (by
      cases q : H b with
      | none => rfl
      | some u =>
        have e' : b = a := hA b (by rw [q]; simp)
        subst e'
        rw [hK (by rw [q]; simp)] at e; cases e)
    have hM : L2.Mod K mg (hidT s₁.heap H) := ⟨hKb, nsK hns, ⟨mb, nsK hb, hbb⟩, let ⟨mc, h1, h2⟩ := hlim; ⟨mc, nsK h1, h2⟩⟩
    have e0 : Env0 P w K mg (hidT s₁.heap H) callerA [] s₁ H := ⟨rfl, hM, fun b o e => of_hidT e, Nat.le_of_eq (hidT_size _ _), trivial, fun b hb => absurd (show b ∈ ([] : List Addr) from hb) (by simp), hok, .of_eq hg⟩
    refine codeAny_mono ((F _ hKb (nsK hns)).run callerA [] s₁ H ⟨[.ref a], []⟩ [.ref a] [.ref a] _ _ hr rfl e0 (hbind s₁ (.ref a)) (.cons rfl .nil) (hsp H hO hS)) fun r s' h => ?_
    cases r with
    | error e =>
      obtain ⟨_, _, _, _, _, _, _, _, _, _, _, _, z⟩ := h
      exact z.elim
    | ok fl =>
      cases fl with
      | next => exact False.elim h
      | brk => exact False.elim h
      | cont => exact False.elim h
      | ret u =>
        obtain ⟨v, H', os, bare, un, hok', r', q⟩ := h
        have q' : v = .bl true := q
        subst q'
        obtain rfl : u = Value.bool true := r'
        refine ⟨rfl, OldK.of_keep fun b o e => ?_, os, bare⟩
        cases q : H b with
        | none => exact un.keep b o e q (by intro z; exact absurd (show b ∈ ([] : List Addr) from z) (by simp)) (by simp)
        | some u =>
          rcases hO b with z | ⟨ob, xs, z⟩
          · rw [q] at z; cases z
          · have z2 := un.frzs b ob _ z
            obtain ⟨e1, _⟩ := hok b _ z
            obtain ⟨e2, _⟩ := hok' b _ z2
            rw [e] at e1; cases e1
            exact e2
  cases hk : K.lookup a with
  | some o =>
    have e := KX a o hk
    rw [ha] at e
    cases e
    refine core (fun _ => none) (fun _ => .inl rfl) (.inr ⟨_, vs.toArray, _, hk, rfl, rfl, rfl, by rw [List.size_toArray, lenV]; exact hl, by simpa using rv⟩) (fun b u z => by have z' : (none : Option HO) = some u := z; cases z') (fun b z => absurd rfl z) fun z => absurd rfl z
  | none =>
    refine core (fun b => if b = a then some (.frz { cls := .type "list", data := .seq vs.toArray } (.lst (ns.map V.int))) else none) (fun b => ?_) (.inl (.inr ⟨{ cls := .type "list", data := .seq vs.toArray }, if_pos rfl⟩)) (fun b u z => ?_) (fun b z => ?_) fun _ => hk
    · by_cases hb : b = a
      · exact .inr ⟨_, _, if_pos hb⟩
      · exact .inl (if_neg hb)
    · by_cases hb : b = a
      · have z' := (if_pos hb).symm.trans z
        cases z'
        subst hb
        exact ⟨ha, by rw [List.length_map]; exact hl, vs, _, rv, ha⟩
      · have z' := (if_neg hb).symm.trans z
        cases z'
    · by_cases hb : b = a
      · exact hb
      · exact absurd (if_neg hb) z
/-- the script, as the compiled law takes it -/
theorem script_sp {P : PK} {call : Call} {i : Nat} {H : Hp} {a : Addr} {ns : List Int} (hO : Only H) (hS : SqL P.K H a (ns.map V.int)) {s' : Sto} (hc : call i [.kl (ns.map LG.D.int)] [] = .ok (.bl true) s') : spI P call i 1 [.ref a] H (fun v _ => v = .bl true) fun _ _ _ => False := by
  have kl : KlAt P.K H a (ns.map V.int) := by
    rcases hS with (h | ⟨o, h⟩) | h
    · rcases hO a with z | ⟨o, xs, z⟩
      · have h' : H a = some _ := h
        rw [h'] at z; cases z
      · have h' : H a = some _ := h
        rw [h'] at z; cases z
    · exact .inl ⟨o, h⟩
    · exact .inr h
  have rv : ∀ l : List Int, RVs P.K [] H (l.map V.int) (l.map LG.D.int) := fun l => by
    induction l with
    | nil => exact .nil
    | cons x r ih => exact .cons (.int x) ih
  refine ⟨rfl, [], [.kl (ns.map LG.D.int)], [], ⟨rfl, List.nodup_nil, fun n a o e => by simp at e, fun a ha => by cases ha⟩, .cons (.kl kl (rv ns)) .nil, ?_⟩
  rw [hc]
  exact fun μ' H' v m r q => rv_bl (P := P) q
/-- the law -/
theorem walk_G {l : PySem.W.OpenLaw} {n k : Nat} {q : Program} {loose : List Str} {XP : (Str → Option Value) → Heap → Prop} {YP : World → Heap → Prop} {d : DefRec} {K : Params → PySem.W.Frag} {g : Glob} {ds : List DefS} {iL : Nat} {dL : DefS}
    (hn : l.most = some n) (hn2 : n ≤ sizeLine) (hdf : d.params.defaults = []) (hr : Room k callerA)
    (hY : ∀ (w : World) (h : Heap), YP w h → (K w.params).In h)
    (hL : ds[iL]? = some dL) (hp : dL.ps = [("script" : Str)])
    (G : ∀ (w : World) (mg : Str → Option Value) (fa : Addr) (h : Heap), (K w.params).In h → h.Ns mainGlobals mg → mg d.name = some (.ref fa) →
      ∃ ca fat fdt, Ground' l.prog (K w.params) mg g ca ds fat fdt ∧ fat iL = fa)
    (hlaw : ∀ ns : List Int, ns.length ≤ n → ∃ s', runF (ds.map (defI g)) k iL [.kl (ns.map LG.D.int)] [] = .ok (.bl true) s') :
    PySem.W.WalkO q loose XP YP l.row.toRowW d [] (fun f vs => PySem.call f vs) := by
  refine Att.attach_call hn hdf fun w s₀ s₁ mg mb fa o pm cd doc a vs ns G0 Y ho hd hcd hmg hobj hints hlen hg => ?_
  have KX := hY w _ Y
  obtain ⟨ca, fat, fdt, GG, ef⟩ := G w mg fa _ KX G0.T.g hmg
  have F := GG.fns iL dL hL
  have hkb := F.kb
  rw [hp] at hkb
  refine law_callG (x := "script") (fd := fdt iL) KX G0.T.g G0.T.b G0.T.builtins G0.T.nolimit hg hobj hints (Nat.le_trans hlen hn2) hr (sp := spI ⟨K w.params, ca, w⟩ (runF (ds.map (defI g)) k) iL 1) (fun base hb1 hb2 => ?_) (fun s u => hkb s [u] [] rfl) fun H hO hS => ?_
  · have z := fn_all (P := l.prog) (w := w) (base := base) GG k iL dL hL
    rw [hp, ef] at z
    exact z
  · obtain ⟨s', hc⟩ := hlaw ns hlen
    exact script_sp (P := ⟨K w.params, ca, w⟩) hO hS hc
end LG
set_option Elab.async false
set_option linter.all false
set_option maxRecDepth 100000
set_option maxHeartbeats 4000000
/-! LG21: the facts on the written part, put together. -/
namespace LG
open PySem PySem.Spec PyProof.Rows L2
section
variable {P : Program} {K : PySem.W.Frag} {mg : Str → Option Value} {h : Heap}
abbrev fnT (d : DefS) (kV doc pm : Value) (an : Option Addr) (cdv ct : Value) : FuncData := PySem.W.fnOf d.x d.x (stArgs d.st) (stBody d.st) (stScope d.st) .none kV doc pm an cdv ct
def KB0 (d : DefS) : Prop := ∀ (kV doc pm : Value) (an : Option Addr) (cdv ct : Value) (j : Nat) (vs : List Value), j ≤ d.ps.length → vs.length = d.ps.length → bindArgs (fnT d kV doc pm an cdv ct) ⟨vs.take j, (d.ps.drop j).zip (vs.drop j)⟩ = pure (d.ps.zip vs)
theorem funL_mk {d : DefS} {f : Addr} {oc : Value} {od an : Option Addr} {osl : Array (Option Value)} {kV doc pm cdv ct : Value} (X : K.In h) (G : h.Ns mainGlobals mg) (a : PySem.W.nsIn K mainGlobals d.x = some (some (.ref f)))
    (l : K.lookup f = some ⟨oc, od, .func (fnT d kV doc pm an cdv ct), osl⟩) (c : PySem.W.codeIn K cdv d.x = true) (k : PySem.W.keepIn K (.ref f) = true) (S : C8.scC d.N d.ps (stScope d.st) = true) (kb : KB0 d) : FunL K mg d f (fnT d kV doc pm an cdv ct) where
  ex := ⟨oc, od, kV, doc, pm, an, cdv, ct, osl, rfl, l, c⟩
  kp := k
  mgf := PySem.W.mg_of X G a
  sc := C8.fnScope_by S
  kb := fun s us ws hl => by
    have q := kb kV doc pm an cdv ct us.length (us ++ ws) (by omega) (by rw [List.length_append]; exact hl)
    rw [List.take_left, List.drop_left] at q
    exact .of_eq q
inductive FunsL (K : PySem.W.Frag) (mg : Str → Option Value) : List DefS → List Addr → List FuncData → Prop
  | nil : FunsL K mg [] [] []
  | cons {d : DefS} {f : Addr} {fd : FuncData} {ds : List DefS} {fs : List Addr} {fds : List FuncData} (F : FunL K mg d f fd) (r : FunsL K mg ds fs fds) : FunsL K mg (d :: ds) (f :: fs) (fd :: fds)
theorem FunsL.at {ds : List DefS} {fs : List Addr} {fds : List FuncData} (x : FunsL K mg ds fs fds) (fd0 : FuncData) : ∀ (i : Nat) (d : DefS), ds[i]? = some d → FunL K mg d (fs.getD i 0) (fds.getD i fd0) := by
  induction x with
  | nil => intro i d e; simp at e
  | cons F r ih =>
    intro i d e
    cases i with
    | zero => simp at e; subst e; exact F
    | succ i => simpa using ih i d (by simpa using e)
inductive ConL (K : PySem.W.Frag) (mg : Str → Option Value) : List (Str × LG.D) → Prop
  | nil : ConL K mg []
  | str {x s : Str} {t : Tok} {r : List (Str × LG.D)} (e : mg x = some (.str s t)) (q : ConL K mg r) : ConL K mg ((x, .str s.cps.toList) :: r)
  | int {x : Str} {i : Int} {t : Tok} {r : List (Str × LG.D)} (e : mg x = some (.int i t)) (q : ConL K mg r) : ConL K mg ((x, .int i) :: r)
  | tup {x : Str} {a : Addr} {dd : Option Addr} {n : Nat} {sl : Array (Option Value)} {r : List (Str × LG.D)} (ss : List (Str × Tok)) (e : mg x = some (.ref a)) (l : K.lookup a = some ⟨.type "tuple", dd, .seq (ss.map fun p => Value.str p.1 p.2).toArray n, sl⟩)
      (hz : ss.length ≤ 100) (q : ConL K mg r) : ConL K mg ((x, .tup (ss.map fun p => .str p.1.cps.toList)) :: r)
theorem strs_vals : ∀ ss : List (Str × Tok), Vals (ss.map fun p => V.str p.1) (ss.map fun p => Value.str p.1 p.2)
  | [] => .nil
  | p :: r => .cons ⟨p.2, rfl⟩ (strs_vals r)
theorem strs_rvs (μ : List Addr) (H : Hp) : ∀ ss : List (Str × Tok), RVs K μ H (ss.map fun p => V.str p.1) (ss.map fun p => LG.D.str p.1.cps.toList)
  | [] => .nil
  | p :: r => .cons (.str p.1) (strs_rvs μ H r)
theorem ConL.at {l : List (Str × LG.D)} (c : ConL K mg l) : ∀ x d, l.lookup x = some d → ∃ v u, mg x = some u ∧ RelV v u ∧ ∀ μ H, RV K μ H v d := by
  induction c with
  | nil => intro x d e; simp at e
  | @str y s t r e q ih =>
    intro x d hd
    rw [List.lookup_cons] at hd
    split at hd
    · rename_i hx
      have hx : x = y := by simpa using hx
      subst hx
      cases hd
      exact ⟨.str s, _, e, ⟨t, rfl⟩, fun μ H => .str s⟩
    · exact ih x d hd
  | @int y i t r e q ih =>
    intro x d hd
    rw [List.lookup_cons] at hd
    split at hd
    · rename_i hx
      have hx : x = y := by simpa using hx
      subst hx
      cases hd
      exact ⟨.int i, _, e, ⟨t, rfl⟩, fun μ H => .int i⟩
    · exact ih x d hd
  | @tup y a dd n sl r ss e l hz q ih =>
    intro x d hd
    rw [List.lookup_cons] at hd
    split at hd
    · rename_i hx
      have hx : x = y := by simpa using hx
      subst hx
      cases hd
      exact ⟨.ref a, _, e, rfl, fun μ H => .tup (.inr ⟨_, _, n, l, rfl, rfl, by rw [List.size_toArray, List.length_map, sizeLine_eq]; omega, by simpa using strs_vals ss⟩) (strs_rvs μ H ss)⟩
    · exact ih x d hd
inductive NonL (mg : Str → Option Value) : List Str → Prop
  | nil : NonL mg []
  | cons {x : Str} {r : List Str} (e : mg x = none) (q : NonL mg r) : NonL mg (x :: r)
theorem NonL.at {l : List Str} (c : NonL mg l) : ∀ x, x ∈ l → mg x = none := by
  induction c with
  | nil => intro x hx; cases hx
  | cons e q ih =>
    intro x hx
    rcases List.mem_cons.mp hx with rfl | hx
    · exact e
    · exact ih x hx
structure ClsF (K : PySem.W.Frag) (mg : Str → Option Value) (D fI : Addr) (x : Str) (C : Addr) : Prop where
  e : PySem.LeX.ExC K D fI C
  i : L2.ExcC K C
  m : mg x = some (.ref C)
inductive ClsL (K : PySem.W.Frag) (mg : Str → Option Value) (D fI : Addr) : List Str → List Addr → Prop
  | nil : ClsL K mg D fI [] []
  | cons {x : Str} {C : Addr} {xs : List Str} {cs : List Addr} (c : ClsF K mg D fI x C) (r : ClsL K mg D fI xs cs) : ClsL K mg D fI (x :: xs) (C :: cs)
theorem ClsL.len {D fI : Addr} {xs : List Str} {cs : List Addr} (c : ClsL K mg D fI xs cs) : xs.length = cs.length := by
  induction c with
  | nil => rfl
  | cons _ _ ih => simp [ih]
theorem ClsL.at {D fI : Addr} {xs : List Str} {cs : List Addr} (c : ClsL K mg D fI xs cs) : ∀ i, i < xs.length → ∃ x, xs[i]? = some x ∧ ClsF K mg D fI x (cs.getD i 0) := by
  induction c with
  | nil => intro i hi; simp at hi
  | @cons x C xs cs c r ih =>
    intro i hi
    cases i with
    | zero => exact ⟨x, rfl, c⟩
    | succ i =>
      obtain ⟨y, h1, h2⟩ := ih i (by simpa using hi)
      exact ⟨y, by simpa using h1, by simpa using h2⟩
theorem defs_at (ds : List DefS) : ∀ (n : Nat) (x : Str) (i : Nat) (ps : List Str), defOf' x (ds.map fun d => (d.x, d.ps)) n = some (i, ps) → n ≤ i ∧ ∃ d, ds[i - n]? = some d ∧ d.x = x ∧ d.ps = ps := by
  induction ds with
  | nil => intro n x i ps e; simp [defOf'] at e
  | cons d ds ih =>
    intro n x i ps e
    rw [List.map_cons] at e
    unfold defOf' at e
    split at e
    · rename_i hx
      cases e
      exact ⟨Nat.le_refl _, d, by simp, by simpa using hx, rfl⟩
    · obtain ⟨h1, d', h2, h3, h4⟩ := ih (n + 1) x i ps e
      refine ⟨by omega, d', ?_, h3, h4⟩
      have : i - n = (i - (n + 1)) + 1 := by omega
      rw [this]; simpa using h2
theorem kit_of {C1 C2 : Addr} {b : Bool} (e1 : L2.ExcC K C1) (hd : PySem.W.hasDictIn K C2 = true) (ty : PySem.W.typeIn K (.ref C2) = some (.type "type")) (hs : PySem.W.subIn K (.ref C1) (.ref C2) = some b) (self : PySem.W.subIn K (.ref C1) (.ref C1) = some true) : PySem.W.kitOne K (.ref C1) (.ref C2) = some b := by
  unfold PySem.W.kitOne
  by_cases e : C1 = C2
  · subst e
    rw [self] at hs
    cases hs
    simp
  · have hne : (Value.ref C1 == Value.ref C2) = false := by simp [e]
    rw [hne, if_neg Bool.false_ne_true]
    obtain ⟨cd, hc, _⟩ := PySem.W.any_some hd
    have e2 : ((PySem.W.clsIn K C2).isSome && PySem.W.typeIn K (.ref C2) == some (.type "type")) = true := by rw [hc, ty] <;> rfl
    show (if ((PySem.W.clsIn K C2).isSome && PySem.W.typeIn K (.ref C2) == some (.type "type")) = true then PySem.W.subIn K (.ref C1) (.ref C2) else none) = some b
    rw [if_pos e2]
    exact hs
theorem ground_mk {g : Glob} {ds : List DefS} {fs cs : List Addr} {fds : List FuncData} {D fI : Addr} {t : List (List Bool)} (fd0 : FuncData) (hh : g.hot = false) (hd : g.defs = ds.map fun d => (d.x, d.ps)) (hs : g.sub = subT t) (F : FunsL K mg ds fs fds) (C : ConL K mg g.consts) (B : NonL mg bltNames) (T : PySem.LeX.LeTxt P K D fI) (L : ClsL K mg D fI g.cls cs)
    (hl : t.length ≤ g.cls.length ∧ t.all (fun r => decide (r.length ≤ g.cls.length)) = true) (S : ∀ c k b, subT t c k = some b → PySem.W.subIn K (.ref (cs.getD c 0)) (.ref (cs.getD k 0)) = some b) (self : ∀ c, c < g.cls.length → PySem.W.subIn K (.ref (cs.getD c 0)) (.ref (cs.getD c 0)) = some true) (sup : mg "super" = none) :
    Ground' P K mg g (fun c => cs.getD c 0) ds (fun i => fs.getD i 0) (fun i => fds.getD i fd0) where
  cold := hh
  consts := fun x d e => C.at x d e
  defs := fun x i ps e => by
    rw [hd] at e
    obtain ⟨_, d, h1, h2, h3⟩ := defs_at ds 0 x i ps e
    exact ⟨d, by simpa using h1, h2, h3⟩
  blt := B.at
  fns := F.at fd0
  exc := fun c hc => by
    obtain ⟨x, _, q⟩ := L.at c hc
    exact ⟨D, fI, T, q.e⟩
  isa := fun c hc => by
    obtain ⟨x, _, q⟩ := L.at c hc
    exact q.i
  sub := fun c k b e => by
    rw [hs] at e
    have hc : c < g.cls.length := by
      unfold subT at e
      obtain ⟨r, h1, _⟩ := Option.bind_eq_some_iff.mp e
      obtain ⟨h2, _⟩ := List.getElem?_eq_some_iff.mp h1
      omega
    have hk : k < g.cls.length := by
      unfold subT at e
      obtain ⟨r, h1, h3⟩ := Option.bind_eq_some_iff.mp e
      obtain ⟨h2, _⟩ := List.getElem?_eq_some_iff.mp h3
      have h4 := List.all_eq_true.mp hl.2 r (List.mem_of_getElem? h1)
      have h5 : r.length ≤ g.cls.length := by simpa using h4
      omega
    obtain ⟨x, _, q⟩ := L.at c hc
    obtain ⟨y, _, p⟩ := L.at k hk
    exact ⟨hc, kit_of q.i p.e.hdC p.e.tyC (S c k b e) (self c hc), PySem.W.exm_ref p.e.exC p.e.hdC p.e.tyC (S c k b e)⟩
  mgc := fun x c e => by
    have h1 := slotOf_at e
    obtain ⟨hc, _⟩ := List.getElem?_eq_some_iff.mp h1
    obtain ⟨y, h2, q⟩ := L.at c hc
    rw [h1] at h2
    cases h2
    exact q.m
  sup := sup
theorem along_ve : PySem.W.alongIn K "__init__" PySem.HandSPX.veTail = some (some (.builtin "ValueError.__init__")) := by kernel_rfl
theorem super_of {C D : Addr} {cd : ClassData} {pre : List Addr} (hc : PySem.W.clsIn K C = some cd) (hm : cd.mro = pre.map Value.ref ++ .ref D :: PySem.HandSPX.veTail) (hp : ∀ x, x ∈ pre → x ≠ D) : PySem.W.ks_superIn K C D "__init__" = some (some (.builtin "ValueError.__init__")) := by
  unfold PySem.W.ks_superIn
  rw [hc, Option.bind_some, hm]
  have e : ∀ l : List Addr, (∀ x, x ∈ l → x ≠ D) → ((l.map Value.ref ++ .ref D :: PySem.HandSPX.veTail).dropWhile (· != .ref D)).drop 1 = PySem.HandSPX.veTail := by
    intro l
    induction l with
    | nil => intro _; simp [List.dropWhile_cons]
    | cons x l ih =>
      intro h
      have hx : x ≠ D := h x (by simp)
      rw [List.map_cons, List.cons_append, List.dropWhile_cons]
      rw [if_pos (by simp [hx])]
      exact ih fun y hy => h y (List.mem_cons_of_mem _ hy)
  rw [e pre hp]
  exact along_ve
theorem ne_of_sub {C D : Addr} (h1 : PySem.W.subIn K (.ref D) (.ref C) = some false) (h2 : PySem.W.subIn K (.ref D) (.ref D) = some true) : C ≠ D := fun e => by
  subst e
  rw [h2] at h1
  cases h1
end
end LG
set_option Elab.async false
set_option linter.all false
set_option maxRecDepth 100000
set_option maxHeartbeats 4000000
/-! LG23: what repr writes: code points, length. -/
namespace LG
open PySem PySem.Builtin PySem.Builtin.Str PySem.StrLaws
def okS (x : Str) : Prop := ∀ c ∈ x.cps.toList, c < 1114112
theorem okS_string (s : String) : okS (Str.ofString s) := by
  intro c hc
  unfold Str.ofString at hc
  simp only [cpsOfBytes_string] at hc
  obtain ⟨x, _, rfl⟩ := List.mem_map.mp hc
  have h := x.valid
  simp only [UInt32.isValidChar, Nat.isValidChar] at h
  show x.val.toNat < 1114112
  omega
theorem okS_append {a b : Str} (ha : okS a) (hb : okS b) : okS (a ++ b) := by
  intro c hc
  have hc' : c ∈ (a.cps ++ b.cps).toList := hc
  rw [Array.toList_append, List.mem_append] at hc'
  rcases hc' with h | h
  · exact ha c h
  · exact hb c h
theorem okS_join {sep : Str} (hs : okS sep) : ∀ {ts : List Str}, (∀ t ∈ ts, okS t) → okS (Str.join sep ts)
  | [], _ => fun c hc => by
    have : c ∈ ([] : List Nat) := hc
    cases this
  | [x], h => h x (by simp)
  | x :: y :: r, h => okS_append (okS_append (h x (by simp)) hs) (okS_join hs fun t ht => h t (List.mem_cons_of_mem _ ht))
theorem okS_textFrom : ∀ {ts : List Str} {k : Nat} {acc : Str}, okS acc → (∀ t ∈ ts, okS t) → okS (textFrom k acc ts)
  | [], _, _, ha, _ => ha
  | t :: r, k, acc, ha, h => by
    show okS (textFrom (k + 1) _ r)
    exact okS_textFrom (okS_append (okS_append ha (okS_string _)) (h t (by simp))) fun t ht => h t (List.mem_cons_of_mem _ ht)
theorem hex_ok (c : Nat) : ∀ x ∈ (Nat.toDigits 16 c).map Char.toNat, x < 1114112 := fun x hx => by
  obtain ⟨y, _, rfl⟩ := List.mem_map.mp hx
  have h := y.valid
  simp only [UInt32.isValidChar, Nat.isValidChar] at h
  show y.val.toNat < 1114112
  omega
theorem reprChar_ok (q c : Nat) (hc : c < 1114112) : ∀ x ∈ reprChar q c, x < 1114112 := by
  intro x hx
  have hh := hex_ok c
  unfold reprChar at hx
  dsimp only at hx
  repeat' split at hx
  all_goals
    simp only [List.mem_append, List.mem_cons, List.mem_replicate, List.not_mem_nil, or_false] at hx
    first
      | omega
      | (rcases hx with (hx | hx) | (⟨_, hx⟩ | hx)
         · omega
         · omega
         · omega
         · exact hh x hx)
theorem reprFold_ok (q : Nat) : ∀ (l : List Nat) (acc : Array Nat), (∀ c ∈ l, c < 1114112) → (∀ c ∈ acc.toList, c < 1114112) → ∀ c ∈ (l.foldl (fun out c => out ++ (reprChar q c).toArray) acc).toList, c < 1114112
  | [], acc, _, h => h
  | c :: r, acc, h, ha => by
    simp only [List.foldl_cons]
    refine reprFold_ok q r _ (fun d hd => h d (List.mem_cons_of_mem _ hd)) fun d hd => ?_
    rw [Array.toList_append, List.mem_append] at hd
    rcases hd with hd | hd
    · exact ha d hd
    · exact reprChar_ok q c (h c (by simp)) d (by simpa using hd)
theorem okS_repr {x : Str} (h : okS x) : okS (reprText x) := by
  intro c hc
  unfold reprText at hc
  have q : reprQuote x < 1114112 := by unfold reprQuote; split <;> omega
  simp only [Array.toList_push, List.mem_append, List.mem_singleton] at hc
  rcases hc with hc | rfl
  · rw [← Array.foldl_toList] at hc
    exact reprFold_ok _ _ _ h (fun d hd => by rw [List.mem_singleton.mp hd]; exact q) c hc
  · exact q
mutual
/-- every text in it is of code points -/
def okP : PyData → Bool
  | .str x => x.cps.toList.all fun c => decide (c < 1114112)
  | .list xs | .tuple xs => okPs xs
  | .dict _ => false
  | _ => true
def okPs : List PyData → Bool
  | [] => true
  | x :: xs => okP x && okPs xs
end
theorem okS_of {x : Str} (h : (x.cps.toList.all fun c => decide (c < 1114112)) = true) : okS x := fun c hc => by
  have := List.all_eq_true.mp h c hc
  simpa using this
mutual
theorem okS_shown : ∀ p : PyData, okP p = true → okS p.shown
  | .none, _ => okS_string _
  | .bool b, _ => by cases b <;> exact okS_string _
  | .int i, _ => okS_string _
  | .str x, h => okS_repr (okS_of h)
  | .list xs, h => okS_append (okS_textFrom (okS_string _) (okS_shownAll xs h)) (okS_string _)
  | .tuple xs, h => okS_append (okS_append (okS_string _) (okS_join (okS_string _) (okS_shownAll xs h))) (by
      by_cases q : (PyData.shownAll xs).length == 1
      · rw [if_pos q]; exact okS_string _
      · rw [if_neg q]; exact okS_string _)
  | .dict _, h => by simp [okP] at h
theorem okS_shownAll : ∀ xs : List PyData, okPs xs = true → ∀ t ∈ PyData.shownAll xs, okS t
  | [], _, t, ht => by simp [PyData.shownAll] at ht
  | x :: xs, h, t, ht => by
    simp only [okPs, Bool.and_eq_true] at h
    simp only [PyData.shownAll, List.mem_cons] at ht
    rcases ht with rfl | ht
    · exact okS_shown x h.1
    · exact okS_shownAll xs h.2 t ht
end
theorem okPs_of {f : D → Option PyData} (hf : ∀ d p, f d = some p → okP p = true) : ∀ {xs : List D} {ps : List PyData}, allO f xs = some ps → okPs ps = true
  | [], ps, e => by cases e; rfl
  | x :: xs, ps, e => by
    unfold allO at e
    split at e
    · rename_i y e1
      split at e
      · rename_i zs e2
        cases e
        simp only [okPs, Bool.and_eq_true]
        exact ⟨hf x y e1, okPs_of hf e2⟩
      · cases e
    · cases e
theorem okP_of : ∀ (n : Nat) (s : Sto) (d : D) (p : PyData), toPD s n d = some p → okP p = true
  | n, s, .non, p, e => by cases n <;> (cases e; rfl)
  | n, s, .bl b, p, e => by cases n <;> (cases e; rfl)
  | n, s, .int i, p, e => by cases n <;> (cases e; rfl)
  | n, s, .str x, p, e => by
    have e' : (if x.all (fun c => decide (c < 1114112)) then some (PyData.str ⟨x.toArray⟩) else none) = some p := by cases n <;> exact e
    split at e'
    · rename_i h
      cases e'
      simpa [okP] using h
    · cases e'
  | n, s, .kl x, p, e => by cases n <;> cases e
  | 0, s, .tup x, p, e => by cases e
  | 0, s, .ref x, p, e => by cases e
  | n + 1, s, .tup xs, p, e => by
    unfold toPD at e
    split at e
    · rename_i ys e1
      cases e
      exact okPs_of (fun d p h => okP_of n s d p h) e1
    · cases e
  | n + 1, s, .ref a, p, e => by
    unfold toPD at e
    split at e
    · split at e
      · rename_i ys e2
        cases e
        exact okPs_of (fun d p h => okP_of n s d p h) e2
      · cases e
    · cases e
/-- what repr writes, as a text of the plain side -/
theorem okC_shown {n : Nat} {s : Sto} {d : D} {p : PyData} (h : toPD s n d = some p) : (p.shown.cps.toList.all fun c => decide (c < 1114112)) = true := by
  refine List.all_eq_true.mpr fun c hc => ?_
  have := okS_shown p (okP_of n s d p h) c hc
  simpa using this
end LG
set_option Elab.async false
set_option linter.all false
set_option maxRecDepth 100000
set_option maxHeartbeats 4000000
/-! LG22: running compiled code: the plain side's tools. -/
namespace LG
open PySem
theorem run_at {ds : List DefS} {g : Glob} {i : Nat} {d : DefS} (h : ds[i]? = some d) (k : Nat) (args : List D) (s : Sto) (hl : args.length = d.ps.length) :
    runF (ds.map (defI g)) (k + 1) i args s = fnRes (compD g d (runF (ds.map (defI g)) k) (args.map some ++ List.replicate (d.N.length - args.length) none) s) := by
  have e : (ds.map (defI g))[i]? = some (defI g d) := by rw [List.getElem?_map, h]; rfl
  show (match (ds.map (defI g))[i]? with
    | some d => if args.length = d.ps then fnRes (d.body (runF (ds.map (defI g)) k) (args.map some ++ List.replicate (d.N - args.length) none) s) else .bad
    | none => .bad) = _
  rw [e]
  exact if_pos hl
@[simp] theorem bnd_ok' {α β : Type} (a : α) (f : α → M β) (m : M α) (s s' : Sto) (h : m s = .ok a s') : LG.bnd m f s = f a s' := by
  unfold LG.bnd; rw [h]
/-- a comprehension, by an invariant -/
theorem lcI_run {it : Itr} {gx : GX} {t : TX} {e : EX} {f : Fr} (xs : List D) (P : Nat → Sto → List D → Prop) (hn : ∀ i s acc, P i s acc → nextI s it i = some xs[i]?)
    (hs : ∀ i d s acc, xs[i]? = some d → P i s acc → ∃ f', gx d f = some f' ∧ ((∃ s1, t f' s = .ok false s1 ∧ P (i + 1) s1 acc) ∨ ∃ s1 y s2, t f' s = .ok true s1 ∧ e f' s1 = .ok y s2 ∧ acc.length < LIM ∧ P (i + 1) s2 (acc ++ [y]))) :
    ∀ (m i : Nat) (s : Sto) (acc : List D), P i s acc → i ≤ xs.length → xs.length < i + m → ∃ s' ys, lcI it gx t e f m i acc s = .ok ys s' ∧ P xs.length s' ys
  | 0, i, s, acc, _, h1, h2 => by omega
  | m + 1, i, s, acc, p, h1, h2 => by
    unfold lcI
    rw [hn i s acc p]
    cases ex : xs[i]? with
    | none =>
      have : xs.length ≤ i := List.getElem?_eq_none_iff.mp ex
      have e1 : i = xs.length := by omega
      subst e1
      exact ⟨s, acc, rfl, p⟩
    | some d =>
      obtain ⟨hi, _⟩ := List.getElem?_eq_some_iff.mp ex
      obtain ⟨f', e1, q⟩ := hs i d s acc ex p
      simp only [e1]
      rcases q with ⟨s1, e2, p'⟩ | ⟨s1, y, s2, e2, e3, hl, p'⟩
      · simp only [e2]
        exact lcI_run xs P hn hs m (i + 1) s1 acc p' hi (by omega)
      · simp only [e2, e3]
        rw [if_pos hl]
        exact lcI_run xs P hn hs m (i + 1) s2 (acc ++ [y]) p' hi (by omega)
/-- a for statement, by an invariant; no turn leaves it -/
theorem forI_run {it : Itr} {gx : GX} {b : SX} (xs : List D) (P : Nat → Fr → Sto → Prop) (hn : ∀ i f s, P i f s → nextI s it i = some xs[i]?)
    (hs : ∀ i d f s, xs[i]? = some d → P i f s → ∃ f1, gx d f = some f1 ∧ ∃ f2 s2, (b f1 s = .next f2 s2 ∨ b f1 s = .cont f2 s2) ∧ P (i + 1) f2 s2) :
    ∀ (m i : Nat) (f : Fr) (s : Sto), P i f s → i ≤ xs.length → xs.length < i + m → ∃ f' s', forI it gx b m i f s = .next f' s' ∧ P xs.length f' s'
  | 0, i, f, s, _, h1, h2 => by omega
  | m + 1, i, f, s, p, h1, h2 => by
    unfold forI
    rw [hn i f s p]
    cases ex : xs[i]? with
    | none =>
      have : xs.length ≤ i := List.getElem?_eq_none_iff.mp ex
      have e1 : i = xs.length := by omega
      subst e1
      exact ⟨f, s, rfl, p⟩
    | some d =>
      obtain ⟨hi, _⟩ := List.getElem?_eq_some_iff.mp ex
      obtain ⟨f1, e1, f2, s2, q, p'⟩ := hs i d f s ex p
      simp only [e1]
      rcases q with q | q
      · simp only [q]
        exact forI_run xs P hn hs m (i + 1) f2 s2 p' hi (by omega)
      · simp only [q]
        exact forI_run xs P hn hs m (i + 1) f2 s2 p' hi (by omega)
/-- for over a range: the items -/
def rngL (lo : Int) (n : Nat) : List D := (List.range n).map fun i => .int (lo + (i : Nat))
theorem rng_next (s : Sto) (lo : Int) (n i : Nat) : nextI s (.rng lo 1 n) i = some (rngL lo n)[i]? := by
  unfold nextI rngL
  rw [List.getElem?_map]
  by_cases h : i < n
  · rw [if_pos h, List.getElem?_range h]; simp
  · rw [if_neg h, List.getElem?_eq_none (by simpa using h)]; rfl

/-! ### a store that grew -/
def Ext (s s' : Sto) : Prop := ∃ t, s' = s ++ t
theorem Ext.refl (s : Sto) : Ext s s := ⟨[], by simp⟩
theorem Ext.trans {a b c : Sto} (h : Ext a b) (h' : Ext b c) : Ext a c := by
  obtain ⟨t, rfl⟩ := h
  obtain ⟨u, rfl⟩ := h'
  exact ⟨t ++ u, by simp⟩
theorem Ext.push (s : Sto) (o : MO) : Ext s (s ++ [o]) := ⟨[o], rfl⟩
theorem Ext.get {s s' : Sto} (h : Ext s s') {n : Nat} {o : MO} (e : s[n]? = some o) : s'[n]? = some o := by
  obtain ⟨t, rfl⟩ := h
  obtain ⟨hn, _⟩ := List.getElem?_eq_some_iff.mp e
  rw [List.getElem?_append_left hn]; exact e
theorem Ext.len {s s' : Sto} (h : Ext s s') : s.length ≤ s'.length := by
  obtain ⟨t, rfl⟩ := h
  simp
theorem allO_mono {α β : Type} {f g : α → Option β} (h : ∀ x y, f x = some y → g x = some y) : ∀ {xs : List α} {ys : List β}, allO f xs = some ys → allO g xs = some ys
  | [], ys, e => e
  | x :: xs, ys, e => by
    unfold allO at e ⊢
    split at e
    · rename_i y e1
      split at e
      · rename_i zs e2
        rw [h _ _ e1, allO_mono h e2]
        exact e
      · cases e
    · cases e
theorem toPD_ext {s s' : Sto} (h : Ext s s') : ∀ (n : Nat) (d : D) (p : PyData), toPD s n d = some p → toPD s' n d = some p
  | n, .non, p, e => by cases n <;> exact e
  | n, .bl b, p, e => by cases n <;> exact e
  | n, .int i, p, e => by cases n <;> exact e
  | n, .str x, p, e => by cases n <;> exact e
  | n, .kl x, p, e => by cases n <;> cases e
  | 0, .tup x, p, e => by cases e
  | 0, .ref x, p, e => by cases e
  | n + 1, .tup xs, p, e => by
    unfold toPD at e ⊢
    split at e
    · rename_i ys e1
      rw [allO_mono (fun x y q => toPD_ext h n x y q) e1]
      exact e
    · cases e
  | n + 1, .ref a, p, e => by
    unfold toPD at e ⊢
    split at e
    · rename_i xs e1
      rw [h.get e1]
      simp only
      split at e
      · rename_i ys e2
        rw [allO_mono (fun x y q => toPD_ext h n x y q) e2]
        exact e
      · cases e
    · cases e
theorem toPD_le {s : Sto} : ∀ (n m : Nat) (d : D) (p : PyData), n ≤ m → toPD s n d = some p → toPD s m d = some p
  | n, m, .non, p, _, e => by cases n <;> cases m <;> exact e
  | n, m, .bl b, p, _, e => by cases n <;> cases m <;> exact e
  | n, m, .int i, p, _, e => by cases n <;> cases m <;> exact e
  | n, m, .str x, p, _, e => by cases n <;> cases m <;> exact e
  | n, m, .kl x, p, _, e => by cases n <;> cases e
  | 0, m, .tup x, p, _, e => by cases e
  | 0, m, .ref x, p, _, e => by cases e
  | n + 1, 0, .tup xs, p, h, e => by omega
  | n + 1, 0, .ref xs, p, h, e => by omega
  | n + 1, m + 1, .tup xs, p, h, e => by
    unfold toPD at e ⊢
    split at e
    · rename_i ys e1
      rw [allO_mono (fun x y q => toPD_le n m x y (by omega) q) e1]
      exact e
    · cases e
  | n + 1, m + 1, .ref a, p, h, e => by
    unfold toPD at e ⊢
    split at e
    · rename_i xs e1
      try rw [e1]
      try simp only
      split at e
      · rename_i ys e2
        rw [allO_mono (fun x y q => toPD_le n m x y (by omega) q) e2]
        exact e
      · cases e
    · cases e
/-! ### == of plain data -/
def okC (a : Cs) : Bool := a.all fun c => decide (c < 1114112)
theorem eqO_int (s : Sto) (i j : Int) : eqO s (.int i) (.int j) = some (decide (i = j)) := by
  unfold eqO toPD
  simp only [PyData.eqv]
  by_cases h : i = j
  · subst h; simp
  · simp [h]
theorem eqO_str (s : Sto) (a b : Cs) (ha : okC a = true) (hb : okC b = true) : eqO s (.str a) (.str b) = some (decide (a = b)) := by
  unfold okC at ha hb
  unfold eqO toPD
  rw [if_pos ha, if_pos hb]
  simp only [PyData.eqv]
  by_cases h : a = b
  · subst h; simp
  · simp [h]
theorem eFn1 {g : Fn} {e : EX} {f : Fr} {s s1 : Sto} {d : D} (h : e f s = .ok d s1) : eFn g (aCons e aNil) f s = g [d] s1 := by
  unfold eFn aCons aNil LG.bnd
  simp only [h]
  rfl
theorem eLc_ok {own : List Nat} {it : IX} {gx : GX} {t : TX} {e : EX} {f : Fr} {s s1 s2 : Sto} {x : Itr} {ys : List D} (h1 : it f s = .ok x s1) (h2 : lcI x gx t e (wipeF f own) LF 0 [] s1 = .ok ys s2) : eLc own it gx t e f s = .ok (.ref s2.length) (s2 ++ [.lst ys]) := by
  show (LG.bnd (it f) fun x => LG.bnd (lcI x gx t e (wipeF f own) LF 0 []) fun ys => LG.alloc (.lst ys)) s = _
  generalize LF = m at h2 ⊢
  unfold LG.bnd
  rw [h1]
  simp only [h2]
  rfl
theorem iRng1_ok {e : EX} {f : Fr} {s s1 : Sto} {j : Int} (h : e f s = .ok (.int j) s1) (hr : rngOk j = true) : iRng1 e f s = .ok (.rng 0 1 j.toNat) s1 := by
  unfold iRng1 LG.bnd
  rw [h]
  simp only [hr, if_true]
/-- a comprehension by an invariant, as an expression -/
theorem eLc_run {own : List Nat} {it : IX} {gx : GX} {t : TX} {e : EX} {f f0 : Fr} {s s1 : Sto} {x : Itr} (xs : List D) (P : Nat → Sto → List D → Prop) (h1 : it f s = .ok x s1) (hw : wipeF f own = f0)
    (hn : ∀ i s acc, P i s acc → nextI s x i = some xs[i]?)
    (hs : ∀ i d s acc, xs[i]? = some d → P i s acc → ∃ f', gx d f0 = some f' ∧ ((∃ s1, t f' s = .ok false s1 ∧ P (i + 1) s1 acc) ∨ ∃ s1 y s2, t f' s = .ok true s1 ∧ e f' s1 = .ok y s2 ∧ acc.length < 16777216 ∧ P (i + 1) s2 (acc ++ [y])))
    (hp : P 0 s1 []) (hl : xs.length < 100000000) : ∃ s' ys, eLc own it gx t e f s = .ok (.ref s'.length) (s' ++ [.lst ys]) ∧ P xs.length s' ys := by
  obtain ⟨s', ys, e1, e2⟩ := lcI_run (it := x) (gx := gx) (t := t) (e := e) (f := f0) xs P hn hs LF 0 s1 [] hp (Nat.zero_le _) (by rw [Nat.zero_add]; exact hl)
  exact ⟨s', ys, eLc_ok h1 (by rw [hw]; exact e1), e2⟩
/-- a for statement by an invariant -/
theorem sFor_run {it : IX} {gx : GX} {b : SX} {f : Fr} {s s1 : Sto} {x : Itr} (xs : List D) (P : Nat → Fr → Sto → Prop) (h1 : it f s = .ok x s1) (hn : ∀ i f s, P i f s → nextI s x i = some xs[i]?)
    (hs : ∀ i d f s, xs[i]? = some d → P i f s → ∃ f1, gx d f = some f1 ∧ ∃ f2 s2, (b f1 s = .next f2 s2 ∨ b f1 s = .cont f2 s2) ∧ P (i + 1) f2 s2)
    (hp : P 0 f s1) (hl : xs.length < 100000000) : ∃ f' s', sFor it gx b f s = .next f' s' ∧ P xs.length f' s' := by
  obtain ⟨f', s', e1, e2⟩ := forI_run (it := x) (gx := gx) (b := b) xs P hn hs LF 0 f s1 hp (Nat.zero_le _) (by rw [Nat.zero_add]; exact hl)
  refine ⟨f', s', ?_, e2⟩
  show (sLift it fun x => forI x gx b LF 0) f s = _
  generalize LF = m at e1 ⊢
  unfold sLift
  rw [h1]
  exact e1
theorem rngL_len (lo : Int) (n : Nat) : (rngL lo n).length = n := by simp [rngL]
theorem rngL_get {lo : Int} {n i : Nat} {d : D} (h : (rngL lo n)[i]? = some d) : i < n ∧ d = .int (lo + (i : Int)) := by
  have hi : i < n := by
    have := (List.getElem?_eq_some_iff.mp h).1
    rwa [rngL_len] at this
  refine ⟨hi, ?_⟩
  unfold rngL at h
  rw [List.getElem?_map, List.getElem?_range hi] at h
  simpa using h.symm
/-! ### one step each -/
section
variable {f f' : Fr} {s s' s1 s2 : Sto} {d x y v : D} {c n : Nat}
theorem sSeq_n {a b : SX} (h : a f s = .next f' s') : sSeq a b f s = b f' s' := by unfold sSeq; rw [h]
theorem sSeq_r {a b : SX} (h : a f s = .ret d s') : sSeq a b f s = .ret d s' := by unfold sSeq; rw [h]
theorem sSeq_e {a b : SX} (h : a f s = .err f' c v s') : sSeq a b f s = .err f' c v s' := by unfold sSeq; rw [h]
theorem sIf_t {t : TX} {a b : SX} (h : t f s = .ok true s') : sIf t a b f s = a f s' := by unfold sIf sLift; rw [h]; rfl
theorem sIf_f {t : TX} {a b : SX} (h : t f s = .ok false s') : sIf t a b f s = b f s' := by unfold sIf sLift; rw [h]; rfl
theorem sRet_ok {e : EX} (h : e f s = .ok d s') : sRet e f s = .ret d s' := by unfold sRet sLift; rw [h]
theorem sRet_e {e : EX} (h : e f s = .err c v s') : sRet e f s = .err f c v s' := by unfold sRet sLift; rw [h]
theorem sExpr_ok {e : EX} (h : e f s = .ok d s') : sExpr e f s = .next f s' := by unfold sExpr sLift; rw [h]
theorem sExpr_e {e : EX} (h : e f s = .err c v s') : sExpr e f s = .err f c v s' := by unfold sExpr sLift; rw [h]
theorem sAsg_ok {g : GX} {e : EX} (h : e f s = .ok d s') (hg : g d f = some f') : sAsg g e f s = .next f' s' := by unfold sAsg sLift; rw [h]; simp only [hg]
theorem sRaise_ok {e : EX} (h : e f s = .ok v s') : sRaise c e f s = .err f c v s' := by unfold sRaise; rw [h]
theorem sPar_ok {is : List Nat} {a : AX} {ds : List D} (h : a f s = .ok ds s') (hg : setAll is ds f = some f') : sPar is a f s = .next f' s' := by unfold sPar sLift; rw [h]; simp only [hg]
theorem sAug_ok {i : Nat} {o : Op2} {e : EX} {k : D} (h : eBin o (eVar i) e f s = .ok k s') : sAug i o e f s = .next (f.set i (some k)) s' := by unfold sAug sLift; rw [h]
theorem sSetI_ok {o i e : EX} {k : D} {s3 s4 : Sto} (h1 : e f s = .ok v s1) (h2 : o f s1 = .ok x s2) (h3 : i f s2 = .ok k s3) (h4 : setI x k v s3 = .ok () s4) : sSetI o i e f s = .next f s4 := by
  unfold sSetI sLift LG.bnd; simp only [h1, h2, h3, h4]
theorem tVal_ok {e : EX} {b : Bool} (h : e f s = .ok d s') (ht : truth s' d = some b) : tVal e f s = .ok b s' := by unfold tVal LG.bnd; rw [h]; simp only [ht]
theorem tVal_b {e : EX} {b : Bool} (h : e f s = .ok (.bl b) s') : tVal e f s = .ok b s' := tVal_ok h rfl
theorem tNot_ok {t : TX} {b : Bool} (h : t f s = .ok b s') : tNot t f s = .ok (!b) s' := by unfold tNot LG.bnd; rw [h]; rfl
theorem tOr_t {a b : TX} (h : a f s = .ok true s') : tOr a b f s = .ok true s' := by unfold tOr LG.bnd; rw [h]; rfl
theorem tOr_f {a b : TX} (h : a f s = .ok false s') : tOr a b f s = b f s' := by unfold tOr LG.bnd; rw [h]; rfl
theorem tAnd_t {a b : TX} (h : a f s = .ok true s') : tAnd a b f s = b f s' := by unfold tAnd LG.bnd; rw [h]; rfl
theorem tAnd_f {a b : TX} (h : a f s = .ok false s') : tAnd a b f s = .ok false s' := by unfold tAnd LG.bnd; rw [h]; rfl
theorem eIf_t {t : TX} {a b : EX} (h : t f s = .ok true s') : eIf t a b f s = a f s' := by unfold eIf LG.bnd; rw [h]; rfl
theorem eIf_f {t : TX} {a b : EX} (h : t f s = .ok false s') : eIf t a b f s = b f s' := by unfold eIf LG.bnd; rw [h]; rfl
theorem eBin_ok {o : Op2} {a b : EX} (h1 : a f s = .ok x s1) (h2 : b f s1 = .ok y s2) : eBin o a b f s = o x y s2 := by unfold eBin LG.bnd; simp only [h1, h2]
theorem eUn_ok {o : D → M D} {a : EX} (h1 : a f s = .ok x s1) : eUn o a f s = o x s1 := by unfold eUn LG.bnd; simp only [h1]
theorem aCons_ok {e : EX} {r : AX} {xs : List D} (h1 : e f s = .ok x s1) (h2 : r f s1 = .ok xs s2) : aCons e r f s = .ok (x :: xs) s2 := by unfold aCons LG.bnd; simp only [h1, h2]; rfl
theorem aNil_ok : aNil f s = .ok [] s := rfl
theorem aApp_n {a : AX} {xs : List D} (h1 : a f s = .ok xs s1) : aApp a aNil f s = .ok xs s1 := by unfold aApp LG.bnd; simp only [h1]; show Res.ok (xs ++ []) s1 = _; rw [List.append_nil]
theorem aApp_ok {a b : AX} {xs ys : List D} (h1 : a f s = .ok xs s1) (h2 : b f s1 = .ok ys s2) : aApp a b f s = .ok (xs ++ ys) s2 := by unfold aApp LG.bnd; simp only [h1, h2]; rfl
theorem eCall_ok {call : Call} {i : Nat} {a : AX} {xs : List D} (h1 : a f s = .ok xs s1) : eCall call i a f s = call i xs s1 := by unfold eCall LG.bnd; simp only [h1]
theorem eCall1 {call : Call} {i : Nat} {e : EX} (h1 : e f s = .ok x s1) : eCall call i (aApp (aCons e aNil) aNil) f s = call i [x] s1 := eCall_ok (aApp_n (aCons_ok h1 rfl))
theorem eCall2 {call : Call} {i : Nat} {e e' : EX} (h1 : e f s = .ok x s1) (h2 : e' f s1 = .ok y s2) : eCall call i (aApp (aCons e (aCons e' aNil)) aNil) f s = call i [x, y] s2 := eCall_ok (aApp_n (aCons_ok h1 (aCons_ok h2 rfl)))
theorem eFn_ok {g : Fn} {a : AX} {xs : List D} (h : a f s = .ok xs s1) : eFn g a f s = g xs s1 := by unfold eFn LG.bnd; simp only [h]
theorem eTup_ok {a : AX} {xs : List D} (h : a f s = .ok xs s1) (hl : xs.length ≤ LIM) : eTup a f s = .ok (.tup xs) s1 := by unfold eTup LG.bnd; simp only [h]; exact if_pos hl
theorem eLst_ok {a : AX} {xs : List D} (h : a f s = .ok xs s1) (hl : xs.length ≤ LIM) : eLst a f s = .ok (.ref s1.length) (s1 ++ [.lst xs]) := by unfold eLst LG.bnd; simp only [h]; exact if_pos hl
theorem sIf_skip {t : TX} {a : SX} (h : t f s = .ok false s') : sIf t a sSkip f s = .next f s' := sIf_f h
theorem fnRes_ret {r : SR} (h : r = .ret d s') : fnRes r = .ok d s' := by rw [h]; rfl
theorem fnRes_next {r : SR} (h : r = .next f s') : fnRes r = .ok .non s' := by rw [h]; rfl
theorem fnRes_err {r : SR} (h : r = .err f c v s') : fnRes r = .err c v s' := by rw [h]; rfl
theorem eVar_ok {i : Nat} (h : f[i]? = some (some d)) : eVar i f s = .ok d s := by unfold eVar; simp only [h]
theorem idx_ref {i : Int} {xs : List D} (h : s[n]? = some (.lst xs)) (hi : atI xs i = some d) : idx (.ref n) (.int i) s = .ok d s := by unfold idx; simp only [h, hi]
theorem idx_tup {i : Int} {xs : List D} (hi : atI xs i = some d) : idx (.tup xs) (.int i) s = .ok d s := by unfold idx; simp only [hi]
theorem atI_nat {α : Type} {xs : List α} {i : Nat} {a : α} (h : xs[i]? = some a) : LG.atI xs (i : Int) = some a := by
  have := (List.getElem?_eq_some_iff.mp h).1
  unfold LG.atI LG.ixN
  rw [if_pos (by omega), if_pos (by omega)]
  simpa using h
theorem atI_last {α : Type} {xs : List α} {a : α} : LG.atI (xs ++ [a]) (-1) = some a := by
  unfold LG.atI LG.ixN
  rw [if_neg (by omega), if_pos (by simp; omega)]
  simp
  have : ((-1 : Int) + ((xs.length : Int) + 1)).toNat = xs.length := by omega
  rw [this]; simp
/-- append, as a statement -/
theorem sApp {o e : EX} {xs : List D} (h1 : o f s = .ok (.ref n) s1) (hl : ∃ zs, s1[n]? = some (.lst zs)) (h2 : e f s1 = .ok d s2) (h3 : s2[n]? = some (.lst xs)) (hx : xs.length < LIM) : sExpr (eMt mAppend o (aCons e aNil)) f s = .next f (s2.set n (.lst (xs ++ [d]))) := by
  obtain ⟨zs, hz⟩ := hl
  refine sExpr_ok (d := .non) ?_
  unfold eMt LG.bnd
  simp only [h1]
  have : isLst s1 (.ref n) = true := by unfold isLst; simp only [hz]
  rw [if_pos this, aCons_ok h2 aNil_ok]
  simp only
  unfold mAppend
  simp only [h3]
  exact if_pos hx
end
/-- a for statement over a tuple that grows one list, the newest object -/
theorem sFor_app {e : EX} {j : Nat} {b : SX} {f : Fr} {s s0 : Sto} (xs : List D) (A : Nat → List D) (h1 : e f s = .ok (.tup xs) (s0 ++ [.lst (A 0)]))
    (hb : ∀ i d, xs[i]? = some d → b (f.set j (some d)) (s0 ++ [.lst (A i)]) = .next (f.set j (some d)) (s0 ++ [.lst (A (i + 1))])) (hl : xs.length < 100000000) :
    ∃ o, sFor (iSeq e) (gVar j) b f s = .next (f.set j o) (s0 ++ [.lst (A xs.length)]) := by
  have hj : ∃ o, f = f.set j o := by
    by_cases q : j < f.length
    · exact ⟨f[j], by simp⟩
    · exact ⟨none, by rw [List.set_eq_of_length_le (by omega)]⟩
  obtain ⟨f', s', e1, ⟨o, rfl⟩, rfl⟩ := sFor_run (it := iSeq e) (gx := gVar j) (b := b) (f := f) (s := s) (x := .tup xs) (s1 := s0 ++ [.lst (A 0)]) xs
    (fun i f' s' => (∃ o, f' = f.set j o) ∧ s' = s0 ++ [.lst (A i)])
    (by unfold iSeq LG.bnd; rw [h1]) (fun _ _ _ _ => rfl)
    (fun i d f' s' hx hp => by
      obtain ⟨⟨o, rfl⟩, rfl⟩ := hp
      refine ⟨f.set j (some d), ?_, _, _, .inl (hb i d hx), ⟨some d, rfl⟩, rfl⟩
      show some ((f.set j o).set j (some d)) = _
      rw [List.set_set]) ⟨hj, rfl⟩ hl
  exact ⟨o, e1⟩
theorem get_new (s0 : Sto) (o : MO) : (s0 ++ [o])[s0.length]? = some o := by simp
theorem set_new (s0 : Sto) (o p : MO) : (s0 ++ [o]).set s0.length p = s0 ++ [p] := by simp
/-- append to the newest object, as a statement -/
theorem sApp_new {o e : EX} {f : Fr} {s0 : Sto} {xs : List D} {d : D} (h1 : o f (s0 ++ [.lst xs]) = .ok (.ref s0.length) (s0 ++ [.lst xs])) (h2 : e f (s0 ++ [.lst xs]) = .ok d (s0 ++ [.lst xs])) (hx : xs.length < LIM) :
    sExpr (eMt mAppend o (aCons e aNil)) f (s0 ++ [.lst xs]) = .next f (s0 ++ [.lst (xs ++ [d])]) := by
  rw [sApp h1 ⟨xs, get_new _ _⟩ h2 (get_new _ _) hx, set_new]
end LG
set_option Elab.async false
set_option linter.all false
set_option maxRecDepth 100000
set_option maxHeartbeats 4000000
/-! LG24: what all laws share on the plain side: copies, the drawn numbers, what repr is asked of. -/
namespace LG
open PySem
theorem allO_get {α β : Type} {f : α → Option β} : ∀ {xs : List α} {ys : List β} {i : Nat} {x : α}, allO f xs = some ys → xs[i]? = some x → ∃ y, ys[i]? = some y ∧ f x = some y
  | [], _, i, x, _, e => by simp at e
  | a :: xs, ys, i, x, h, e => by
    unfold allO at h
    split at h
    · rename_i y e1
      split at h
      · rename_i zs e2
        cases h
        cases i with
        | zero => simp at e; subst e; exact ⟨y, rfl, e1⟩
        | succ i => obtain ⟨z, h1, h2⟩ := allO_get e2 (by simpa using e); exact ⟨z, by simpa using h1, h2⟩
      · cases h
    · cases h
theorem allO_of {α β : Type} {f : α → Option β} : ∀ {xs : List α} {ys : List β}, xs.length = ys.length → (∀ (i : Nat) (x : α) (y : β), xs[i]? = some x → ys[i]? = some y → f x = some y) → allO f xs = some ys
  | [], [], _, _ => rfl
  | [], _ :: _, h, _ => by simp at h
  | _ :: _, [], h, _ => by simp at h
  | x :: xs, y :: ys, h, q => by
    unfold allO
    rw [q 0 x y rfl rfl, allO_of (by simpa using h) fun i a b h1 h2 => q (i + 1) a b (by simpa using h1) (by simpa using h2)]
def mAnew (sub : Nat → Nat → Option Bool) (j : Nat) (call : Call) : SX :=
  (sSeq (sIf (tVal (eIs sub (.list) (eVar 0))) (sRet (eLc [1] (iSeq (eVar 0)) (gVar 1) tTrue (eCall call j (aApp (aCons (eVar 1) aNil) aNil)))) sSkip) (sSeq (sIf (tVal (eIs sub (.tuple) (eVar 0))) (sRet (eFn bTuple (aCons (eLc [1] (iSeq (eVar 0)) (gVar 1) tTrue (eCall call j (aApp (aCons (eVar 1) aNil) aNil))) aNil))) sSkip) (sRet (eVar 0))))
/-- a comprehension that makes each item anew -/
theorem anew_lc {call : Call} {j n : Nat} (ih : ∀ d s p, toPD s n d = some p → p.weight ≤ LIM → ∃ d' s', call j [d] s = .ok d' s' ∧ Ext s s' ∧ toPD s' n d' = some p) {src : D} {it : Itr} {xs : List D} {ps : List PyData} {s : Sto} {o : Option D} (hi : iSeq (eVar 0) [some src, o] s = .ok it s)
    (hn : ∀ s' i, Ext s s' → nextI s' it i = some xs[i]?) (hp : allO (toPD s n) xs = some ps) (hl : xs.length ≤ LIM) (hw : ∀ p, p ∈ ps → p.weight ≤ LIM) :
    ∃ s' ys, eLc [1] (iSeq (eVar 0)) (gVar 1) tTrue (eCall call j (aApp (aCons (eVar 1) aNil) aNil)) [some src, o] s = .ok (.ref s'.length) (s' ++ [.lst ys]) ∧ Ext s s' ∧ allO (toPD s' n) ys = some ps := by
  have hlen := allO_len hp
  obtain ⟨s', ys, e1, e2, e3, e4⟩ := lcI_run (it := it) (gx := gVar 1) (t := tTrue) (e := eCall call j (aApp (aCons (eVar 1) aNil) aNil)) (f := [some src, none]) xs
    (fun i s' acc => Ext s s' ∧ acc.length = i ∧ allO (toPD s' n) acc = some (ps.take i)) (fun i s' acc h => hn s' i h.1)
    (fun i d s1 acc hx h => by
      obtain ⟨h1, h2, h3⟩ := h
      obtain ⟨p, g1, g2⟩ := allO_get hp hx
      obtain ⟨d', s2, q1, q2, q3⟩ := ih d s1 p (toPD_ext h1 n d p g2) (hw p (List.mem_of_getElem? g1))
      have hlt : i < xs.length := (List.getElem?_eq_some_iff.mp hx).1
      refine ⟨[some src, some d], rfl, .inr ⟨s1, d', s2, rfl, ?_, by omega, h1.trans q2, by simp [h2], ?_⟩⟩
      · simp [eCall, aApp, aCons, aNil, eVar, bnd, LG.ret, q1]
      · refine allO_of (by simp [h2, hlen]; omega) fun q x y hx' hy' => ?_
        by_cases hj : q < i
        · rw [List.getElem?_append_left (by omega)] at hx'
          rw [List.getElem?_take_of_lt (by omega)] at hy'
          obtain ⟨z, z1, z2⟩ := allO_get h3 hx'
          rw [List.getElem?_take_of_lt hj] at z1
          rw [hy'] at z1; cases z1
          exact toPD_ext q2 n x y z2
        · have hji : q = i := by
            have := (List.getElem?_eq_some_iff.mp hx').1
            simp [h2] at this; omega
          subst hji
          rw [List.getElem?_append_right (by omega)] at hx'
          simp [h2] at hx'
          subst hx'
          rw [List.getElem?_take_of_lt (by omega), g1] at hy'
          cases hy'
          exact q3) LF 0 s [] ⟨Ext.refl s, rfl, rfl⟩ (Nat.zero_le _) (by unfold LIM LF at *; omega)
  refine ⟨s', ys, ?_, e2, ?_⟩
  · unfold eLc LG.bnd
    rw [hi]
    simp only [wipeF]
    have e0 : ([some src, o].set 1 none : Fr) = [some src, none] := rfl
    rw [e0, e1]
    rfl
  · rw [e4, List.take_of_length_le (by omega)]
theorem weight_all : ∀ (ps : List PyData), ps.length ≤ PyData.weightAll ps ∧ ∀ p, p ∈ ps → p.weight ≤ PyData.weightAll ps
  | [] => ⟨by simp [PyData.weightAll], fun p h => by cases h⟩
  | x :: xs => by
    obtain ⟨h1, h2⟩ := weight_all xs
    simp only [PyData.weightAll, List.length_cons]
    refine ⟨by omega, fun p h => ?_⟩
    rcases List.mem_cons.mp h with rfl | h
    · omega
    · have := h2 p h
      omega
theorem anew_gen {F : Nat → Call} {j : Nat} {sub : Nat → Nat → Option Bool} (hF : ∀ k d s, F (k + 1) j [d] s = fnRes (mAnew sub j (F k) [some d, none] s)) : ∀ (n k : Nat), n < k → ∀ (d : D) (s : Sto) (p : PyData), toPD s n d = some p → p.weight ≤ LIM → ∃ d' s', F k j [d] s = .ok d' s' ∧ Ext s s' ∧ toPD s' n d' = some p := by
  intro n
  induction n with
  | zero =>
    intro k hk d s p h hw
    obtain ⟨k, rfl⟩ : ∃ q, k = q + 1 := ⟨k - 1, by omega⟩
    refine ⟨d, s, ?_, Ext.refl s, h⟩
    rw [hF]
    cases d <;> first
      | (simp [toPD] at h; done)
      | simp [mAnew, sSeq, sIf, sRet, sLift, sSkip, tVal, eIs, eVar, bnd, isinst, tyD, tkIs, truth, fnRes]
  | succ n ih =>
    intro k hk d s p h hw
    obtain ⟨k, rfl⟩ : ∃ q, k = q + 1 := ⟨k - 1, by omega⟩
    have ih' := ih k (by omega)
    cases d with
    | tup xs =>
      unfold toPD at h
      split at h
      · rename_i ps e
        cases h
        simp only [PyData.weight] at hw
        obtain ⟨w1, w2⟩ := weight_all ps
        have hlen := allO_len e
        obtain ⟨s', ys, e1, e2, e3⟩ := anew_lc (src := .tup xs) (it := .tup xs) (o := none) ih' (s := s) (by simp [iSeq, eVar, bnd]) (fun s' i _ => rfl) e (by omega) (fun p hp => by have := w2 p hp; omega)
        have hy := allO_len e3
        refine ⟨.tup ys, s' ++ [.lst ys], ?_, e2.trans (Ext.push _ _), ?_⟩
        · rw [hF]
          generalize hE : eLc [1] (iSeq (eVar 0)) (gVar 1) tTrue (eCall (F k) j (aApp (aCons (eVar 1) aNil) aNil)) = E at e1
          unfold mAnew
          rw [hE]
          simp [sSeq, sIf, sRet, sLift, sSkip, tVal, eIs, eFn, aCons, aNil, eVar, bnd, LG.ret, isinst, tyD, tkIs, truth, fnRes, e1, bTuple]
        · unfold toPD
          rw [allO_mono (fun x y q => toPD_ext (Ext.push s' _) n x y q) e3]
      · cases h
    | ref a =>
      unfold toPD at h
      split at h
      · rename_i xs ea
        split at h
        · rename_i ps e
          cases h
          simp only [PyData.weight] at hw
          obtain ⟨w1, w2⟩ := weight_all ps
          have hlen := allO_len e
          obtain ⟨s', ys, e1, e2, e3⟩ := anew_lc (src := .ref a) (it := .lst a) (o := none) ih' (s := s) (by simp [iSeq, eVar, bnd, ea]) (fun s' i h' => by unfold nextI; rw [h'.get ea]) e (by omega) (fun p hp => by have := w2 p hp; omega)
          have hy := allO_len e3
          refine ⟨.ref s'.length, s' ++ [.lst ys], ?_, e2.trans (Ext.push _ _), ?_⟩
          · rw [hF]
            generalize hE : eLc [1] (iSeq (eVar 0)) (gVar 1) tTrue (eCall (F k) j (aApp (aCons (eVar 1) aNil) aNil)) = E at e1
            unfold mAnew
            rw [hE]
            simp [sSeq, sIf, sRet, sLift, sSkip, tVal, eIs, eFn, aCons, aNil, eVar, bnd, LG.ret, isinst, tyD, tkIs, truth, fnRes, e1, ea]
          · unfold toPD
            rw [List.getElem?_append_right (Nat.le_refl _)]
            simp only [Nat.sub_self, List.getElem?_cons_zero]
            rw [allO_mono (fun x y q => toPD_ext (Ext.push s' _) n x y q) e3]
        · cases h
      · cases h
    | kl xs => simp [toPD] at h
    | non => exact ⟨.non, s, by rw [hF]; simp [mAnew, sSeq, sIf, sRet, sLift, sSkip, tVal, eIs, eVar, bnd, isinst, tyD, tkIs, truth, fnRes], Ext.refl s, h⟩
    | bl b => exact ⟨.bl b, s, by rw [hF]; simp [mAnew, sSeq, sIf, sRet, sLift, sSkip, tVal, eIs, eVar, bnd, isinst, tyD, tkIs, truth, fnRes], Ext.refl s, h⟩
    | int b => exact ⟨.int b, s, by rw [hF]; simp [mAnew, sSeq, sIf, sRet, sLift, sSkip, tVal, eIs, eVar, bnd, isinst, tyD, tkIs, truth, fnRes], Ext.refl s, h⟩
    | str b => exact ⟨.str b, s, by rw [hF]; simp [mAnew, sSeq, sIf, sRet, sLift, sSkip, tVal, eIs, eVar, bnd, isinst, tyD, tkIs, truth, fnRes], Ext.refl s, h⟩
/-! ### names -/
def mName (sub : Nat → Nat → Option Bool) (call : Call) : SX :=
  (sSeq (sIf (tOr (tNot (tVal (eIs sub (.str) (eVar 0)))) (tOr (tVal (eBin cmpEq (eFn bLen (aCons (eVar 0) aNil)) (eC (.int 0)))) (tVal (eBin cmpNotIn (eBin idx (eVar 0) (eC (.int 0))) (eC (.str [97, 98, 99, 100, 101, 102, 103, 104, 105, 106, 107, 108, 109, 110, 111, 112, 113, 114, 115, 116, 117, 118, 119, 120, 121, 122])))))) (sRet (eC (.bl false))) sSkip) (sSeq (sAsg (gVar 1) (eSlc (eVar 0) (oSome (eC (.int 1))) oNone)) (sRet (eOr (eBin cmpEq (eVar 1) (eC (.str []))) (eAnd (eBin cmpLt (eFn bLen (aCons (eVar 1) aNil)) (eC (.int 3))) (eAnd (eBin cmpIn (eBin idx (eVar 1) (eC (.int 0))) (eSlc (eC (.str [48, 49, 50, 51, 52, 53, 54, 55, 56, 57])) (oSome (eC (.int 1))) oNone)) (eBin cmpIn (eBin idx (eVar 1) (eUn opNeg (eC (.int 1)))) (eC (.str [48, 49, 50, 51, 52, 53, 54, 55, 56, 57])))))))))
/-! ### drawn numbers -/
/-- all but one place stands -/
def Chg (b : Nat) (s s' : Sto) : Prop := s.length ≤ s'.length ∧ ∀ n o, n ≠ b → s[n]? = some o → s'[n]? = some o
theorem Chg.refl (b : Nat) (s : Sto) : Chg b s s := ⟨Nat.le_refl _, fun _ _ _ h => h⟩
theorem Chg.trans {b : Nat} {s t u : Sto} (h : Chg b s t) (h' : Chg b t u) : Chg b s u := ⟨Nat.le_trans h.1 h'.1, fun n o q e => h'.2 n o q (h.2 n o q e)⟩
theorem Chg.ext {b : Nat} {s t : Sto} (h : Ext s t) : Chg b s t := ⟨h.len, fun _ _ _ e => h.get e⟩
theorem Chg.set (b : Nat) (s : Sto) (o : MO) : Chg b s (s.set b o) := ⟨by simp, fun n p q e => by rw [List.getElem?_set_ne (fun h => q h.symm)]; exact e⟩
structure Box (ns : List Int) (a b K : Nat) (s : Sto) : Prop where
  ex : ∃ (k : Nat) (acc : Int), s[b]? = some (.lst [.ref a, .int k, .int acc]) ∧ k ≤ K
  ha : s[a]? = some (.lst (ns.map .int))
  ne : a ≠ b
theorem Box.ext {ns : List Int} {a b K : Nat} {s t : Sto} (h : Box ns a b K s) (x : Ext s t) : Box ns a b K t := by
  obtain ⟨k, acc, h1, h4⟩ := h.ex
  exact ⟨⟨k, acc, x.get h1, h4⟩, x.get h.ha, h.ne⟩
theorem Box.le {ns : List Int} {a b K L : Nat} {s : Sto} (h : Box ns a b K s) (q : K ≤ L) : Box ns a b L s := by
  obtain ⟨k, acc, h1, h4⟩ := h.ex
  exact ⟨⟨k, acc, h1, by omega⟩, h.ha, h.ne⟩
theorem Box.set {ns : List Int} {a b K r : Nat} {s : Sto} {o : MO} (h : Box ns a b K s) (ra : r ≠ a) (rb : r ≠ b) : Box ns a b K (s.set r o) := by
  obtain ⟨k, acc, h1, h4⟩ := h.ex
  exact ⟨⟨k, acc, by rw [List.getElem?_set_ne rb]; exact h1, h4⟩, by rw [List.getElem?_set_ne ra]; exact h.ha, h.ne⟩
theorem Box.of {ns : List Int} {a b K k : Nat} {acc : Int} {s : Sto} {o : MO} (h0 : s[b]? = some o) (h2 : s[a]? = some (.lst (ns.map .int))) (h3 : a ≠ b) (h4 : k ≤ K) : Box ns a b K (s.set b (.lst [.ref a, .int k, .int acc])) := by
  refine ⟨⟨k, acc, ?_, h4⟩, ?_, h3⟩
  · rw [List.getElem?_set_self (List.getElem?_eq_some_iff.mp h0).1]
  · rw [List.getElem?_set_ne (fun q => h3 q.symm)]; exact h2
theorem mul_ok {i j : Int} (s : Sto) (h : (-(2 ^ 64) < i ∧ i < 2 ^ 64) ∨ (-(2 ^ 64) < j ∧ j < 2 ^ 64)) : opMul (.int i) (.int j) s = .ok (.int (i * j)) s := if_pos h
theorem mod_ok {i j : Int} (s : Sto) (h : 0 < j) : opMod (.int i) (.int j) s = .ok (.int (i.fmod j)) s := if_pos (by omega)
theorem fdiv_ok {i j : Int} (s : Sto) (h : 0 < j) (h2 : j < 1073741824) : opFdiv (.int i) (.int j) s = .ok (.int (i.fdiv j)) s := if_pos (by omega)
theorem mod_nat (i : Int) {m : Nat} (h : 0 < m) : ∃ v : Nat, i.fmod m = v ∧ v < m := by
  have h1 := Int.fmod_nonneg_of_pos i (b := m) (by omega)
  have h2 := Int.fmod_lt_of_pos i (b := m) (by omega)
  exact ⟨(i.fmod m).toNat, by omega, by omega⟩
theorem atI_map {ns : List Int} {v : Nat} (h : v < ns.length) : LG.atI (ns.map D.int) (v : Int) = some (.int ns[v]) := atI_nat (by rw [List.getElem?_map, List.getElem?_eq_getElem h]; rfl)
def mPick (p1 p2 : Int) : SX :=
  (sSeq (sIf (tVal (eBin cmpLt (eVar 1) (eC (.int 2)))) (sRet (eC (.int 0))) sSkip) (sSeq (sIf (tVal (eBin cmpGt (eBin idx (eVar 0) (eC (.int 2))) (eC (.int 0)))) (sSeq (sAsg (gVar 5) (eBin opMod (eFn bInt (aCons (eBin idx (eVar 0) (eC (.int 2))) aNil)) (eVar 1))) (sSeq (sSetI (eVar 0) (eC (.int 2)) (eBin opFdiv (eBin idx (eVar 0) (eC (.int 2))) (eVar 1))) (sRet (eVar 5)))) sSkip) (sSeq (sAsg (gVar 2) (eBin idx (eVar 0) (eC (.int 1)))) (sSeq (sSetI (eVar 0) (eC (.int 1)) (eBin opAdd (eVar 2) (eC (.int 1)))) (sSeq (sAsg (gVar 3) (eIf (tVal (eBin cmpGt (eFn bLen (aCons (eBin idx (eVar 0) (eC (.int 0))) aNil)) (eC (.int 0)))) (eBin idx (eBin idx (eVar 0) (eC (.int 0))) (eBin opMod (eVar 2) (eFn bLen (aCons (eBin idx (eVar 0) (eC (.int 0))) aNil)))) (eC (.int 0)))) (sSeq (sIf (tAnd (tVal (eBin cmpLt (eVar 2) (eFn bLen (aCons (eBin idx (eVar 0) (eC (.int 0))) aNil)))) (tVal (eBin cmpGe (eVar 3) (eBin opPow (eC (.int 10)) (eC (.int 18)))))) (sSeq (sSetI (eVar 0) (eC (.int 2)) (eBin opFdiv (eVar 3) (eVar 1))) (sRet (eBin opMod (eFn bInt (aCons (eVar 3) aNil)) (eVar 1)))) sSkip) (sSeq (sAsg (gVar 4) (eBin opMod (eBin opMul (eBin opAdd (eBin opAdd (eBin opMod (eFn bInt (aCons (eVar 3) aNil)) (eC (.int 2147483629))) (eBin opMul (eC (.int 5)) (eVar 2))) (eC (.int 3))) (eC (.int 48271))) (eC (.int 2147483647)))) (sSeq (sAsg (gVar 4) (eBin opMod (eBin opAdd (eBin opAdd (eBin opMul (eVar 4) (eVar 4)) (eBin opMul (eBin opMul (eVar 2) (eVar 2)) (eC (.int p1)))) (eBin opMul (eC (.int p2)) (eVar 2))) (eC (.int 2147483587)))) (sSeq (sAsg (gVar 4) (eBin opMod (eBin opMul (eBin opAdd (eBin opMul (eVar 4) (eC (.int 69621))) (eVar 2)) (eBin opAdd (eVar 4) (eC (.int 7)))) (eC (.int 2147483629)))) (sRet (eBin opMod (eBin opFdiv (eVar 4) (eC (.int 16))) (eVar 1))))))))))))
theorem pick_run {p1 p2 : Int} (hp1 : 0 ≤ p1 ∧ p1 < 1000000) {ns : List Int} {a b K many : Nat} {s : Sto} (B : Box ns a b K s) (hK : K < 1000000) (hm : 1 ≤ many) (hm2 : many ≤ 100000) :
    ∃ (v : Nat) (s' : Sto), fnRes (mPick p1 p2 [some (.ref b), some (.int many), none, none, none, none] s) = .ok (.int v) s' ∧ v < many ∧ Box ns a b (K + 1) s' ∧ Chg b s s' := by
  obtain ⟨q, acc, h1, h4⟩ := B.ex
  have h2 := B.ha
  have h3 := B.ne
  unfold mPick
  by_cases c0 : many < 2
  · refine ⟨0, s, fnRes_ret (sSeq_r ((sIf_t (tVal_b ((eBin_ok (eVar_ok rfl) rfl).trans ?_))).trans (sRet_ok rfl))), by omega, B.le (by omega), Chg.refl _ _⟩
    show Res.ok (D.bl (decide ((many : Int) < 2))) s = _
    rw [decide_eq_true (by omega)]
  have t0 : tVal (eBin cmpLt (eVar 1) (eC (.int 2))) [some (.ref b), some (.int many), none, none, none, none] s = .ok false s := tVal_b ((eBin_ok (eVar_ok rfl) rfl).trans (by
    show Res.ok (D.bl (decide ((many : Int) < 2))) s = _
    rw [decide_eq_false (by omega)]))
  have bx2 : ∀ f : Fr, f[0]? = some (some (.ref b)) → eBin idx (eVar 0) (eC (.int 2)) f s = .ok (.int acc) s := fun f h => (eBin_ok (eVar_ok h) rfl).trans (idx_ref h1 rfl)
  by_cases c1 : 0 < acc
  · obtain ⟨v, e, hv⟩ := mod_nat acc (m := many) (by omega)
    refine ⟨v, s.set b (.lst [.ref a, .int q, .int (acc.fdiv many)]), ?_, hv, Box.of h1 h2 h3 (by omega), Chg.set _ _ _⟩
    have t1 : tVal (eBin cmpGt (eBin idx (eVar 0) (eC (.int 2))) (eC (.int 0))) [some (.ref b), some (.int many), none, none, none, none] s = .ok true s := tVal_b ((eBin_ok (bx2 _ rfl) rfl).trans (by
      show Res.ok (D.bl (decide ((0 : Int) < acc))) s = _
      rw [decide_eq_true c1]))
    refine fnRes_ret ((sSeq_n (sIf_skip t0)).trans (sSeq_r ((sIf_t t1).trans ((sSeq_n (sAsg_ok (d := .int v) (s' := s) ((eBin_ok ((eFn1 (bx2 _ rfl)).trans rfl) (eVar_ok rfl)).trans ((mod_ok s (by omega)).trans (by rw [e]))) rfl)).trans
      ((sSeq_n (sSetI_ok ((eBin_ok (bx2 _ rfl) (eVar_ok rfl)).trans (fdiv_ok s (by omega) (by omega))) (eVar_ok rfl) rfl ?_)).trans (sRet_ok (eVar_ok rfl)))))))
    unfold setI
    simp only [h1]
    rfl
  have t1 : tVal (eBin cmpGt (eBin idx (eVar 0) (eC (.int 2))) (eC (.int 0))) [some (.ref b), some (.int many), none, none, none, none] s = .ok false s := tVal_b ((eBin_ok (bx2 _ rfl) rfl).trans (by
    show Res.ok (D.bl (decide ((0 : Int) < acc))) s = _
    rw [decide_eq_false c1]))
  have hm0 : (0 : Int) < many := by omega
  have hm3 : (many : Int) < 1073741824 := by omega
  have bx1 : ∀ f : Fr, f[0]? = some (some (.ref b)) → eBin idx (eVar 0) (eC (.int 1)) f s = .ok (.int q) s := fun f h => (eBin_ok (eVar_ok h) rfl).trans (idx_ref h1 rfl)
  have h1' : (s.set b (.lst [.ref a, .int ((q : Int) + 1), .int acc]))[b]? = some (.lst [.ref a, .int ((q + 1 : Nat) : Int), .int acc]) := by
    rw [List.getElem?_set_self (List.getElem?_eq_some_iff.mp h1).1]; rfl
  have h2' : (s.set b (.lst [.ref a, .int ((q : Int) + 1), .int acc]))[a]? = some (.lst (ns.map .int)) := by
    rw [List.getElem?_set_ne (fun q => h3 q.symm)]; exact h2
  have st1 : ∀ f : Fr, f[0]? = some (some (.ref b)) → f[2]? = some (some (.int q)) → sSetI (eVar 0) (eC (.int 1)) (eBin opAdd (eVar 2) (eC (.int 1))) f s = .next f (s.set b (.lst [.ref a, .int ((q : Int) + 1), .int acc])) := fun f g1 g2 => by
    refine sSetI_ok ((eBin_ok (eVar_ok g2) rfl).trans rfl) (eVar_ok g1) rfl ?_
    unfold setI
    simp only [h1]
    rfl
  have g1 : Chg b s (s.set b (.lst [.ref a, .int ((q : Int) + 1), .int acc])) := Chg.set _ _ _
  revert h1' h2' st1 g1
  generalize s.set b (.lst [.ref a, .int ((q : Int) + 1), .int acc]) = s1
  intro h1' h2' st1 g1
  have bx0 : ∀ f : Fr, f[0]? = some (some (.ref b)) → eBin idx (eVar 0) (eC (.int 0)) f s1 = .ok (.ref a) s1 := fun f h => (eBin_ok (eVar_ok h) rfl).trans (idx_ref h1' rfl)
  have ln : ∀ f : Fr, f[0]? = some (some (.ref b)) → eFn bLen (aCons (eBin idx (eVar 0) (eC (.int 0))) aNil) f s1 = .ok (.int ns.length) s1 := fun f h => (eFn1 (bx0 f h)).trans (by
    unfold bLen lenO; simp only [h2', List.length_map])
  have cl : ∃ c : Int, ∀ f : Fr, f[0]? = some (some (.ref b)) → f[2]? = some (some (.int q)) → eIf (tVal (eBin cmpGt (eFn bLen (aCons (eBin idx (eVar 0) (eC (.int 0))) aNil)) (eC (.int 0)))) (eBin idx (eBin idx (eVar 0) (eC (.int 0))) (eBin opMod (eVar 2) (eFn bLen (aCons (eBin idx (eVar 0) (eC (.int 0))) aNil)))) (eC (.int 0)) f s1 = .ok (.int c) s1 := by
    by_cases hl : 0 < ns.length
    · obtain ⟨v, e, hv⟩ := mod_nat q hl
      refine ⟨ns[v], fun f g1 g2 => (eIf_t (tVal_b ((eBin_ok (ln f g1) rfl).trans ?_))).trans ((eBin_ok (bx0 f g1) ((eBin_ok (eVar_ok g2) (ln f g1)).trans ((mod_ok s1 (by omega)).trans (by rw [e])))).trans (idx_ref h2' (atI_map hv)))⟩
      show Res.ok (D.bl (decide ((0 : Int) < ns.length))) s1 = _
      rw [decide_eq_true (by omega)]
    · refine ⟨0, fun f g1 g2 => (eIf_f (tVal_b ((eBin_ok (ln f g1) rfl).trans ?_))).trans rfl⟩
      show Res.ok (D.bl (decide ((0 : Int) < ns.length))) s1 = _
      rw [decide_eq_false (by omega)]
  obtain ⟨c, hc⟩ := cl
  have ta : ∃ bb : Bool, tAnd (tVal (eBin cmpLt (eVar 2) (eFn bLen (aCons (eBin idx (eVar 0) (eC (.int 0))) aNil)))) (tVal (eBin cmpGe (eVar 3) (eBin opPow (eC (.int 10)) (eC (.int 18))))) [some (.ref b), some (.int many), some (.int q), some (.int c), none, none] s1 = .ok bb s1 := by
    have u1 : tVal (eBin cmpLt (eVar 2) (eFn bLen (aCons (eBin idx (eVar 0) (eC (.int 0))) aNil))) [some (.ref b), some (.int many), some (.int q), some (.int c), none, none] s1 = .ok (decide ((q : Int) < ns.length)) s1 := tVal_b ((eBin_ok (eVar_ok rfl) (ln _ rfl)).trans rfl)
    have u2 : tVal (eBin cmpGe (eVar 3) (eBin opPow (eC (.int 10)) (eC (.int 18)))) [some (.ref b), some (.int many), some (.int q), some (.int c), none, none] s1 = .ok (decide ((10 : Int) ^ 18 ≤ c)) s1 := tVal_b ((eBin_ok (eVar_ok rfl) ((eBin_ok rfl rfl).trans (by kernel_rfl : _ = Res.ok (D.int (10 ^ 18)) s1))).trans rfl)
    by_cases z : decide ((q : Int) < ns.length) = true
    · rw [z] at u1; exact ⟨_, (tAnd_t u1).trans u2⟩
    · rw [Bool.not_eq_true] at z; rw [z] at u1; exact ⟨_, tAnd_f u1⟩
  obtain ⟨bb, ta⟩ := ta
  have pre : ∀ R : SX, sSeq (sAsg (gVar 2) (eBin idx (eVar 0) (eC (.int 1)))) (sSeq (sSetI (eVar 0) (eC (.int 1)) (eBin opAdd (eVar 2) (eC (.int 1)))) (sSeq (sAsg (gVar 3) (eIf (tVal (eBin cmpGt (eFn bLen (aCons (eBin idx (eVar 0) (eC (.int 0))) aNil)) (eC (.int 0)))) (eBin idx (eBin idx (eVar 0) (eC (.int 0))) (eBin opMod (eVar 2) (eFn bLen (aCons (eBin idx (eVar 0) (eC (.int 0))) aNil)))) (eC (.int 0)))) R)) [some (.ref b), some (.int many), none, none, none, none] s = R [some (.ref b), some (.int many), some (.int q), some (.int c), none, none] s1 := fun R =>
    (sSeq_n (sAsg_ok (bx1 _ rfl) rfl)).trans ((sSeq_n (st1 _ rfl rfl)).trans (sSeq_n (sAsg_ok (hc _ rfl rfl) rfl)))
  cases bb with
  | true =>
    obtain ⟨v, e, hv⟩ := mod_nat c (m := many) (by omega)
    refine ⟨v, s1.set b (.lst [.ref a, .int ((q + 1 : Nat) : Int), .int (c.fdiv many)]), ?_, hv, Box.of h1' h2' h3 (by omega), g1.trans (Chg.set _ _ _)⟩
    refine fnRes_ret ((sSeq_n (sIf_skip t0)).trans ((sSeq_n (sIf_skip t1)).trans ((pre _).trans (sSeq_r ((sIf_t ta).trans ((sSeq_n (sSetI_ok ((eBin_ok (eVar_ok rfl) (eVar_ok rfl)).trans (fdiv_ok (i := c) s1 hm0 hm3)) (eVar_ok rfl) rfl ?_)).trans (sRet_ok ((eBin_ok ((eFn1 (eVar_ok rfl)).trans rfl) (eVar_ok rfl)).trans ((mod_ok (i := c) _ hm0).trans (by rw [e]))))))))))
    unfold setI
    simp only [h1']
    rfl
  | false =>
    obtain ⟨x1, e1, b1⟩ := mod_nat ((c.fmod 2147483629 + 5 * q + 3) * 48271) (m := 2147483647) (by omega)
    obtain ⟨x2, e2, b2⟩ := mod_nat ((x1 : Int) * x1 + q * q * p1 + p2 * q) (m := 2147483587) (by omega)
    obtain ⟨x3, e3, b3⟩ := mod_nat (((x2 : Int) * 69621 + q) * (x2 + 7)) (m := 2147483629) (by omega)
    obtain ⟨v, e, hv⟩ := mod_nat ((x3 : Int).fdiv 16) (m := many) (by omega)
    refine ⟨v, s1, ?_, hv, ⟨⟨q + 1, acc, h1', by omega⟩, h2', h3⟩, g1⟩
    have M1 : eBin opMod (eBin opMul (eBin opAdd (eBin opAdd (eBin opMod (eFn bInt (aCons (eVar 3) aNil)) (eC (.int 2147483629))) (eBin opMul (eC (.int 5)) (eVar 2))) (eC (.int 3))) (eC (.int 48271))) (eC (.int 2147483647)) [some (.ref b), some (.int many), some (.int q), some (.int c), none, none] s1 = .ok (.int x1) s1 := by
      have y1 : eBin opMod (eFn bInt (aCons (eVar 3) aNil)) (eC (.int 2147483629)) [some (.ref b), some (.int many), some (.int q), some (.int c), none, none] s1 = .ok (.int (c.fmod 2147483629)) s1 := (eBin_ok ((eFn1 (eVar_ok rfl)).trans rfl) rfl).trans (mod_ok s1 (by omega))
      have y2 : eBin opMul (eC (.int 5)) (eVar 2) [some (.ref b), some (.int many), some (.int q), some (.int c), none, none] s1 = .ok (.int (5 * q)) s1 := (eBin_ok rfl (eVar_ok rfl)).trans (mul_ok s1 (by omega))
      exact (eBin_ok ((eBin_ok ((eBin_ok ((eBin_ok y1 y2).trans rfl) rfl).trans rfl) rfl).trans (mul_ok s1 (.inr (by omega)))) rfl).trans ((mod_ok s1 (by omega)).trans (by rw [← e1]; rfl))
    have M2 : eBin opMod (eBin opAdd (eBin opAdd (eBin opMul (eVar 4) (eVar 4)) (eBin opMul (eBin opMul (eVar 2) (eVar 2)) (eC (.int p1)))) (eBin opMul (eC (.int p2)) (eVar 2))) (eC (.int 2147483587)) [some (.ref b), some (.int many), some (.int q), some (.int c), some (.int x1), none] s1 = .ok (.int x2) s1 := by
      have y1 : eBin opMul (eVar 4) (eVar 4) [some (.ref b), some (.int many), some (.int q), some (.int c), some (.int x1), none] s1 = .ok (.int ((x1 : Int) * x1)) s1 := (eBin_ok (eVar_ok rfl) (eVar_ok rfl)).trans (mul_ok s1 (by omega))
      have y2 : eBin opMul (eBin opMul (eVar 2) (eVar 2)) (eC (.int p1)) [some (.ref b), some (.int many), some (.int q), some (.int c), some (.int x1), none] s1 = .ok (.int ((q : Int) * q * p1)) s1 := (eBin_ok ((eBin_ok (eVar_ok rfl) (eVar_ok rfl)).trans (mul_ok s1 (by omega))) rfl).trans (mul_ok s1 (.inr (by omega)))
      have y3 : eBin opMul (eC (.int p2)) (eVar 2) [some (.ref b), some (.int many), some (.int q), some (.int c), some (.int x1), none] s1 = .ok (.int (p2 * q)) s1 := (eBin_ok rfl (eVar_ok rfl)).trans (mul_ok s1 (by omega))
      exact (eBin_ok ((eBin_ok ((eBin_ok y1 y2).trans rfl) y3).trans rfl) rfl).trans ((mod_ok s1 (by omega)).trans (by rw [← e2]; rfl))
    have M3 : eBin opMod (eBin opMul (eBin opAdd (eBin opMul (eVar 4) (eC (.int 69621))) (eVar 2)) (eBin opAdd (eVar 4) (eC (.int 7)))) (eC (.int 2147483629)) [some (.ref b), some (.int many), some (.int q), some (.int c), some (.int x2), none] s1 = .ok (.int x3) s1 := by
      have y1 : eBin opMul (eVar 4) (eC (.int 69621)) [some (.ref b), some (.int many), some (.int q), some (.int c), some (.int x2), none] s1 = .ok (.int ((x2 : Int) * 69621)) s1 := (eBin_ok (eVar_ok rfl) rfl).trans (mul_ok s1 (.inr (by omega)))
      exact (eBin_ok ((eBin_ok ((eBin_ok y1 (eVar_ok rfl)).trans rfl) ((eBin_ok (eVar_ok rfl) rfl).trans rfl)).trans (mul_ok s1 (.inr (by omega)))) rfl).trans ((mod_ok s1 (by omega)).trans (by rw [← e3]; rfl))
    exact fnRes_ret ((sSeq_n (sIf_skip t0)).trans ((sSeq_n (sIf_skip t1)).trans ((pre _).trans ((sSeq_n (sIf_skip ta)).trans ((sSeq_n (sAsg_ok M1 rfl)).trans ((sSeq_n (sAsg_ok M2 rfl)).trans ((sSeq_n (sAsg_ok M3 rfl)).trans
      (sRet_ok ((eBin_ok ((eBin_ok (eVar_ok rfl) rfl).trans (fdiv_ok s1 (by omega) (by omega))) (eVar_ok rfl)).trans ((mod_ok s1 hm0).trans (by rw [e])))))))))))
theorem b_lt {ns : List Int} {a b K : Nat} {s : Sto} (B : Box ns a b K s) : b < s.length := by
  obtain ⟨k, acc, h1, _⟩ := B.ex
  exact (List.getElem?_eq_some_iff.mp h1).1
theorem a_lt {ns : List Int} {a b K : Nat} {s : Sto} (B : Box ns a b K s) : a < s.length := (List.getElem?_eq_some_iff.mp B.ha).1
/-! ### what repr and == are asked of -/
structure Sm (p : PyData) (w : Nat) : Prop where
  sh : p.showable = true
  lv : p.leavesShort 13 = true
  wt : p.weight ≤ w
structure SmL (ps : List PyData) (w : Nat) : Prop where
  sh : PyData.showableAll ps = true
  lv : PyData.leavesShortAll 13 ps = true
  wt : PyData.weightAll ps ≤ w
theorem Sm.le {p : PyData} {w v : Nat} (h : Sm p w) (q : w ≤ v) : Sm p v := ⟨h.sh, h.lv, Nat.le_trans h.wt q⟩
theorem SmL.le {p : List PyData} {w v : Nat} (h : SmL p w) (q : w ≤ v) : SmL p v := ⟨h.sh, h.lv, Nat.le_trans h.wt q⟩
theorem SmL.nil : SmL [] 0 := ⟨rfl, rfl, Nat.le_refl _⟩
theorem SmL.cons {p : PyData} {ps : List PyData} {w v : Nat} (h : Sm p w) (q : SmL ps v) : SmL (p :: ps) (w + 1 + v) := ⟨by
  show (p.showable && PyData.showableAll ps) = true
  rw [h.sh, q.sh]; rfl, by
  show (PyData.leavesShort 13 p && PyData.leavesShortAll 13 ps) = true
  rw [h.lv, q.lv]; rfl, by
  have h1 := h.wt
  have h2 := q.wt
  show p.weight + 1 + PyData.weightAll ps ≤ _
  omega⟩
theorem SmL.app {w v : Nat} : ∀ {ps qs : List PyData}, SmL ps w → SmL qs v → SmL (ps ++ qs) (w + v)
  | [], qs, _, h => h.le (by omega)
  | p :: ps, qs, h, q => by
    have h1 : p.showable = true ∧ PyData.showableAll ps = true := by simpa [PyData.showableAll] using h.sh
    have h2 : PyData.leavesShort 13 p = true ∧ PyData.leavesShortAll 13 ps = true := by simpa [PyData.leavesShortAll] using h.lv
    have h3 : p.weight + 1 + PyData.weightAll ps ≤ w := h.wt
    have ih := SmL.app (ps := ps) (qs := qs) (w := PyData.weightAll ps) ⟨h1.2, h2.2, Nat.le_refl _⟩ q
    exact (SmL.cons (p := p) ⟨h1.1, h2.1, Nat.le_refl _⟩ ih).le (by omega)
theorem Sm.tup {ps : List PyData} {w : Nat} (h : SmL ps w) : Sm (.tuple ps) w := ⟨h.sh, h.lv, h.wt⟩
theorem Sm.list {ps : List PyData} {w : Nat} (h : SmL ps w) : Sm (.list ps) w := ⟨h.sh, h.lv, h.wt⟩
theorem Sm.int {i : Int} (h : i.natAbs < 64) : Sm (.int i) 6 := by
  have hl : i.natAbs.log2 < 6 ∨ i.natAbs = 0 := by
    by_cases z : i.natAbs = 0
    · exact .inr z
    · exact .inl ((Nat.log2_lt z).mpr h)
  have hl' : i.natAbs.log2 < 6 := by
    rcases hl with h | h
    · exact h
    · rw [h]; decide
  refine ⟨?_, ?_, ?_⟩
  · show decide (i.natAbs.log2 < 1920) = true
    rw [decide_eq_true_eq]; omega
  · show decide ((PyData.shown (.int i)).length ≤ 13) = true
    rw [decide_eq_true_eq]
    exact PyData.shown_int_le (by omega)
  · show (if i == 0 then 0 else i.natAbs.log2 + 1) ≤ 6
    split <;> omega
theorem Sm.non : Sm .none 0 := ⟨rfl, rfl, Nat.le_refl _⟩
theorem Sm.fits {p : PyData} {w : Nat} (h : Sm p w) (hw : w ≤ 1000000) : p.showable = true ∧ p.shown.length ≤ LIM := by
  have := PyData.shown_le 13 (by omega) p h.lv
  have h2 := h.wt
  refine ⟨h.sh, ?_⟩
  show p.shown.length ≤ 16777216
  omega
theorem SmL.map {α : Type} {f : α → PyData} {w : Nat} : ∀ {xs : List α}, (∀ x ∈ xs, Sm (f x) w) → SmL (xs.map f) ((w + 1) * xs.length)
  | [], _ => SmL.nil.le (by omega)
  | x :: xs, h => by
    refine (SmL.cons (h x (by simp)) (SmL.map (xs := xs) fun y hy => h y (List.mem_cons_of_mem _ hy))).le ?_
    rw [List.length_cons, Nat.mul_add]; omega
theorem allO_map {α β : Type} {f : α → Option β} {g : α → β} : ∀ {xs : List α}, (∀ x ∈ xs, f x = some (g x)) → allO f xs = some (xs.map g)
  | [], _ => rfl
  | x :: xs, h => by
    unfold allO
    rw [h x (by simp), allO_map fun y hy => h y (List.mem_cons_of_mem _ hy)]
    rfl
theorem allO_app {α β : Type} {f : α → Option β} : ∀ {xs ys : List α} {ps qs : List β}, allO f xs = some ps → allO f ys = some qs → allO f (xs ++ ys) = some (ps ++ qs)
  | [], ys, ps, qs, h, q => by cases h; exact q
  | x :: xs, ys, ps, qs, h, q => by
    unfold allO at h
    split at h
    · rename_i y e1
      split at h
      · rename_i zs e2
        cases h
        show allO f (x :: (xs ++ ys)) = _
        unfold allO
        rw [e1, allO_app e2 q]
        rfl
      · cases h
    · cases h
abbrev pS (x : Cs) : PyData := .str ⟨x.toArray⟩
theorem tup_pd {s : Sto} {n : Nat} {xs : List D} {ps : List PyData} (h : allO (toPD s n) xs = some ps) : toPD s (n + 1) (.tup xs) = some (.tuple ps) := by
  unfold toPD; rw [h]
theorem lst_pd {s : Sto} {n a : Nat} {xs : List D} {ps : List PyData} (ha : s[a]? = some (.lst xs)) (h : allO (toPD s n) xs = some ps) : toPD s (n + 1) (.ref a) = some (.list ps) := by
  unfold toPD; rw [ha]; simp only [h]
theorem repr_ok {s : Sto} {d : D} {p : PyData} {w : Nat} (h : toPD s 60 d = some p) (q : Sm p w) (hw : w ≤ 1000000) : bRepr [d] s = .ok (.str p.shown.cps.toList) s := by
  unfold bRepr
  simp only [h]
  exact if_pos (q.fits hw)
theorem str_ne (s : Sto) {x : Cs} (h : okC x = true) : cmpNe (.str x) (.str x) s = .ok (.bl false) s := by
  unfold cmpNe
  rw [eqO_str s x x h h, decide_eq_true rfl]
  rfl
theorem trip_ne (s : Sto) (a b : Bool) {x : Cs} (h : okC x = true) : cmpNe (.tup [.bl a, .bl b, .str x]) (.tup [.bl a, .bl b, .str x]) s = .ok (.bl false) s := by
  have e : toPD s 60 (.tup [.bl a, .bl b, .str x]) = some (.tuple [.bool a, .bool b, pS x]) := by
    refine tup_pd (n := 59) ?_
    have hx : toPD s 59 (.str x) = some (pS x) := by
      unfold okC at h
      unfold toPD
      rw [if_pos h]
    show allO _ [_, _, D.str x] = _
    unfold allO
    rw [show toPD s 59 (.bl a) = some (.bool a) from rfl]
    unfold allO
    rw [show toPD s 59 (.bl b) = some (.bool b) from rfl]
    unfold allO
    rw [hx]
    rfl
  unfold cmpNe eqO
  rw [e]
  have : PyData.eqv (.tuple [.bool a, .bool b, pS x]) (.tuple [.bool a, .bool b, pS x]) = true := by
    cases a <;> cases b <;> simp [PyData.eqv, PyData.eqvAll]
  simp only [this]
  rfl
/-! ### more steps -/
section
variable {f f' fa fb f0 : Fr} {s s' s0 s1 s2 : Sto} {d x y a b : D}
theorem eAnd_t {p q : EX} (h : p f s = .ok x s') (ht : truth s' x = some true) : eAnd p q f s = q f s' := by unfold eAnd LG.bnd; rw [h]; simp only [ht]
theorem eAnd_f {p q : EX} (h : p f s = .ok x s') (ht : truth s' x = some false) : eAnd p q f s = .ok x s' := by unfold eAnd LG.bnd; rw [h]; simp only [ht]
theorem eOr_t {p q : EX} (h : p f s = .ok x s') (ht : truth s' x = some true) : eOr p q f s = .ok x s' := by unfold eOr LG.bnd; rw [h]; simp only [ht]
theorem eOr_f {p q : EX} (h : p f s = .ok x s') (ht : truth s' x = some false) : eOr p q f s = q f s' := by unfold eOr LG.bnd; rw [h]; simp only [ht]
theorem eNot_ok {p : EX} {k : Bool} (h : p f s = .ok x s') (ht : truth s' x = some k) : eNot p f s = .ok (.bl (!k)) s' := by unfold eNot LG.bnd; rw [h]; simp only [ht]
theorem eIs_ok {sub : Nat → Nat → Option Bool} {t : Ty} {p : EX} {k : Bool} (h : p f s = .ok x s') (ht : isinst sub t s' x = some k) : eIs sub t p f s = .ok (.bl k) s' := by unfold eIs LG.bnd; rw [h]; simp only [ht]
theorem lcI_two {gx : GX} {t : TX} {e : EX} (n : Nat) (ga : gx a f0 = some fa) (gb : gx b f0 = some fb) (ta : t fa s0 = .ok true s0) (ea : e fa s0 = .ok x s1) (tb : t fb s1 = .ok true s1) (eb : e fb s1 = .ok y s2) : lcI (.tup [a, b]) gx t e f0 (n + 3) 0 [] s0 = .ok [x, y] s2 := by
  unfold lcI
  simp only [nextI, List.getElem?_cons_zero, ga, ta, ea]
  rw [if_pos (by show (0 : Nat) < 16777216; omega)]
  unfold lcI
  simp only [nextI, List.getElem?_cons_succ, List.getElem?_cons_zero, gb, tb, eb]
  rw [if_pos (by show (1 : Nat) < 16777216; omega)]
  unfold lcI
  simp only [nextI]
  rfl
/-- a comprehension over two -/
theorem lc_two {own : List Nat} {it : IX} {gx : GX} {t : TX} {e : EX} (h1 : it f s = .ok (.tup [a, b]) s0) (hw : wipeF f own = f0) (ga : gx a f0 = some fa) (gb : gx b f0 = some fb) (ta : t fa s0 = .ok true s0) (ea : e fa s0 = .ok x s1) (tb : t fb s1 = .ok true s1) (eb : e fb s1 = .ok y s2) :
    eLc own it gx t e f s = .ok (.ref s2.length) (s2 ++ [.lst [x, y]]) := eLc_ok h1 (by rw [hw]; exact lcI_two 99999997 ga gb ta ea tb eb)
end
end LG
set_option Elab.async false
set_option linter.all false
set_option maxRecDepth 100000
set_option maxHeartbeats 4000000
/-! lettersgone_k01_what_is_no_name_no_sayin: what the top has written. Printed by gen.py. -/
namespace K01
open PySem PySem.Spec PyProof.Rows L2 LG
abbrev prg : Program := PySem.Challenge.pw_lettersgone_k01_what_is_no_name_no_sayin
def top (i : Nat) : Stmt := PySem.Challenge.pw_lettersgone_k01_what_is_no_name_no_sayin.main.body.getD i (.Pass ⟨0, 0, 0, 0⟩)
def d0 : LG.DefS := ⟨"are_ascending", ["items"], ["items", "k"], top 6⟩
def d1 : LG.DefS := ⟨"anew", ["value"], ["value", "item"], top 7⟩
def d2 : LG.DefS := ⟨"is_name_in", ["value"], ["value", "number"], top 18⟩
def d3 : LG.DefS := ⟨"inner", ["saying"], ["saying"], top 19⟩
def d4 : LG.DefS := ⟨"is_saying_in", ["value"], ["value", "side"], top 20⟩
def d5 : LG.DefS := ⟨"all_in", ["sayings"], ["sayings", "found", "pile", "one"], top 21⟩
def d6 : LG.DefS := ⟨"parts_in", ["sayings"], ["sayings"], top 22⟩
def d7 : LG.DefS := ⟨"are_parts_in", ["value"], ["value", "one", "side"], top 23⟩
def d8 : LG.DefS := ⟨"names_in", ["sayings"], ["sayings", "one"], top 24⟩
def d9 : LG.DefS := ⟨"choices_among", ["parts"], ["parts", "one"], top 25⟩
def d10 : LG.DefS := ⟨"count_words", ["saying"], ["saying", "side"], top 26⟩
def d11 : LG.DefS := ⟨"depth_in", ["saying"], ["saying", "side"], top 27⟩
def d12 : LG.DefS := ⟨"put_for", ["saying", "name", "other"], ["saying", "name", "other", "side"], top 28⟩
def d13 : LG.DefS := ⟨"need_name", ["name"], ["name"], top 31⟩
def d14 : LG.DefS := ⟨"need_saying", ["saying"], ["saying"], top 32⟩
def d15 : LG.DefS := ⟨"need_sayings", ["sayings"], ["sayings", "is_right", "one"], top 33⟩
def d16 : LG.DefS := ⟨"is_name", ["value"], ["value"], top 34⟩
def d17 : LG.DefS := ⟨"is_saying", ["value"], ["value"], top 35⟩
def d18 : LG.DefS := ⟨"letters_of", ["saying"], ["saying"], top 36⟩
def d19 : LG.DefS := ⟨"words_in", ["saying"], ["saying"], top 37⟩
def d20 : LG.DefS := ⟨"depth", ["saying"], ["saying"], top 38⟩
def d21 : LG.DefS := ⟨"denied", ["saying"], ["saying"], top 39⟩
def d22 : LG.DefS := ⟨"put", ["saying", "name", "other"], ["saying", "name", "other"], top 40⟩
def d23 : LG.DefS := ⟨"parts_of", ["sayings"], ["sayings"], top 41⟩
def d24 : LG.DefS := ⟨"is_parts", ["value"], ["value"], top 42⟩
def d25 : LG.DefS := ⟨"choices_in", ["sayings"], ["sayings"], top 43⟩
def d26 : LG.DefS := ⟨"_law_box", ["script"], ["script"], top 45⟩
def d27 : LG.DefS := ⟨"_law_draw", ["box", "many"], ["box", "many", "k", "cell", "mixed", "got"], top 46⟩
def d28 : LG.DefS := ⟨"_law_says", ["said", "due"], ["said", "due"], top 47⟩
def d29 : LG.DefS := ⟨"_law_not", ["saying"], ["saying"], top 48⟩
def d30 : LG.DefS := ⟨"_law_leaf", ["box", "names"], ["box", "names"], top 49⟩
def d31 : LG.DefS := ⟨"_law_saying", ["box", "names", "steps", "ifs"], ["box", "names", "steps", "ifs", "kind", "word", "one"], top 50⟩
def d32 : LG.DefS := ⟨"_law_is_name", ["value"], ["value", "number"], top 51⟩
def d33 : LG.DefS := ⟨"_law_is_saying", ["value"], ["value"], top 52⟩
def d34 : LG.DefS := ⟨"_law_word", ["box"], ["box", "sign"], top 53⟩
def d35 : LG.DefS := ⟨"_law_spoilt", ["box", "saying"], ["box", "saying", "bad", "one", "rows"], top 54⟩
def d36 : LG.DefS := ⟨"_law_ask", ["kind", "one", "other"], ["kind", "one", "other", "e", "word", "got"], top 55⟩
def d37 : LG.DefS := ⟨"law", ["script"], ["script", "box", "turn", "word", "saying", "odd", "none", "row", "kind"], top 56⟩
def ds : List LG.DefS := [d0, d1, d2, d3, d4, d5, d6, d7, d8, d9, d10, d11, d12, d13, d14, d15, d16, d17, d18, d19, d20, d21, d22, d23, d24, d25, d26, d27, d28, d29, d30, d31, d32, d33, d34, d35, d36, d37]
def con : List (Str × LG.D) := [("LETTER", .str (Str.ofString "letter").cps.toList), ("TRUE", .str (Str.ofString "true").cps.toList), ("FALSE", .str (Str.ofString "false").cps.toList), ("AND", .str (Str.ofString "and").cps.toList), ("OR", .str (Str.ofString "or").cps.toList), ("IF", .str (Str.ofString "if").cps.toList), ("NO", .tup [.str (Str.ofString "false").cps.toList]), ("SIGNS", .str (Str.ofString "abcdefghijklmnopqrstuvwxyz").cps.toList), ("DIGITS", .str (Str.ofString "0123456789").cps.toList), ("MOST_SAYINGS", .int 12)]
def tab : List (List Bool) := [[true, false, false, false], [true, true, false, false], [true, false, true, false], [true, false, false, true]]
def g : Glob := ⟨con, ds.map fun d => (d.x, d.ps), ["LetterError", "InvalidName", "InvalidSaying", "InvalidSayings"], subT tab, false⟩
theorem kb0 : KB0 d0 := fun kV doc pm an cdv ct j vs hj hv => by
  match vs, hv with
  | [v0], _ =>
    have hj : j ≤ 1 := hj
    match j, hj with
    | 0, _ => rfl
    | 1, _ => rfl
    | n + 2, hj => exact absurd hj (by omega)
theorem sc0 : C8.scC d0.N d0.ps (stScope d0.st) = true := by decide +kernel
theorem kb1 : KB0 d1 := fun kV doc pm an cdv ct j vs hj hv => by
  match vs, hv with
  | [v0], _ =>
    have hj : j ≤ 1 := hj
    match j, hj with
    | 0, _ => rfl
    | 1, _ => rfl
    | n + 2, hj => exact absurd hj (by omega)
theorem sc1 : C8.scC d1.N d1.ps (stScope d1.st) = true := by decide +kernel
theorem kb2 : KB0 d2 := fun kV doc pm an cdv ct j vs hj hv => by
  match vs, hv with
  | [v0], _ =>
    have hj : j ≤ 1 := hj
    match j, hj with
    | 0, _ => rfl
    | 1, _ => rfl
    | n + 2, hj => exact absurd hj (by omega)
theorem sc2 : C8.scC d2.N d2.ps (stScope d2.st) = true := by decide +kernel
theorem kb3 : KB0 d3 := fun kV doc pm an cdv ct j vs hj hv => by
  match vs, hv with
  | [v0], _ =>
    have hj : j ≤ 1 := hj
    match j, hj with
    | 0, _ => rfl
    | 1, _ => rfl
    | n + 2, hj => exact absurd hj (by omega)
theorem sc3 : C8.scC d3.N d3.ps (stScope d3.st) = true := by decide +kernel
theorem kb4 : KB0 d4 := fun kV doc pm an cdv ct j vs hj hv => by
  match vs, hv with
  | [v0], _ =>
    have hj : j ≤ 1 := hj
    match j, hj with
    | 0, _ => rfl
    | 1, _ => rfl
    | n + 2, hj => exact absurd hj (by omega)
theorem sc4 : C8.scC d4.N d4.ps (stScope d4.st) = true := by decide +kernel
theorem kb5 : KB0 d5 := fun kV doc pm an cdv ct j vs hj hv => by
  match vs, hv with
  | [v0], _ =>
    have hj : j ≤ 1 := hj
    match j, hj with
    | 0, _ => rfl
    | 1, _ => rfl
    | n + 2, hj => exact absurd hj (by omega)
theorem sc5 : C8.scC d5.N d5.ps (stScope d5.st) = true := by decide +kernel
theorem kb6 : KB0 d6 := fun kV doc pm an cdv ct j vs hj hv => by
  match vs, hv with
  | [v0], _ =>
    have hj : j ≤ 1 := hj
    match j, hj with
    | 0, _ => rfl
    | 1, _ => rfl
    | n + 2, hj => exact absurd hj (by omega)
theorem sc6 : C8.scC d6.N d6.ps (stScope d6.st) = true := by decide +kernel
theorem kb7 : KB0 d7 := fun kV doc pm an cdv ct j vs hj hv => by
  match vs, hv with
  | [v0], _ =>
    have hj : j ≤ 1 := hj
    match j, hj with
    | 0, _ => rfl
    | 1, _ => rfl
    | n + 2, hj => exact absurd hj (by omega)
theorem sc7 : C8.scC d7.N d7.ps (stScope d7.st) = true := by decide +kernel
theorem kb8 : KB0 d8 := fun kV doc pm an cdv ct j vs hj hv => by
  match vs, hv with
  | [v0], _ =>
    have hj : j ≤ 1 := hj
    match j, hj with
    | 0, _ => rfl
    | 1, _ => rfl
    | n + 2, hj => exact absurd hj (by omega)
theorem sc8 : C8.scC d8.N d8.ps (stScope d8.st) = true := by decide +kernel
theorem kb9 : KB0 d9 := fun kV doc pm an cdv ct j vs hj hv => by
  match vs, hv with
  | [v0], _ =>
    have hj : j ≤ 1 := hj
    match j, hj with
    | 0, _ => rfl
    | 1, _ => rfl
    | n + 2, hj => exact absurd hj (by omega)
theorem sc9 : C8.scC d9.N d9.ps (stScope d9.st) = true := by decide +kernel
theorem kb10 : KB0 d10 := fun kV doc pm an cdv ct j vs hj hv => by
  match vs, hv with
  | [v0], _ =>
    have hj : j ≤ 1 := hj
    match j, hj with
    | 0, _ => rfl
    | 1, _ => rfl
    | n + 2, hj => exact absurd hj (by omega)
theorem sc10 : C8.scC d10.N d10.ps (stScope d10.st) = true := by decide +kernel
theorem kb11 : KB0 d11 := fun kV doc pm an cdv ct j vs hj hv => by
  match vs, hv with
  | [v0], _ =>
    have hj : j ≤ 1 := hj
    match j, hj with
    | 0, _ => rfl
    | 1, _ => rfl
    | n + 2, hj => exact absurd hj (by omega)
theorem sc11 : C8.scC d11.N d11.ps (stScope d11.st) = true := by decide +kernel
theorem kb12 : KB0 d12 := fun kV doc pm an cdv ct j vs hj hv => by
  match vs, hv with
  | [v0, v1, v2], _ =>
    have hj : j ≤ 3 := hj
    match j, hj with
    | 0, _ => rfl
    | 1, _ => rfl
    | 2, _ => rfl
    | 3, _ => rfl
    | n + 4, hj => exact absurd hj (by omega)
theorem sc12 : C8.scC d12.N d12.ps (stScope d12.st) = true := by decide +kernel
theorem kb13 : KB0 d13 := fun kV doc pm an cdv ct j vs hj hv => by
  match vs, hv with
  | [v0], _ =>
    have hj : j ≤ 1 := hj
    match j, hj with
    | 0, _ => rfl
    | 1, _ => rfl
    | n + 2, hj => exact absurd hj (by omega)
theorem sc13 : C8.scC d13.N d13.ps (stScope d13.st) = true := by decide +kernel
theorem kb14 : KB0 d14 := fun kV doc pm an cdv ct j vs hj hv => by
  match vs, hv with
  | [v0], _ =>
    have hj : j ≤ 1 := hj
    match j, hj with
    | 0, _ => rfl
    | 1, _ => rfl
    | n + 2, hj => exact absurd hj (by omega)
theorem sc14 : C8.scC d14.N d14.ps (stScope d14.st) = true := by decide +kernel
theorem kb15 : KB0 d15 := fun kV doc pm an cdv ct j vs hj hv => by
  match vs, hv with
  | [v0], _ =>
    have hj : j ≤ 1 := hj
    match j, hj with
    | 0, _ => rfl
    | 1, _ => rfl
    | n + 2, hj => exact absurd hj (by omega)
theorem sc15 : C8.scC d15.N d15.ps (stScope d15.st) = true := by decide +kernel
theorem kb16 : KB0 d16 := fun kV doc pm an cdv ct j vs hj hv => by
  match vs, hv with
  | [v0], _ =>
    have hj : j ≤ 1 := hj
    match j, hj with
    | 0, _ => rfl
    | 1, _ => rfl
    | n + 2, hj => exact absurd hj (by omega)
theorem sc16 : C8.scC d16.N d16.ps (stScope d16.st) = true := by decide +kernel
theorem kb17 : KB0 d17 := fun kV doc pm an cdv ct j vs hj hv => by
  match vs, hv with
  | [v0], _ =>
    have hj : j ≤ 1 := hj
    match j, hj with
    | 0, _ => rfl
    | 1, _ => rfl
    | n + 2, hj => exact absurd hj (by omega)
theorem sc17 : C8.scC d17.N d17.ps (stScope d17.st) = true := by decide +kernel
theorem kb18 : KB0 d18 := fun kV doc pm an cdv ct j vs hj hv => by
  match vs, hv with
  | [v0], _ =>
    have hj : j ≤ 1 := hj
    match j, hj with
    | 0, _ => rfl
    | 1, _ => rfl
    | n + 2, hj => exact absurd hj (by omega)
theorem sc18 : C8.scC d18.N d18.ps (stScope d18.st) = true := by decide +kernel
theorem kb19 : KB0 d19 := fun kV doc pm an cdv ct j vs hj hv => by
  match vs, hv with
  | [v0], _ =>
    have hj : j ≤ 1 := hj
    match j, hj with
    | 0, _ => rfl
    | 1, _ => rfl
    | n + 2, hj => exact absurd hj (by omega)
theorem sc19 : C8.scC d19.N d19.ps (stScope d19.st) = true := by decide +kernel
theorem kb20 : KB0 d20 := fun kV doc pm an cdv ct j vs hj hv => by
  match vs, hv with
  | [v0], _ =>
    have hj : j ≤ 1 := hj
    match j, hj with
    | 0, _ => rfl
    | 1, _ => rfl
    | n + 2, hj => exact absurd hj (by omega)
theorem sc20 : C8.scC d20.N d20.ps (stScope d20.st) = true := by decide +kernel
theorem kb21 : KB0 d21 := fun kV doc pm an cdv ct j vs hj hv => by
  match vs, hv with
  | [v0], _ =>
    have hj : j ≤ 1 := hj
    match j, hj with
    | 0, _ => rfl
    | 1, _ => rfl
    | n + 2, hj => exact absurd hj (by omega)
theorem sc21 : C8.scC d21.N d21.ps (stScope d21.st) = true := by decide +kernel
theorem kb22 : KB0 d22 := fun kV doc pm an cdv ct j vs hj hv => by
  match vs, hv with
  | [v0, v1, v2], _ =>
    have hj : j ≤ 3 := hj
    match j, hj with
    | 0, _ => rfl
    | 1, _ => rfl
    | 2, _ => rfl
    | 3, _ => rfl
    | n + 4, hj => exact absurd hj (by omega)
theorem sc22 : C8.scC d22.N d22.ps (stScope d22.st) = true := by decide +kernel
theorem kb23 : KB0 d23 := fun kV doc pm an cdv ct j vs hj hv => by
  match vs, hv with
  | [v0], _ =>
    have hj : j ≤ 1 := hj
    match j, hj with
    | 0, _ => rfl
    | 1, _ => rfl
    | n + 2, hj => exact absurd hj (by omega)
theorem sc23 : C8.scC d23.N d23.ps (stScope d23.st) = true := by decide +kernel
theorem kb24 : KB0 d24 := fun kV doc pm an cdv ct j vs hj hv => by
  match vs, hv with
  | [v0], _ =>
    have hj : j ≤ 1 := hj
    match j, hj with
    | 0, _ => rfl
    | 1, _ => rfl
    | n + 2, hj => exact absurd hj (by omega)
theorem sc24 : C8.scC d24.N d24.ps (stScope d24.st) = true := by decide +kernel
theorem kb25 : KB0 d25 := fun kV doc pm an cdv ct j vs hj hv => by
  match vs, hv with
  | [v0], _ =>
    have hj : j ≤ 1 := hj
    match j, hj with
    | 0, _ => rfl
    | 1, _ => rfl
    | n + 2, hj => exact absurd hj (by omega)
theorem sc25 : C8.scC d25.N d25.ps (stScope d25.st) = true := by decide +kernel
theorem kb26 : KB0 d26 := fun kV doc pm an cdv ct j vs hj hv => by
  match vs, hv with
  | [v0], _ =>
    have hj : j ≤ 1 := hj
    match j, hj with
    | 0, _ => rfl
    | 1, _ => rfl
    | n + 2, hj => exact absurd hj (by omega)
theorem sc26 : C8.scC d26.N d26.ps (stScope d26.st) = true := by decide +kernel
theorem kb27 : KB0 d27 := fun kV doc pm an cdv ct j vs hj hv => by
  match vs, hv with
  | [v0, v1], _ =>
    have hj : j ≤ 2 := hj
    match j, hj with
    | 0, _ => rfl
    | 1, _ => rfl
    | 2, _ => rfl
    | n + 3, hj => exact absurd hj (by omega)
theorem sc27 : C8.scC d27.N d27.ps (stScope d27.st) = true := by decide +kernel
theorem kb28 : KB0 d28 := fun kV doc pm an cdv ct j vs hj hv => by
  match vs, hv with
  | [v0, v1], _ =>
    have hj : j ≤ 2 := hj
    match j, hj with
    | 0, _ => rfl
    | 1, _ => rfl
    | 2, _ => rfl
    | n + 3, hj => exact absurd hj (by omega)
theorem sc28 : C8.scC d28.N d28.ps (stScope d28.st) = true := by decide +kernel
theorem kb29 : KB0 d29 := fun kV doc pm an cdv ct j vs hj hv => by
  match vs, hv with
  | [v0], _ =>
    have hj : j ≤ 1 := hj
    match j, hj with
    | 0, _ => rfl
    | 1, _ => rfl
    | n + 2, hj => exact absurd hj (by omega)
theorem sc29 : C8.scC d29.N d29.ps (stScope d29.st) = true := by decide +kernel
theorem kb30 : KB0 d30 := fun kV doc pm an cdv ct j vs hj hv => by
  match vs, hv with
  | [v0, v1], _ =>
    have hj : j ≤ 2 := hj
    match j, hj with
    | 0, _ => rfl
    | 1, _ => rfl
    | 2, _ => rfl
    | n + 3, hj => exact absurd hj (by omega)
theorem sc30 : C8.scC d30.N d30.ps (stScope d30.st) = true := by decide +kernel
theorem kb31 : KB0 d31 := fun kV doc pm an cdv ct j vs hj hv => by
  match vs, hv with
  | [v0, v1, v2, v3], _ =>
    have hj : j ≤ 4 := hj
    match j, hj with
    | 0, _ => rfl
    | 1, _ => rfl
    | 2, _ => rfl
    | 3, _ => rfl
    | 4, _ => rfl
    | n + 5, hj => exact absurd hj (by omega)
theorem sc31 : C8.scC d31.N d31.ps (stScope d31.st) = true := by decide +kernel
theorem kb32 : KB0 d32 := fun kV doc pm an cdv ct j vs hj hv => by
  match vs, hv with
  | [v0], _ =>
    have hj : j ≤ 1 := hj
    match j, hj with
    | 0, _ => rfl
    | 1, _ => rfl
    | n + 2, hj => exact absurd hj (by omega)
theorem sc32 : C8.scC d32.N d32.ps (stScope d32.st) = true := by decide +kernel
theorem kb33 : KB0 d33 := fun kV doc pm an cdv ct j vs hj hv => by
  match vs, hv with
  | [v0], _ =>
    have hj : j ≤ 1 := hj
    match j, hj with
    | 0, _ => rfl
    | 1, _ => rfl
    | n + 2, hj => exact absurd hj (by omega)
theorem sc33 : C8.scC d33.N d33.ps (stScope d33.st) = true := by decide +kernel
theorem kb34 : KB0 d34 := fun kV doc pm an cdv ct j vs hj hv => by
  match vs, hv with
  | [v0], _ =>
    have hj : j ≤ 1 := hj
    match j, hj with
    | 0, _ => rfl
    | 1, _ => rfl
    | n + 2, hj => exact absurd hj (by omega)
theorem sc34 : C8.scC d34.N d34.ps (stScope d34.st) = true := by decide +kernel
theorem kb35 : KB0 d35 := fun kV doc pm an cdv ct j vs hj hv => by
  match vs, hv with
  | [v0, v1], _ =>
    have hj : j ≤ 2 := hj
    match j, hj with
    | 0, _ => rfl
    | 1, _ => rfl
    | 2, _ => rfl
    | n + 3, hj => exact absurd hj (by omega)
theorem sc35 : C8.scC d35.N d35.ps (stScope d35.st) = true := by decide +kernel
theorem kb36 : KB0 d36 := fun kV doc pm an cdv ct j vs hj hv => by
  match vs, hv with
  | [v0, v1, v2], _ =>
    have hj : j ≤ 3 := hj
    match j, hj with
    | 0, _ => rfl
    | 1, _ => rfl
    | 2, _ => rfl
    | 3, _ => rfl
    | n + 4, hj => exact absurd hj (by omega)
theorem sc36 : C8.scC d36.N d36.ps (stScope d36.st) = true := by decide +kernel
theorem kb37 : KB0 d37 := fun kV doc pm an cdv ct j vs hj hv => by
  match vs, hv with
  | [v0], _ =>
    have hj : j ≤ 1 := hj
    match j, hj with
    | 0, _ => rfl
    | 1, _ => rfl
    | n + 2, hj => exact absurd hj (by omega)
theorem sc37 : C8.scC d37.N d37.ps (stScope d37.st) = true := by decide +kernel
def ini : Stmt := (match top 1 with | .ClassDef (body := b) .. => (match b with | s :: _ => s | [] => .Pass ⟨0, 0, 0, 0⟩) | _ => .Pass ⟨0, 0, 0, 0⟩)
theorem mk {h : Heap} {K : PySem.W.Frag} {mg : Str → Option Value} {fa : Addr} (X : K.In h) (G : h.Ns mainGlobals mg) (hfa : mg "law" = some (.ref fa))
    {f0 f1 f2 f3 f4 f5 f6 f7 f8 f9 f10 f11 f12 f13 f14 f15 f16 f17 f18 f19 f20 f21 f22 f23 f24 f25 f26 f27 f28 f29 f30 f31 f32 f33 f34 f35 f36 f37 C0 C1 C2 C3 : Addr} {fI cda cc : Addr}
    {oc0 kV0 dc0 pm0 cd0 ct0 oc1 kV1 dc1 pm1 cd1 ct1 oc2 kV2 dc2 pm2 cd2 ct2 oc3 kV3 dc3 pm3 cd3 ct3 oc4 kV4 dc4 pm4 cd4 ct4 oc5 kV5 dc5 pm5 cd5 ct5 oc6 kV6 dc6 pm6 cd6 ct6 oc7 kV7 dc7 pm7 cd7 ct7 oc8 kV8 dc8 pm8 cd8 ct8 oc9 kV9 dc9 pm9 cd9 ct9 oc10 kV10 dc10 pm10 cd10 ct10 oc11 kV11 dc11 pm11 cd11 ct11 oc12 kV12 dc12 pm12 cd12 ct12 oc13 kV13 dc13 pm13 cd13 ct13 oc14 kV14 dc14 pm14 cd14 ct14 oc15 kV15 dc15 pm15 cd15 ct15 oc16 kV16 dc16 pm16 cd16 ct16 oc17 kV17 dc17 pm17 cd17 ct17 oc18 kV18 dc18 pm18 cd18 ct18 oc19 kV19 dc19 pm19 cd19 ct19 oc20 kV20 dc20 pm20 cd20 ct20 oc21 kV21 dc21 pm21 cd21 ct21 oc22 kV22 dc22 pm22 cd22 ct22 oc23 kV23 dc23 pm23 cd23 ct23 oc24 kV24 dc24 pm24 cd24 ct24 oc25 kV25 dc25 pm25 cd25 ct25 oc26 kV26 dc26 pm26 cd26 ct26 oc27 kV27 dc27 pm27 cd27 ct27 oc28 kV28 dc28 pm28 cd28 ct28 oc29 kV29 dc29 pm29 cd29 ct29 oc30 kV30 dc30 pm30 cd30 ct30 oc31 kV31 dc31 pm31 cd31 ct31 oc32 kV32 dc32 pm32 cd32 ct32 oc33 kV33 dc33 pm33 cd33 ct33 oc34 kV34 dc34 pm34 cd34 ct34 oc35 kV35 dc35 pm35 cd35 ct35 oc36 kV36 dc36 pm36 cd36 ct36 oc37 kV37 dc37 pm37 cd37 ct37 : Value}
    {od0 an0 od1 an1 od2 an2 od3 an3 od4 an4 od5 an5 od6 an6 od7 an7 od8 an8 od9 an9 od10 an10 od11 an11 od12 an12 od13 an13 od14 an14 od15 an15 od16 an16 od17 an17 od18 an18 od19 an19 od20 an20 od21 an21 od22 an22 od23 an23 od24 an24 od25 an25 od26 an26 od27 an27 od28 an28 od29 an29 od30 an30 od31 an31 od32 an32 od33 an33 od34 an34 od35 an35 od36 an36 od37 an37 : Option Addr} {sl0 sl1 sl2 sl3 sl4 sl5 sl6 sl7 sl8 sl9 sl10 sl11 sl12 sl13 sl14 sl15 sl16 sl17 sl18 sl19 sl20 sl21 sl22 sl23 sl24 sl25 sl26 sl27 sl28 sl29 sl30 sl31 sl32 sl33 sl34 sl35 sl36 sl37 : Array (Option Value)}
    {oc doc pm ct ccl cl : Value} {od an cdd cld : Option Addr} {osl ccs csl : Array (Option Value)} {vs : Array Value} {file : Str} {tf : Tok} {tk0 tk1 tk2 tk3 tk4 tk5 tk6_0 tk7 tk8 tk9 : Tok} {ta6 : Addr} {tb6 : Option Addr} {tn6 : Nat} {tc6 : Array (Option Value)}
    {nm0 q0 : Str} {N0 : Addr} {bs0 : List Value} {sn0 : List Str} {sub0 : List Value} {ab0 : Bool} {col0 : Option Bool} {dd0 : Option Addr} {m0a m0b m0c m0d m0e : Option Value}
    {nm1 q1 : Str} {N1 : Addr} {bs1 : List Value} {sn1 : List Str} {sub1 : List Value} {ab1 : Bool} {col1 : Option Bool} {dd1 : Option Addr} {m1a m1b m1c m1d m1e : Option Value}
    {nm2 q2 : Str} {N2 : Addr} {bs2 : List Value} {sn2 : List Str} {sub2 : List Value} {ab2 : Bool} {col2 : Option Bool} {dd2 : Option Addr} {m2a m2b m2c m2d m2e : Option Value}
    {nm3 q3 : Str} {N3 : Addr} {bs3 : List Value} {sn3 : List Str} {sub3 : List Value} {ab3 : Bool} {col3 : Option Bool} {dd3 : Option Addr} {m3a m3b m3c m3d m3e : Option Value}
    (a0 : PySem.W.nsIn K mainGlobals d0.x = some (some (.ref f0)))
    (l0 : K.lookup f0 = some ⟨oc0, od0, .func (PySem.W.fnOf "are_ascending" "are_ascending" (stArgs (top 6)) (stBody (top 6)) (stScope (top 6)) .none kV0 dc0 pm0 an0 cd0 ct0), sl0⟩)
    (c0 : PySem.W.codeIn K cd0 d0.x = true)
    (k0 : PySem.W.keepIn K (.ref f0) = true)
    (a1 : PySem.W.nsIn K mainGlobals d1.x = some (some (.ref f1)))
    (l1 : K.lookup f1 = some ⟨oc1, od1, .func (PySem.W.fnOf "anew" "anew" (stArgs (top 7)) (stBody (top 7)) (stScope (top 7)) .none kV1 dc1 pm1 an1 cd1 ct1), sl1⟩)
    (c1 : PySem.W.codeIn K cd1 d1.x = true)
    (k1 : PySem.W.keepIn K (.ref f1) = true)
    (a2 : PySem.W.nsIn K mainGlobals d2.x = some (some (.ref f2)))
    (l2 : K.lookup f2 = some ⟨oc2, od2, .func (PySem.W.fnOf "is_name_in" "is_name_in" (stArgs (top 18)) (stBody (top 18)) (stScope (top 18)) .none kV2 dc2 pm2 an2 cd2 ct2), sl2⟩)
    (c2 : PySem.W.codeIn K cd2 d2.x = true)
    (k2 : PySem.W.keepIn K (.ref f2) = true)
    (a3 : PySem.W.nsIn K mainGlobals d3.x = some (some (.ref f3)))
    (l3 : K.lookup f3 = some ⟨oc3, od3, .func (PySem.W.fnOf "inner" "inner" (stArgs (top 19)) (stBody (top 19)) (stScope (top 19)) .none kV3 dc3 pm3 an3 cd3 ct3), sl3⟩)
    (c3 : PySem.W.codeIn K cd3 d3.x = true)
    (k3 : PySem.W.keepIn K (.ref f3) = true)
    (a4 : PySem.W.nsIn K mainGlobals d4.x = some (some (.ref f4)))
    (l4 : K.lookup f4 = some ⟨oc4, od4, .func (PySem.W.fnOf "is_saying_in" "is_saying_in" (stArgs (top 20)) (stBody (top 20)) (stScope (top 20)) .none kV4 dc4 pm4 an4 cd4 ct4), sl4⟩)
    (c4 : PySem.W.codeIn K cd4 d4.x = true)
    (k4 : PySem.W.keepIn K (.ref f4) = true)
    (a5 : PySem.W.nsIn K mainGlobals d5.x = some (some (.ref f5)))
    (l5 : K.lookup f5 = some ⟨oc5, od5, .func (PySem.W.fnOf "all_in" "all_in" (stArgs (top 21)) (stBody (top 21)) (stScope (top 21)) .none kV5 dc5 pm5 an5 cd5 ct5), sl5⟩)
    (c5 : PySem.W.codeIn K cd5 d5.x = true)
    (k5 : PySem.W.keepIn K (.ref f5) = true)
    (a6 : PySem.W.nsIn K mainGlobals d6.x = some (some (.ref f6)))
    (l6 : K.lookup f6 = some ⟨oc6, od6, .func (PySem.W.fnOf "parts_in" "parts_in" (stArgs (top 22)) (stBody (top 22)) (stScope (top 22)) .none kV6 dc6 pm6 an6 cd6 ct6), sl6⟩)
    (c6 : PySem.W.codeIn K cd6 d6.x = true)
    (k6 : PySem.W.keepIn K (.ref f6) = true)
    (a7 : PySem.W.nsIn K mainGlobals d7.x = some (some (.ref f7)))
    (l7 : K.lookup f7 = some ⟨oc7, od7, .func (PySem.W.fnOf "are_parts_in" "are_parts_in" (stArgs (top 23)) (stBody (top 23)) (stScope (top 23)) .none kV7 dc7 pm7 an7 cd7 ct7), sl7⟩)
    (c7 : PySem.W.codeIn K cd7 d7.x = true)
    (k7 : PySem.W.keepIn K (.ref f7) = true)
    (a8 : PySem.W.nsIn K mainGlobals d8.x = some (some (.ref f8)))
    (l8 : K.lookup f8 = some ⟨oc8, od8, .func (PySem.W.fnOf "names_in" "names_in" (stArgs (top 24)) (stBody (top 24)) (stScope (top 24)) .none kV8 dc8 pm8 an8 cd8 ct8), sl8⟩)
    (c8 : PySem.W.codeIn K cd8 d8.x = true)
    (k8 : PySem.W.keepIn K (.ref f8) = true)
    (a9 : PySem.W.nsIn K mainGlobals d9.x = some (some (.ref f9)))
    (l9 : K.lookup f9 = some ⟨oc9, od9, .func (PySem.W.fnOf "choices_among" "choices_among" (stArgs (top 25)) (stBody (top 25)) (stScope (top 25)) .none kV9 dc9 pm9 an9 cd9 ct9), sl9⟩)
    (c9 : PySem.W.codeIn K cd9 d9.x = true)
    (k9 : PySem.W.keepIn K (.ref f9) = true)
    (a10 : PySem.W.nsIn K mainGlobals d10.x = some (some (.ref f10)))
    (l10 : K.lookup f10 = some ⟨oc10, od10, .func (PySem.W.fnOf "count_words" "count_words" (stArgs (top 26)) (stBody (top 26)) (stScope (top 26)) .none kV10 dc10 pm10 an10 cd10 ct10), sl10⟩)
    (c10 : PySem.W.codeIn K cd10 d10.x = true)
    (k10 : PySem.W.keepIn K (.ref f10) = true)
    (a11 : PySem.W.nsIn K mainGlobals d11.x = some (some (.ref f11)))
    (l11 : K.lookup f11 = some ⟨oc11, od11, .func (PySem.W.fnOf "depth_in" "depth_in" (stArgs (top 27)) (stBody (top 27)) (stScope (top 27)) .none kV11 dc11 pm11 an11 cd11 ct11), sl11⟩)
    (c11 : PySem.W.codeIn K cd11 d11.x = true)
    (k11 : PySem.W.keepIn K (.ref f11) = true)
    (a12 : PySem.W.nsIn K mainGlobals d12.x = some (some (.ref f12)))
    (l12 : K.lookup f12 = some ⟨oc12, od12, .func (PySem.W.fnOf "put_for" "put_for" (stArgs (top 28)) (stBody (top 28)) (stScope (top 28)) .none kV12 dc12 pm12 an12 cd12 ct12), sl12⟩)
    (c12 : PySem.W.codeIn K cd12 d12.x = true)
    (k12 : PySem.W.keepIn K (.ref f12) = true)
    (a13 : PySem.W.nsIn K mainGlobals d13.x = some (some (.ref f13)))
    (l13 : K.lookup f13 = some ⟨oc13, od13, .func (PySem.W.fnOf "need_name" "need_name" (stArgs (top 31)) (stBody (top 31)) (stScope (top 31)) .none kV13 dc13 pm13 an13 cd13 ct13), sl13⟩)
    (c13 : PySem.W.codeIn K cd13 d13.x = true)
    (k13 : PySem.W.keepIn K (.ref f13) = true)
    (a14 : PySem.W.nsIn K mainGlobals d14.x = some (some (.ref f14)))
    (l14 : K.lookup f14 = some ⟨oc14, od14, .func (PySem.W.fnOf "need_saying" "need_saying" (stArgs (top 32)) (stBody (top 32)) (stScope (top 32)) .none kV14 dc14 pm14 an14 cd14 ct14), sl14⟩)
    (c14 : PySem.W.codeIn K cd14 d14.x = true)
    (k14 : PySem.W.keepIn K (.ref f14) = true)
    (a15 : PySem.W.nsIn K mainGlobals d15.x = some (some (.ref f15)))
    (l15 : K.lookup f15 = some ⟨oc15, od15, .func (PySem.W.fnOf "need_sayings" "need_sayings" (stArgs (top 33)) (stBody (top 33)) (stScope (top 33)) .none kV15 dc15 pm15 an15 cd15 ct15), sl15⟩)
    (c15 : PySem.W.codeIn K cd15 d15.x = true)
    (k15 : PySem.W.keepIn K (.ref f15) = true)
    (a16 : PySem.W.nsIn K mainGlobals d16.x = some (some (.ref f16)))
    (l16 : K.lookup f16 = some ⟨oc16, od16, .func (PySem.W.fnOf "is_name" "is_name" (stArgs (top 34)) (stBody (top 34)) (stScope (top 34)) .none kV16 dc16 pm16 an16 cd16 ct16), sl16⟩)
    (c16 : PySem.W.codeIn K cd16 d16.x = true)
    (k16 : PySem.W.keepIn K (.ref f16) = true)
    (a17 : PySem.W.nsIn K mainGlobals d17.x = some (some (.ref f17)))
    (l17 : K.lookup f17 = some ⟨oc17, od17, .func (PySem.W.fnOf "is_saying" "is_saying" (stArgs (top 35)) (stBody (top 35)) (stScope (top 35)) .none kV17 dc17 pm17 an17 cd17 ct17), sl17⟩)
    (c17 : PySem.W.codeIn K cd17 d17.x = true)
    (k17 : PySem.W.keepIn K (.ref f17) = true)
    (a18 : PySem.W.nsIn K mainGlobals d18.x = some (some (.ref f18)))
    (l18 : K.lookup f18 = some ⟨oc18, od18, .func (PySem.W.fnOf "letters_of" "letters_of" (stArgs (top 36)) (stBody (top 36)) (stScope (top 36)) .none kV18 dc18 pm18 an18 cd18 ct18), sl18⟩)
    (c18 : PySem.W.codeIn K cd18 d18.x = true)
    (k18 : PySem.W.keepIn K (.ref f18) = true)
    (a19 : PySem.W.nsIn K mainGlobals d19.x = some (some (.ref f19)))
    (l19 : K.lookup f19 = some ⟨oc19, od19, .func (PySem.W.fnOf "words_in" "words_in" (stArgs (top 37)) (stBody (top 37)) (stScope (top 37)) .none kV19 dc19 pm19 an19 cd19 ct19), sl19⟩)
    (c19 : PySem.W.codeIn K cd19 d19.x = true)
    (k19 : PySem.W.keepIn K (.ref f19) = true)
    (a20 : PySem.W.nsIn K mainGlobals d20.x = some (some (.ref f20)))
    (l20 : K.lookup f20 = some ⟨oc20, od20, .func (PySem.W.fnOf "depth" "depth" (stArgs (top 38)) (stBody (top 38)) (stScope (top 38)) .none kV20 dc20 pm20 an20 cd20 ct20), sl20⟩)
    (c20 : PySem.W.codeIn K cd20 d20.x = true)
    (k20 : PySem.W.keepIn K (.ref f20) = true)
    (a21 : PySem.W.nsIn K mainGlobals d21.x = some (some (.ref f21)))
    (l21 : K.lookup f21 = some ⟨oc21, od21, .func (PySem.W.fnOf "denied" "denied" (stArgs (top 39)) (stBody (top 39)) (stScope (top 39)) .none kV21 dc21 pm21 an21 cd21 ct21), sl21⟩)
    (c21 : PySem.W.codeIn K cd21 d21.x = true)
    (k21 : PySem.W.keepIn K (.ref f21) = true)
    (a22 : PySem.W.nsIn K mainGlobals d22.x = some (some (.ref f22)))
    (l22 : K.lookup f22 = some ⟨oc22, od22, .func (PySem.W.fnOf "put" "put" (stArgs (top 40)) (stBody (top 40)) (stScope (top 40)) .none kV22 dc22 pm22 an22 cd22 ct22), sl22⟩)
    (c22 : PySem.W.codeIn K cd22 d22.x = true)
    (k22 : PySem.W.keepIn K (.ref f22) = true)
    (a23 : PySem.W.nsIn K mainGlobals d23.x = some (some (.ref f23)))
    (l23 : K.lookup f23 = some ⟨oc23, od23, .func (PySem.W.fnOf "parts_of" "parts_of" (stArgs (top 41)) (stBody (top 41)) (stScope (top 41)) .none kV23 dc23 pm23 an23 cd23 ct23), sl23⟩)
    (c23 : PySem.W.codeIn K cd23 d23.x = true)
    (k23 : PySem.W.keepIn K (.ref f23) = true)
    (a24 : PySem.W.nsIn K mainGlobals d24.x = some (some (.ref f24)))
    (l24 : K.lookup f24 = some ⟨oc24, od24, .func (PySem.W.fnOf "is_parts" "is_parts" (stArgs (top 42)) (stBody (top 42)) (stScope (top 42)) .none kV24 dc24 pm24 an24 cd24 ct24), sl24⟩)
    (c24 : PySem.W.codeIn K cd24 d24.x = true)
    (k24 : PySem.W.keepIn K (.ref f24) = true)
    (a25 : PySem.W.nsIn K mainGlobals d25.x = some (some (.ref f25)))
    (l25 : K.lookup f25 = some ⟨oc25, od25, .func (PySem.W.fnOf "choices_in" "choices_in" (stArgs (top 43)) (stBody (top 43)) (stScope (top 43)) .none kV25 dc25 pm25 an25 cd25 ct25), sl25⟩)
    (c25 : PySem.W.codeIn K cd25 d25.x = true)
    (k25 : PySem.W.keepIn K (.ref f25) = true)
    (a26 : PySem.W.nsIn K mainGlobals d26.x = some (some (.ref f26)))
    (l26 : K.lookup f26 = some ⟨oc26, od26, .func (PySem.W.fnOf "_law_box" "_law_box" (stArgs (top 45)) (stBody (top 45)) (stScope (top 45)) .none kV26 dc26 pm26 an26 cd26 ct26), sl26⟩)
    (c26 : PySem.W.codeIn K cd26 d26.x = true)
    (k26 : PySem.W.keepIn K (.ref f26) = true)
    (a27 : PySem.W.nsIn K mainGlobals d27.x = some (some (.ref f27)))
    (l27 : K.lookup f27 = some ⟨oc27, od27, .func (PySem.W.fnOf "_law_draw" "_law_draw" (stArgs (top 46)) (stBody (top 46)) (stScope (top 46)) .none kV27 dc27 pm27 an27 cd27 ct27), sl27⟩)
    (c27 : PySem.W.codeIn K cd27 d27.x = true)
    (k27 : PySem.W.keepIn K (.ref f27) = true)
    (a28 : PySem.W.nsIn K mainGlobals d28.x = some (some (.ref f28)))
    (l28 : K.lookup f28 = some ⟨oc28, od28, .func (PySem.W.fnOf "_law_says" "_law_says" (stArgs (top 47)) (stBody (top 47)) (stScope (top 47)) .none kV28 dc28 pm28 an28 cd28 ct28), sl28⟩)
    (c28 : PySem.W.codeIn K cd28 d28.x = true)
    (k28 : PySem.W.keepIn K (.ref f28) = true)
    (a29 : PySem.W.nsIn K mainGlobals d29.x = some (some (.ref f29)))
    (l29 : K.lookup f29 = some ⟨oc29, od29, .func (PySem.W.fnOf "_law_not" "_law_not" (stArgs (top 48)) (stBody (top 48)) (stScope (top 48)) .none kV29 dc29 pm29 an29 cd29 ct29), sl29⟩)
    (c29 : PySem.W.codeIn K cd29 d29.x = true)
    (k29 : PySem.W.keepIn K (.ref f29) = true)
    (a30 : PySem.W.nsIn K mainGlobals d30.x = some (some (.ref f30)))
    (l30 : K.lookup f30 = some ⟨oc30, od30, .func (PySem.W.fnOf "_law_leaf" "_law_leaf" (stArgs (top 49)) (stBody (top 49)) (stScope (top 49)) .none kV30 dc30 pm30 an30 cd30 ct30), sl30⟩)
    (c30 : PySem.W.codeIn K cd30 d30.x = true)
    (k30 : PySem.W.keepIn K (.ref f30) = true)
    (a31 : PySem.W.nsIn K mainGlobals d31.x = some (some (.ref f31)))
    (l31 : K.lookup f31 = some ⟨oc31, od31, .func (PySem.W.fnOf "_law_saying" "_law_saying" (stArgs (top 50)) (stBody (top 50)) (stScope (top 50)) .none kV31 dc31 pm31 an31 cd31 ct31), sl31⟩)
    (c31 : PySem.W.codeIn K cd31 d31.x = true)
    (k31 : PySem.W.keepIn K (.ref f31) = true)
    (a32 : PySem.W.nsIn K mainGlobals d32.x = some (some (.ref f32)))
    (l32 : K.lookup f32 = some ⟨oc32, od32, .func (PySem.W.fnOf "_law_is_name" "_law_is_name" (stArgs (top 51)) (stBody (top 51)) (stScope (top 51)) .none kV32 dc32 pm32 an32 cd32 ct32), sl32⟩)
    (c32 : PySem.W.codeIn K cd32 d32.x = true)
    (k32 : PySem.W.keepIn K (.ref f32) = true)
    (a33 : PySem.W.nsIn K mainGlobals d33.x = some (some (.ref f33)))
    (l33 : K.lookup f33 = some ⟨oc33, od33, .func (PySem.W.fnOf "_law_is_saying" "_law_is_saying" (stArgs (top 52)) (stBody (top 52)) (stScope (top 52)) .none kV33 dc33 pm33 an33 cd33 ct33), sl33⟩)
    (c33 : PySem.W.codeIn K cd33 d33.x = true)
    (k33 : PySem.W.keepIn K (.ref f33) = true)
    (a34 : PySem.W.nsIn K mainGlobals d34.x = some (some (.ref f34)))
    (l34 : K.lookup f34 = some ⟨oc34, od34, .func (PySem.W.fnOf "_law_word" "_law_word" (stArgs (top 53)) (stBody (top 53)) (stScope (top 53)) .none kV34 dc34 pm34 an34 cd34 ct34), sl34⟩)
    (c34 : PySem.W.codeIn K cd34 d34.x = true)
    (k34 : PySem.W.keepIn K (.ref f34) = true)
    (a35 : PySem.W.nsIn K mainGlobals d35.x = some (some (.ref f35)))
    (l35 : K.lookup f35 = some ⟨oc35, od35, .func (PySem.W.fnOf "_law_spoilt" "_law_spoilt" (stArgs (top 54)) (stBody (top 54)) (stScope (top 54)) .none kV35 dc35 pm35 an35 cd35 ct35), sl35⟩)
    (c35 : PySem.W.codeIn K cd35 d35.x = true)
    (k35 : PySem.W.keepIn K (.ref f35) = true)
    (a36 : PySem.W.nsIn K mainGlobals d36.x = some (some (.ref f36)))
    (l36 : K.lookup f36 = some ⟨oc36, od36, .func (PySem.W.fnOf "_law_ask" "_law_ask" (stArgs (top 55)) (stBody (top 55)) (stScope (top 55)) .none kV36 dc36 pm36 an36 cd36 ct36), sl36⟩)
    (c36 : PySem.W.codeIn K cd36 d36.x = true)
    (k36 : PySem.W.keepIn K (.ref f36) = true)
    (a37 : PySem.W.nsIn K mainGlobals d37.x = some (some (.ref f37)))
    (l37 : K.lookup f37 = some ⟨oc37, od37, .func (PySem.W.fnOf "law" "law" (stArgs (top 56)) (stBody (top 56)) (stScope (top 56)) .none kV37 dc37 pm37 an37 cd37 ct37), sl37⟩)
    (c37 : PySem.W.codeIn K cd37 d37.x = true)
    (k37 : PySem.W.keepIn K (.ref f37) = true)
    (z0 : PySem.W.nsIn K mainGlobals "LETTER" = some (some (.str "letter" tk0)))
    (z1 : PySem.W.nsIn K mainGlobals "TRUE" = some (some (.str "true" tk1)))
    (z2 : PySem.W.nsIn K mainGlobals "FALSE" = some (some (.str "false" tk2)))
    (z3 : PySem.W.nsIn K mainGlobals "AND" = some (some (.str "and" tk3)))
    (z4 : PySem.W.nsIn K mainGlobals "OR" = some (some (.str "or" tk4)))
    (z5 : PySem.W.nsIn K mainGlobals "IF" = some (some (.str "if" tk5)))
    (z6 : PySem.W.nsIn K mainGlobals "NO" = some (some (.ref ta6)))
    (zt6 : K.lookup ta6 = some ⟨.type "tuple", tb6, .seq #[.str "false" tk6_0] tn6, tc6⟩)
    (z7 : PySem.W.nsIn K mainGlobals "SIGNS" = some (some (.str "abcdefghijklmnopqrstuvwxyz" tk7)))
    (z8 : PySem.W.nsIn K mainGlobals "DIGITS" = some (some (.str "0123456789" tk8)))
    (z9 : PySem.W.nsIn K mainGlobals "MOST_SAYINGS" = some (some (.int 12 tk9)))
    (b0 : PySem.W.nsIn K mainGlobals "len" = some none)
    (b1 : PySem.W.nsIn K mainGlobals "int" = some none)
    (b2 : PySem.W.nsIn K mainGlobals "list" = some none)
    (b3 : PySem.W.nsIn K mainGlobals "tuple" = some none)
    (b4 : PySem.W.nsIn K mainGlobals "all" = some none)
    (b5 : PySem.W.nsIn K mainGlobals "any" = some none)
    (b6 : PySem.W.nsIn K mainGlobals "sum" = some none)
    (b7 : PySem.W.nsIn K mainGlobals "max" = some none)
    (b8 : PySem.W.nsIn K mainGlobals "min" = some none)
    (b9 : PySem.W.nsIn K mainGlobals "sorted" = some none)
    (b10 : PySem.W.nsIn K mainGlobals "isinstance" = some none)
    (b11 : PySem.W.nsIn K mainGlobals "bool" = some none)
    (b12 : PySem.W.nsIn K mainGlobals "range" = some none)
    (b13 : PySem.W.nsIn K mainGlobals "enumerate" = some none)
    (b14 : PySem.W.nsIn K mainGlobals "zip" = some none)
    (b15 : PySem.W.nsIn K mainGlobals "repr" = some none)
    (b16 : PySem.W.nsIn K mainGlobals "str" = some none)
    (b17 : PySem.W.nsIn K mainGlobals "set" = some none)
    (b18 : PySem.W.nsIn K mainGlobals "dict" = some none)
    (bs : PySem.W.nsIn K mainGlobals "super" = some none)
    (op : PySem.W.nsIn K cStatics "thirdparty.any" = some none)
    (g0 : PySem.W.nsIn K mainGlobals "LetterError" = some (some (.ref C0)))
    (g1 : PySem.W.nsIn K mainGlobals "InvalidName" = some (some (.ref C1)))
    (g2 : PySem.W.nsIn K mainGlobals "InvalidSaying" = some (some (.ref C2)))
    (g3 : PySem.W.nsIn K mainGlobals "InvalidSayings" = some (some (.ref C3)))
    (x0 : K.lookup C0 = some (excClassObj nm0 q0 C0 N0 bs0 [.type "ValueError", .type "Exception", .type "BaseException", .type "object"] true sn0 sub0 ab0 col0 dd0 m0a m0b m0c m0d m0e "ValueError.__new__"))
    (sa0 : PySem.W.findIn K (.ref C0) "__setattr__" = some (some (.builtin "object.__setattr__")))
    (ga0 : PySem.W.findIn K (.ref C0) "__getattribute__" = some (some (.builtin "BaseException.__getattribute__")))
    (gg0 : PySem.W.findIn K (.ref C0) "__getattr__" = some none)
    (nv0 : PySem.W.findIn K (.ref C0) "value" = some none)
    (in0 : PySem.W.findIn K (.ref C0) "__init__" = some (some (.ref fI)))
    (kc0 : PySem.W.keepIn K (.ref C0) = true)
    (eb0 : PySem.W.subIn K (.ref C0) (.type "BaseException") = some true)
    (ev0 : PySem.W.subIn K (.ref C0) (.type "ValueError") = some true)
    (ty0 : PySem.W.typeIn K (.ref C0) = some (.type "type"))
    (hd0 : PySem.W.hasDictIn K C0 = true)
    (mo0 : PySem.W.mroIn K C0 (.type "object") = some true)
    (mr0 : PySem.W.mroIn K C0 (.ref C0) = some true)
    (ca0 : PySem.W.findIn K (.ref C0) "__class__" = some (some (.builtin "object.__class__")))
    (s0_0 : PySem.W.subIn K (.ref C0) (.ref C0) = some true)
    (s0_1 : PySem.W.subIn K (.ref C0) (.ref C1) = some false)
    (s0_2 : PySem.W.subIn K (.ref C0) (.ref C2) = some false)
    (s0_3 : PySem.W.subIn K (.ref C0) (.ref C3) = some false)
    (x1 : K.lookup C1 = some (excClassObj nm1 q1 C1 N1 bs1 [.ref C0, .type "ValueError", .type "Exception", .type "BaseException", .type "object"] true sn1 sub1 ab1 col1 dd1 m1a m1b m1c m1d m1e "ValueError.__new__"))
    (sa1 : PySem.W.findIn K (.ref C1) "__setattr__" = some (some (.builtin "object.__setattr__")))
    (ga1 : PySem.W.findIn K (.ref C1) "__getattribute__" = some (some (.builtin "BaseException.__getattribute__")))
    (gg1 : PySem.W.findIn K (.ref C1) "__getattr__" = some none)
    (nv1 : PySem.W.findIn K (.ref C1) "value" = some none)
    (in1 : PySem.W.findIn K (.ref C1) "__init__" = some (some (.ref fI)))
    (kc1 : PySem.W.keepIn K (.ref C1) = true)
    (eb1 : PySem.W.subIn K (.ref C1) (.type "BaseException") = some true)
    (ev1 : PySem.W.subIn K (.ref C1) (.type "ValueError") = some true)
    (ty1 : PySem.W.typeIn K (.ref C1) = some (.type "type"))
    (hd1 : PySem.W.hasDictIn K C1 = true)
    (mo1 : PySem.W.mroIn K C1 (.type "object") = some true)
    (mr1 : PySem.W.mroIn K C1 (.ref C0) = some true)
    (ca1 : PySem.W.findIn K (.ref C1) "__class__" = some (some (.builtin "object.__class__")))
    (s1_0 : PySem.W.subIn K (.ref C1) (.ref C0) = some true)
    (s1_1 : PySem.W.subIn K (.ref C1) (.ref C1) = some true)
    (s1_2 : PySem.W.subIn K (.ref C1) (.ref C2) = some false)
    (s1_3 : PySem.W.subIn K (.ref C1) (.ref C3) = some false)
    (x2 : K.lookup C2 = some (excClassObj nm2 q2 C2 N2 bs2 [.ref C0, .type "ValueError", .type "Exception", .type "BaseException", .type "object"] true sn2 sub2 ab2 col2 dd2 m2a m2b m2c m2d m2e "ValueError.__new__"))
    (sa2 : PySem.W.findIn K (.ref C2) "__setattr__" = some (some (.builtin "object.__setattr__")))
    (ga2 : PySem.W.findIn K (.ref C2) "__getattribute__" = some (some (.builtin "BaseException.__getattribute__")))
    (gg2 : PySem.W.findIn K (.ref C2) "__getattr__" = some none)
    (nv2 : PySem.W.findIn K (.ref C2) "value" = some none)
    (in2 : PySem.W.findIn K (.ref C2) "__init__" = some (some (.ref fI)))
    (kc2 : PySem.W.keepIn K (.ref C2) = true)
    (eb2 : PySem.W.subIn K (.ref C2) (.type "BaseException") = some true)
    (ev2 : PySem.W.subIn K (.ref C2) (.type "ValueError") = some true)
    (ty2 : PySem.W.typeIn K (.ref C2) = some (.type "type"))
    (hd2 : PySem.W.hasDictIn K C2 = true)
    (mo2 : PySem.W.mroIn K C2 (.type "object") = some true)
    (mr2 : PySem.W.mroIn K C2 (.ref C0) = some true)
    (ca2 : PySem.W.findIn K (.ref C2) "__class__" = some (some (.builtin "object.__class__")))
    (s2_0 : PySem.W.subIn K (.ref C2) (.ref C0) = some true)
    (s2_1 : PySem.W.subIn K (.ref C2) (.ref C1) = some false)
    (s2_2 : PySem.W.subIn K (.ref C2) (.ref C2) = some true)
    (s2_3 : PySem.W.subIn K (.ref C2) (.ref C3) = some false)
    (x3 : K.lookup C3 = some (excClassObj nm3 q3 C3 N3 bs3 [.ref C0, .type "ValueError", .type "Exception", .type "BaseException", .type "object"] true sn3 sub3 ab3 col3 dd3 m3a m3b m3c m3d m3e "ValueError.__new__"))
    (sa3 : PySem.W.findIn K (.ref C3) "__setattr__" = some (some (.builtin "object.__setattr__")))
    (ga3 : PySem.W.findIn K (.ref C3) "__getattribute__" = some (some (.builtin "BaseException.__getattribute__")))
    (gg3 : PySem.W.findIn K (.ref C3) "__getattr__" = some none)
    (nv3 : PySem.W.findIn K (.ref C3) "value" = some none)
    (in3 : PySem.W.findIn K (.ref C3) "__init__" = some (some (.ref fI)))
    (kc3 : PySem.W.keepIn K (.ref C3) = true)
    (eb3 : PySem.W.subIn K (.ref C3) (.type "BaseException") = some true)
    (ev3 : PySem.W.subIn K (.ref C3) (.type "ValueError") = some true)
    (ty3 : PySem.W.typeIn K (.ref C3) = some (.type "type"))
    (hd3 : PySem.W.hasDictIn K C3 = true)
    (mo3 : PySem.W.mroIn K C3 (.type "object") = some true)
    (mr3 : PySem.W.mroIn K C3 (.ref C0) = some true)
    (ca3 : PySem.W.findIn K (.ref C3) "__class__" = some (some (.builtin "object.__class__")))
    (s3_0 : PySem.W.subIn K (.ref C3) (.ref C0) = some true)
    (s3_1 : PySem.W.subIn K (.ref C3) (.ref C1) = some false)
    (s3_2 : PySem.W.subIn K (.ref C3) (.ref C2) = some false)
    (s3_3 : PySem.W.subIn K (.ref C3) (.ref C3) = some true)
    (tI : PySem.W.typeIn K (.ref fI) = some (.type "function"))
    (sg : PySem.W.specialIn K (.builtin "object.__class__") "__get__" = some (some (.builtin "getset_descriptor.__get__")))
    (tk : PySem.W.takesIn K (.builtin "object.__class__") = some true)
    (lI : K.lookup fI = some ⟨oc, od, .func (PySem.W.ksFn "__init__" "LetterError.__init__" (stArgs ini) (stBody ini) (stScope ini) .none .none doc pm an (.ref cda) ct cc), osl⟩)
    (cI : PySem.W.codeIn K (.ref cda) "LetterError.__init__" = true)
    (lc : K.lookup cda = some ⟨ccl, cdd, .fields vs, ccs⟩)
    (lv : vs[2]? = some (.str file tf))
    (lf : ((prg.main.file : Str) == file) = true)
    (lx : K.lookup cc = some ⟨cl, cld, .cell (some (.ref C0)), csl⟩)
    : ∃ ca fat fdt, Ground' prg K mg g ca ds fat fdt ∧ fat 37 = fa := by
  have e := hfa.symm.trans (PySem.W.mg_of X G a37)
  cases e
  have T : PySem.LeX.LeTxt prg K C0 fI := ⟨⟨_, _, _, _, _, cda, cc, _, _, ⟨4, 17, 4, 21⟩, ⟨4, 23, 4, 28⟩, ⟨5, 8, 5, 13⟩, ⟨5, 8, 5, 15⟩, ⟨5, 8, 5, 24⟩, ⟨5, 25, 5, 38⟩, ⟨5, 8, 5, 39⟩, ⟨5, 8, 5, 39⟩, ⟨6, 8, 6, 12⟩, ⟨6, 8, 6, 18⟩, ⟨6, 21, 6, 26⟩, ⟨6, 8, 6, 26⟩, 0, stScope ini, lI, cI, by decide +kernel, by decide +kernel, by decide +kernel, by decide +kernel, by decide +kernel, by decide +kernel, by decide +kernel, by decide +kernel, by decide +kernel, ⟨_, _, vs, _, file, tf, lc, lv, lf⟩, _, _, _, lx⟩, by unfold PySem.W.clsIn; rw [x0]; rfl, by decide +kernel, op⟩
  have si0 : PySem.W.ks_superIn K C0 C0 "__init__" = some (some (.builtin "ValueError.__init__")) := super_of (pre := []) (by unfold PySem.W.clsIn; rw [x0]) rfl (by simp [])
  have E0 : ClsF K mg C0 fI "LetterError" C0 := ⟨⟨⟨_, _, _, _, _, _, _, _, _, _, _, _, _, _, _, x0, by first | rfl | decide +kernel⟩, sa0, ga0, gg0, nv0, in0, tI, kc0, eb0, ev0, ty0, hd0, mr0, si0⟩, ⟨ga0, gg0, eb0, hd0, ca0, sg, tk, mo0⟩, PySem.W.mg_of X G g0⟩
  have si1 : PySem.W.ks_superIn K C1 C0 "__init__" = some (some (.builtin "ValueError.__init__")) := super_of (pre := [C1]) (by unfold PySem.W.clsIn; rw [x1]) rfl (by simp [ne_of_sub s0_1 s0_0])
  have E1 : ClsF K mg C0 fI "InvalidName" C1 := ⟨⟨⟨_, _, _, _, _, _, _, _, _, _, _, _, _, _, _, x1, by first | rfl | decide +kernel⟩, sa1, ga1, gg1, nv1, in1, tI, kc1, eb1, ev1, ty1, hd1, mr1, si1⟩, ⟨ga1, gg1, eb1, hd1, ca1, sg, tk, mo1⟩, PySem.W.mg_of X G g1⟩
  have si2 : PySem.W.ks_superIn K C2 C0 "__init__" = some (some (.builtin "ValueError.__init__")) := super_of (pre := [C2]) (by unfold PySem.W.clsIn; rw [x2]) rfl (by simp [ne_of_sub s0_2 s0_0])
  have E2 : ClsF K mg C0 fI "InvalidSaying" C2 := ⟨⟨⟨_, _, _, _, _, _, _, _, _, _, _, _, _, _, _, x2, by first | rfl | decide +kernel⟩, sa2, ga2, gg2, nv2, in2, tI, kc2, eb2, ev2, ty2, hd2, mr2, si2⟩, ⟨ga2, gg2, eb2, hd2, ca2, sg, tk, mo2⟩, PySem.W.mg_of X G g2⟩
  have si3 : PySem.W.ks_superIn K C3 C0 "__init__" = some (some (.builtin "ValueError.__init__")) := super_of (pre := [C3]) (by unfold PySem.W.clsIn; rw [x3]) rfl (by simp [ne_of_sub s0_3 s0_0])
  have E3 : ClsF K mg C0 fI "InvalidSayings" C3 := ⟨⟨⟨_, _, _, _, _, _, _, _, _, _, _, _, _, _, _, x3, by first | rfl | decide +kernel⟩, sa3, ga3, gg3, nv3, in3, tI, kc3, eb3, ev3, ty3, hd3, mr3, si3⟩, ⟨ga3, gg3, eb3, hd3, ca3, sg, tk, mo3⟩, PySem.W.mg_of X G g3⟩
  have F0 := funL_mk (d := d0) X G a0 l0 c0 k0 sc0 kb0
  have F1 := funL_mk (d := d1) X G a1 l1 c1 k1 sc1 kb1
  have F2 := funL_mk (d := d2) X G a2 l2 c2 k2 sc2 kb2
  have F3 := funL_mk (d := d3) X G a3 l3 c3 k3 sc3 kb3
  have F4 := funL_mk (d := d4) X G a4 l4 c4 k4 sc4 kb4
  have F5 := funL_mk (d := d5) X G a5 l5 c5 k5 sc5 kb5
  have F6 := funL_mk (d := d6) X G a6 l6 c6 k6 sc6 kb6
  have F7 := funL_mk (d := d7) X G a7 l7 c7 k7 sc7 kb7
  have F8 := funL_mk (d := d8) X G a8 l8 c8 k8 sc8 kb8
  have F9 := funL_mk (d := d9) X G a9 l9 c9 k9 sc9 kb9
  have F10 := funL_mk (d := d10) X G a10 l10 c10 k10 sc10 kb10
  have F11 := funL_mk (d := d11) X G a11 l11 c11 k11 sc11 kb11
  have F12 := funL_mk (d := d12) X G a12 l12 c12 k12 sc12 kb12
  have F13 := funL_mk (d := d13) X G a13 l13 c13 k13 sc13 kb13
  have F14 := funL_mk (d := d14) X G a14 l14 c14 k14 sc14 kb14
  have F15 := funL_mk (d := d15) X G a15 l15 c15 k15 sc15 kb15
  have F16 := funL_mk (d := d16) X G a16 l16 c16 k16 sc16 kb16
  have F17 := funL_mk (d := d17) X G a17 l17 c17 k17 sc17 kb17
  have F18 := funL_mk (d := d18) X G a18 l18 c18 k18 sc18 kb18
  have F19 := funL_mk (d := d19) X G a19 l19 c19 k19 sc19 kb19
  have F20 := funL_mk (d := d20) X G a20 l20 c20 k20 sc20 kb20
  have F21 := funL_mk (d := d21) X G a21 l21 c21 k21 sc21 kb21
  have F22 := funL_mk (d := d22) X G a22 l22 c22 k22 sc22 kb22
  have F23 := funL_mk (d := d23) X G a23 l23 c23 k23 sc23 kb23
  have F24 := funL_mk (d := d24) X G a24 l24 c24 k24 sc24 kb24
  have F25 := funL_mk (d := d25) X G a25 l25 c25 k25 sc25 kb25
  have F26 := funL_mk (d := d26) X G a26 l26 c26 k26 sc26 kb26
  have F27 := funL_mk (d := d27) X G a27 l27 c27 k27 sc27 kb27
  have F28 := funL_mk (d := d28) X G a28 l28 c28 k28 sc28 kb28
  have F29 := funL_mk (d := d29) X G a29 l29 c29 k29 sc29 kb29
  have F30 := funL_mk (d := d30) X G a30 l30 c30 k30 sc30 kb30
  have F31 := funL_mk (d := d31) X G a31 l31 c31 k31 sc31 kb31
  have F32 := funL_mk (d := d32) X G a32 l32 c32 k32 sc32 kb32
  have F33 := funL_mk (d := d33) X G a33 l33 c33 k33 sc33 kb33
  have F34 := funL_mk (d := d34) X G a34 l34 c34 k34 sc34 kb34
  have F35 := funL_mk (d := d35) X G a35 l35 c35 k35 sc35 kb35
  have F36 := funL_mk (d := d36) X G a36 l36 c36 k36 sc36 kb36
  have F37 := funL_mk (d := d37) X G a37 l37 c37 k37 sc37 kb37
  have hF : FunsL K mg ds _ _ := .cons F0 (.cons F1 (.cons F2 (.cons F3 (.cons F4 (.cons F5 (.cons F6 (.cons F7 (.cons F8 (.cons F9 (.cons F10 (.cons F11 (.cons F12 (.cons F13 (.cons F14 (.cons F15 (.cons F16 (.cons F17 (.cons F18 (.cons F19 (.cons F20 (.cons F21 (.cons F22 (.cons F23 (.cons F24 (.cons F25 (.cons F26 (.cons F27 (.cons F28 (.cons F29 (.cons F30 (.cons F31 (.cons F32 (.cons F33 (.cons F34 (.cons F35 (.cons F36 (.cons F37 (.nil))))))))))))))))))))))))))))))))))))))
  have hC : ConL K mg con := .str (PySem.W.mg_of X G z0) (.str (PySem.W.mg_of X G z1) (.str (PySem.W.mg_of X G z2) (.str (PySem.W.mg_of X G z3) (.str (PySem.W.mg_of X G z4) (.str (PySem.W.mg_of X G z5) (.tup [("false", tk6_0)] (PySem.W.mg_of X G z6) zt6 (by simp) (.str (PySem.W.mg_of X G z7) (.str (PySem.W.mg_of X G z8) (.int (PySem.W.mg_of X G z9) (.nil))))))))))
  have hB : NonL mg bltNames := .cons (PySem.W.mg_none_of X G b0) (.cons (PySem.W.mg_none_of X G b1) (.cons (PySem.W.mg_none_of X G b2) (.cons (PySem.W.mg_none_of X G b3) (.cons (PySem.W.mg_none_of X G b4) (.cons (PySem.W.mg_none_of X G b5) (.cons (PySem.W.mg_none_of X G b6) (.cons (PySem.W.mg_none_of X G b7) (.cons (PySem.W.mg_none_of X G b8) (.cons (PySem.W.mg_none_of X G b9) (.cons (PySem.W.mg_none_of X G b10) (.cons (PySem.W.mg_none_of X G b11) (.cons (PySem.W.mg_none_of X G b12) (.cons (PySem.W.mg_none_of X G b13) (.cons (PySem.W.mg_none_of X G b14) (.cons (PySem.W.mg_none_of X G b15) (.cons (PySem.W.mg_none_of X G b16) (.cons (PySem.W.mg_none_of X G b17) (.cons (PySem.W.mg_none_of X G b18) (.nil)))))))))))))))))))
  have hL : ClsL K mg C0 fI ["LetterError", "InvalidName", "InvalidSaying", "InvalidSayings"] _ := .cons E0 (.cons E1 (.cons E2 (.cons E3 (.nil))))
  refine ⟨_, _, _, ground_mk (g := g) (cs := [C0, C1, C2, C3]) (fs := [f0, f1, f2, f3, f4, f5, f6, f7, f8, f9, f10, f11, f12, f13, f14, f15, f16, f17, f18, f19, f20, f21, f22, f23, f24, f25, f26, f27, f28, f29, f30, f31, f32, f33, f34, f35, f36, fa]) default rfl rfl rfl hF hC hB T hL ⟨by decide, by decide⟩ (fun a b v h => ?_) (fun a h => ?_) (PySem.W.mg_none_of X G bs), rfl⟩
  · match a, b, h with
    | 0, 0, h => cases h; exact s0_0
    | 0, 1, h => cases h; exact s0_1
    | 0, 2, h => cases h; exact s0_2
    | 0, 3, h => cases h; exact s0_3
    | 0, n + 4, h => cases h
    | 1, 0, h => cases h; exact s1_0
    | 1, 1, h => cases h; exact s1_1
    | 1, 2, h => cases h; exact s1_2
    | 1, 3, h => cases h; exact s1_3
    | 1, n + 4, h => cases h
    | 2, 0, h => cases h; exact s2_0
    | 2, 1, h => cases h; exact s2_1
    | 2, 2, h => cases h; exact s2_2
    | 2, 3, h => cases h; exact s2_3
    | 2, n + 4, h => cases h
    | 3, 0, h => cases h; exact s3_0
    | 3, 1, h => cases h; exact s3_1
    | 3, 2, h => cases h; exact s3_2
    | 3, 3, h => cases h; exact s3_3
    | 3, n + 4, h => cases h
    | n + 4, _, h => cases h
  · match a, h with
    | 0, _ => exact s0_0
    | 1, _ => exact s1_1
    | 2, _ => exact s2_2
    | 3, _ => exact s3_3
    | n + 4, h => exact absurd h (by simp [g])
end K01

/-! the bodies. Printed by body.py. -/
namespace K01
open PySem LG
def m0 (call : Call) : SX := -- are_ascending
  (sRet (eFn bAll (aCons (eLc [1] (iRng1 (eBin opSub (eFn bLen (aCons (eVar 0) aNil)) (eC (.int 1)))) (gVar 1) tTrue (eBin cmpLt (eBin idx (eVar 0) (eVar 1)) (eBin idx (eVar 0) (eBin opAdd (eVar 1) (eC (.int 1)))))) aNil)))
def m1 (call : Call) : SX := -- anew
  (sSeq (sIf (tVal (eIs (subT tab) (.list) (eVar 0))) (sRet (eLc [1] (iSeq (eVar 0)) (gVar 1) tTrue (eCall call 1 (aApp (aCons (eVar 1) aNil) aNil)))) sSkip) (sSeq (sIf (tVal (eIs (subT tab) (.tuple) (eVar 0))) (sRet (eFn bTuple (aCons (eLc [1] (iSeq (eVar 0)) (gVar 1) tTrue (eCall call 1 (aApp (aCons (eVar 1) aNil) aNil))) aNil))) sSkip) (sRet (eVar 0))))
def m2 (call : Call) : SX := -- is_name_in
  (sSeq (sIf (tOr (tNot (tVal (eIs (subT tab) (.str) (eVar 0)))) (tOr (tVal (eBin cmpEq (eFn bLen (aCons (eVar 0) aNil)) (eC (.int 0)))) (tVal (eBin cmpNotIn (eBin idx (eVar 0) (eC (.int 0))) (eC (.str [97, 98, 99, 100, 101, 102, 103, 104, 105, 106, 107, 108, 109, 110, 111, 112, 113, 114, 115, 116, 117, 118, 119, 120, 121, 122])))))) (sRet (eC (.bl false))) sSkip) (sSeq (sAsg (gVar 1) (eSlc (eVar 0) (oSome (eC (.int 1))) oNone)) (sRet (eOr (eBin cmpEq (eVar 1) (eC (.str []))) (eAnd (eBin cmpLt (eFn bLen (aCons (eVar 1) aNil)) (eC (.int 3))) (eAnd (eBin cmpIn (eBin idx (eVar 1) (eC (.int 0))) (eSlc (eC (.str [48, 49, 50, 51, 52, 53, 54, 55, 56, 57])) (oSome (eC (.int 1))) oNone)) (eBin cmpIn (eBin idx (eVar 1) (eUn opNeg (eC (.int 1)))) (eC (.str [48, 49, 50, 51, 52, 53, 54, 55, 56, 57])))))))))
def m3 (call : Call) : SX := -- inner
  (sRet (eIf (tVal (eBin cmpIn (eBin idx (eVar 0) (eC (.int 0))) (eTup (aCons (eC (.str [97, 110, 100])) (aCons (eC (.str [111, 114])) (aCons (eC (.str [105, 102])) aNil)))))) (eSlc (eVar 0) (oSome (eC (.int 1))) oNone) (eTup aNil)))
def m4 (call : Call) : SX := -- is_saying_in
  (sSeq (sIf (tOr (tNot (tVal (eIs (subT tab) (.tuple) (eVar 0)))) (tOr (tVal (eBin cmpEq (eFn bLen (aCons (eVar 0) aNil)) (eC (.int 0)))) (tNot (tVal (eIs (subT tab) (.str) (eBin idx (eVar 0) (eC (.int 0)))))))) (sRet (eC (.bl false))) sSkip) (sSeq (sIf (tVal (eBin cmpEq (eBin idx (eVar 0) (eC (.int 0))) (eC (.str [108, 101, 116, 116, 101, 114])))) (sRet (eAnd (eBin cmpEq (eFn bLen (aCons (eVar 0) aNil)) (eC (.int 2))) (eCall call 2 (aApp (aCons (eBin idx (eVar 0) (eC (.int 1))) aNil) aNil)))) sSkip) (sSeq (sIf (tVal (eBin cmpIn (eBin idx (eVar 0) (eC (.int 0))) (eTup (aCons (eC (.str [116, 114, 117, 101])) (aCons (eC (.str [102, 97, 108, 115, 101])) aNil))))) (sRet (eBin cmpEq (eFn bLen (aCons (eVar 0) aNil)) (eC (.int 1)))) sSkip) (sRet (eAnd (eBin cmpIn (eBin idx (eVar 0) (eC (.int 0))) (eTup (aCons (eC (.str [97, 110, 100])) (aCons (eC (.str [111, 114])) (aCons (eC (.str [105, 102])) aNil))))) (eAnd (eBin cmpEq (eFn bLen (aCons (eVar 0) aNil)) (eC (.int 3))) (eFn bAll (aCons (eLc [1] (iSeq (eCall call 3 (aApp (aCons (eVar 0) aNil) aNil))) (gVar 1) tTrue (eCall call 4 (aApp (aCons (eVar 1) aNil) aNil))) aNil))))))))
def m5 (call : Call) : SX := -- all_in
  (sSeq (sAsg (gVar 1) eDct) (sSeq (sAsg (gVar 2) (eFn bList (aCons (eVar 0) aNil))) (sSeq (sWhile (tVal (eBin cmpGt (eFn bLen (aCons (eVar 2) aNil)) (eC (.int 0)))) (sSeq (sAsg (gVar 3) (eMt mPop (eVar 2) aNil)) (sIf (tVal (eBin cmpNotIn (eVar 3) (eVar 1))) (sSeq (sSetI (eVar 1) (eVar 3) (eC (.bl true))) (sExpr (eMt mExtend (eVar 2) (aCons (eCall call 3 (aApp (aCons (eVar 3) aNil) aNil)) aNil)))) sSkip))) (sRet (eFn bSorted (aCons (eVar 1) aNil))))))
def m6 (call : Call) : SX := -- parts_in
  (sRet (eFn bTuple (aCons (eCall call 5 (aApp (aCons (eBin opAdd (eFn bTuple (aCons (eVar 0) aNil)) (eTup (aCons (eC (.tup [.str [102, 97, 108, 115, 101]])) aNil))) aNil) aNil)) aNil)))
def m7 (call : Call) : SX := -- are_parts_in
  (sSeq (sIf (tOr (tNot (tVal (eIs (subT tab) (.tuple) (eVar 0)))) (tOr (tNot (tVal (eFn bAll (aCons (eLc [1] (iSeq (eVar 0)) (gVar 1) tTrue (eCall call 4 (aApp (aCons (eVar 1) aNil) aNil))) aNil)))) (tNot (tVal (eCall call 0 (aApp (aCons (eVar 0) aNil) aNil)))))) (sRet (eC (.bl false))) sSkip) (sRet (eAnd (eBin cmpIn (eC (.tup [.str [102, 97, 108, 115, 101]])) (eVar 0)) (eFn bAll (aCons (eLc [1] (iSeq (eVar 0)) (gVar 1) tTrue (eFn bAll (aCons (eLc [2] (iSeq (eCall call 3 (aApp (aCons (eVar 1) aNil) aNil))) (gVar 2) tTrue (eBin cmpIn (eVar 2) (eVar 0))) aNil))) aNil)))))
def m8 (call : Call) : SX := -- names_in
  (sRet (eLc [1] (iSeq (eCall call 5 (aApp (aCons (eVar 0) aNil) aNil))) (gVar 1) (tVal (eBin cmpEq (eBin idx (eVar 1) (eC (.int 0))) (eC (.str [108, 101, 116, 116, 101, 114])))) (eBin idx (eVar 1) (eC (.int 1)))))
def m9 (call : Call) : SX := -- choices_among
  (sRet (eFn bLen (aCons (eLc [1] (iSeq (eVar 0)) (gVar 1) (tVal (eBin cmpIn (eBin idx (eVar 1) (eC (.int 0))) (eTup (aCons (eC (.str [108, 101, 116, 116, 101, 114])) (aCons (eC (.str [105, 102])) aNil))))) (eVar 1)) aNil)))
def m10 (call : Call) : SX := -- count_words
  (sRet (eBin opAdd (eC (.int 1)) (eFn bSum (aCons (eLc [1] (iSeq (eCall call 3 (aApp (aCons (eVar 0) aNil) aNil))) (gVar 1) tTrue (eCall call 10 (aApp (aCons (eVar 1) aNil) aNil))) aNil))))
def m11 (call : Call) : SX := -- depth_in
  (sRet (eBin opAdd (eFn bMax (aCons (eBin opAdd (eLst (aCons (eC (.int 0)) aNil)) (eLc [1] (iSeq (eCall call 3 (aApp (aCons (eVar 0) aNil) aNil))) (gVar 1) tTrue (eCall call 11 (aApp (aCons (eVar 1) aNil) aNil)))) aNil)) (eFn bInt (aCons (eBin cmpEq (eBin idx (eVar 0) (eC (.int 0))) (eC (.str [105, 102]))) aNil))))
def m12 (call : Call) : SX := -- put_for
  (sSeq (sIf (tVal (eBin cmpEq (eBin idx (eVar 0) (eC (.int 0))) (eC (.str [108, 101, 116, 116, 101, 114])))) (sRet (eIf (tVal (eBin cmpEq (eBin idx (eVar 0) (eC (.int 1))) (eVar 1))) (eVar 2) (eVar 0))) sSkip) (sRet (eBin opAdd (eSlc (eVar 0) oNone (oSome (eC (.int 1)))) (eFn bTuple (aCons (eLc [3] (iSeq (eCall call 3 (aApp (aCons (eVar 0) aNil) aNil))) (gVar 3) tTrue (eCall call 12 (aApp (aCons (eVar 3) (aCons (eVar 1) (aCons (eVar 2) aNil))) aNil))) aNil)))))
def m13 (call : Call) : SX := -- need_name
  (sIf (tNot (tVal (eCall call 2 (aApp (aCons (eVar 0) aNil) aNil)))) (sRaise 1 (eCall call 1 (aApp (aCons (eVar 0) aNil) aNil))) sSkip)
def m14 (call : Call) : SX := -- need_saying
  (sIf (tNot (tVal (eCall call 4 (aApp (aCons (eVar 0) aNil) aNil)))) (sRaise 2 (eCall call 1 (aApp (aCons (eVar 0) aNil) aNil))) sSkip)
def m15 (call : Call) : SX := -- need_sayings
  (sSeq (sAsg (gVar 1) (eAnd (eIs (subT tab) (.tuple) (eVar 0)) (eBin cmpLe (eFn bLen (aCons (eVar 0) aNil)) (eC (.int 12))))) (sIf (tOr (tNot (tVal (eVar 1))) (tNot (tVal (eFn bAll (aCons (eLc [2] (iSeq (eVar 0)) (gVar 2) tTrue (eCall call 4 (aApp (aCons (eVar 2) aNil) aNil))) aNil))))) (sRaise 3 (eCall call 1 (aApp (aCons (eVar 0) aNil) aNil))) sSkip))
def m16 (call : Call) : SX := -- is_name
  (sRet (eCall call 2 (aApp (aCons (eVar 0) aNil) aNil)))
def m17 (call : Call) : SX := -- is_saying
  (sRet (eCall call 4 (aApp (aCons (eVar 0) aNil) aNil)))
def m18 (call : Call) : SX := -- letters_of
  (sSeq (sExpr (eCall call 14 (aApp (aCons (eVar 0) aNil) aNil))) (sRet (eFn bTuple (aCons (eCall call 8 (aApp (aCons (eTup (aCons (eVar 0) aNil)) aNil) aNil)) aNil))))
def m19 (call : Call) : SX := -- words_in
  (sSeq (sExpr (eCall call 14 (aApp (aCons (eVar 0) aNil) aNil))) (sRet (eCall call 10 (aApp (aCons (eVar 0) aNil) aNil))))
def m20 (call : Call) : SX := -- depth
  (sSeq (sExpr (eCall call 14 (aApp (aCons (eVar 0) aNil) aNil))) (sRet (eCall call 11 (aApp (aCons (eVar 0) aNil) aNil))))
def m21 (call : Call) : SX := -- denied
  (sSeq (sExpr (eCall call 14 (aApp (aCons (eVar 0) aNil) aNil))) (sRet (eTup (aCons (eC (.str [105, 102])) (aCons (eVar 0) (aCons (eC (.tup [.str [102, 97, 108, 115, 101]])) aNil))))))
def m22 (call : Call) : SX := -- put
  (sSeq (sExpr (eCall call 14 (aApp (aCons (eVar 0) aNil) aNil))) (sSeq (sExpr (eCall call 13 (aApp (aCons (eVar 1) aNil) aNil))) (sSeq (sExpr (eCall call 14 (aApp (aCons (eVar 2) aNil) aNil))) (sRet (eCall call 12 (aApp (aCons (eVar 0) (aCons (eVar 1) (aCons (eVar 2) aNil))) aNil))))))
def m23 (call : Call) : SX := -- parts_of
  (sSeq (sExpr (eCall call 15 (aApp (aCons (eVar 0) aNil) aNil))) (sRet (eCall call 6 (aApp (aCons (eVar 0) aNil) aNil))))
def m24 (call : Call) : SX := -- is_parts
  (sRet (eCall call 7 (aApp (aCons (eVar 0) aNil) aNil)))
def m25 (call : Call) : SX := -- choices_in
  (sSeq (sExpr (eCall call 15 (aApp (aCons (eVar 0) aNil) aNil))) (sRet (eCall call 9 (aApp (aCons (eCall call 6 (aApp (aCons (eVar 0) aNil) aNil)) aNil) aNil))))
def m26 (call : Call) : SX := -- _law_box
  (sRet (eLst (aCons (eFn bList (aCons (eVar 0) aNil)) (aCons (eC (.int 0)) (aCons (eC (.int 0)) aNil)))))
def m27 (call : Call) : SX := -- _law_draw
  (sSeq (sIf (tVal (eBin cmpLt (eVar 1) (eC (.int 2)))) (sRet (eC (.int 0))) sSkip) (sSeq (sIf (tVal (eBin cmpGt (eBin idx (eVar 0) (eC (.int 2))) (eC (.int 0)))) (sSeq (sAsg (gVar 5) (eBin opMod (eFn bInt (aCons (eBin idx (eVar 0) (eC (.int 2))) aNil)) (eVar 1))) (sSeq (sSetI (eVar 0) (eC (.int 2)) (eBin opFdiv (eBin idx (eVar 0) (eC (.int 2))) (eVar 1))) (sRet (eVar 5)))) sSkip) (sSeq (sAsg (gVar 2) (eBin idx (eVar 0) (eC (.int 1)))) (sSeq (sSetI (eVar 0) (eC (.int 1)) (eBin opAdd (eVar 2) (eC (.int 1)))) (sSeq (sAsg (gVar 3) (eIf (tVal (eBin cmpGt (eFn bLen (aCons (eBin idx (eVar 0) (eC (.int 0))) aNil)) (eC (.int 0)))) (eBin idx (eBin idx (eVar 0) (eC (.int 0))) (eBin opMod (eVar 2) (eFn bLen (aCons (eBin idx (eVar 0) (eC (.int 0))) aNil)))) (eC (.int 0)))) (sSeq (sIf (tAnd (tVal (eBin cmpLt (eVar 2) (eFn bLen (aCons (eBin idx (eVar 0) (eC (.int 0))) aNil)))) (tVal (eBin cmpGe (eVar 3) (eBin opPow (eC (.int 10)) (eC (.int 18)))))) (sSeq (sSetI (eVar 0) (eC (.int 2)) (eBin opFdiv (eVar 3) (eVar 1))) (sRet (eBin opMod (eFn bInt (aCons (eVar 3) aNil)) (eVar 1)))) sSkip) (sSeq (sAsg (gVar 4) (eBin opMod (eBin opMul (eBin opAdd (eBin opAdd (eBin opMod (eFn bInt (aCons (eVar 3) aNil)) (eC (.int 2147483629))) (eBin opMul (eC (.int 5)) (eVar 2))) (eC (.int 3))) (eC (.int 48271))) (eC (.int 2147483647)))) (sSeq (sAsg (gVar 4) (eBin opMod (eBin opAdd (eBin opAdd (eBin opMul (eVar 4) (eVar 4)) (eBin opMul (eBin opMul (eVar 2) (eVar 2)) (eC (.int 40692)))) (eBin opMul (eC (.int 11)) (eVar 2))) (eC (.int 2147483587)))) (sSeq (sAsg (gVar 4) (eBin opMod (eBin opMul (eBin opAdd (eBin opMul (eVar 4) (eC (.int 69621))) (eVar 2)) (eBin opAdd (eVar 4) (eC (.int 7)))) (eC (.int 2147483629)))) (sRet (eBin opMod (eBin opFdiv (eVar 4) (eC (.int 16))) (eVar 1))))))))))))
def m28 (call : Call) : SX := -- _law_says
  (sRet (eAnd (eIs (subT tab) (.bool) (eVar 0)) (eBin cmpEq (eVar 0) (eVar 1))))
def m29 (call : Call) : SX := -- _law_not
  (sRet (eTup (aCons (eC (.str [105, 102])) (aCons (eVar 0) (aCons (eTup (aCons (eC (.str [102, 97, 108, 115, 101])) aNil)) aNil)))))
def m30 (call : Call) : SX := -- _law_leaf
  (sSeq (sIf (tOr (tVal (eBin cmpEq (eCall call 27 (aApp (aCons (eVar 0) (aCons (eC (.int 7)) aNil)) aNil)) (eC (.int 0)))) (tVal (eBin cmpEq (eFn bLen (aCons (eVar 1) aNil)) (eC (.int 0))))) (sRet (eIf (tVal (eBin cmpEq (eCall call 27 (aApp (aCons (eVar 0) (aCons (eC (.int 3)) aNil)) aNil)) (eC (.int 0)))) (eTup (aCons (eC (.str [116, 114, 117, 101])) aNil)) (eTup (aCons (eC (.str [102, 97, 108, 115, 101])) aNil)))) sSkip) (sRet (eTup (aCons (eC (.str [108, 101, 116, 116, 101, 114])) (aCons (eBin idx (eVar 1) (eCall call 27 (aApp (aCons (eVar 0) (aCons (eFn bLen (aCons (eVar 1) aNil)) aNil)) aNil))) aNil)))))
def m31 (call : Call) : SX := -- _law_saying
  (sSeq (sIf (tOr (tVal (eBin cmpEq (eVar 2) (eC (.int 0)))) (tVal (eBin cmpEq (eCall call 27 (aApp (aCons (eVar 0) (aCons (eC (.int 5)) aNil)) aNil)) (eC (.int 0))))) (sRet (eCall call 30 (aApp (aCons (eVar 0) (aCons (eVar 1) aNil)) aNil))) sSkip) (sSeq (sAsg (gVar 4) (eCall call 27 (aApp (aCons (eVar 0) (aCons (eC (.int 5)) aNil)) aNil))) (sSeq (sIf (tAnd (tVal (eBin cmpGt (eVar 4) (eC (.int 2)))) (tVal (eBin cmpGt (eBin idx (eVar 3) (eC (.int 0))) (eC (.int 0))))) (sSeq (sSetI (eVar 3) (eC (.int 0)) (eBin opSub (eBin idx (eVar 3) (eC (.int 0))) (eC (.int 1)))) (sSeq (sAsg (gVar 6) (eCall call 31 (aApp (aCons (eVar 0) (aCons (eVar 1) (aCons (eBin opSub (eVar 2) (eC (.int 1))) (aCons (eVar 3) aNil)))) aNil))) (sRet (eIf (tVal (eBin cmpEq (eVar 4) (eC (.int 4)))) (eCall call 29 (aApp (aCons (eVar 6) aNil) aNil)) (eTup (aCons (eC (.str [105, 102])) (aCons (eVar 6) (aCons (eCall call 31 (aApp (aCons (eVar 0) (aCons (eVar 1) (aCons (eBin opSub (eVar 2) (eC (.int 1))) (aCons (eVar 3) aNil)))) aNil)) aNil)))))))) sSkip) (sSeq (sAsg (gVar 5) (eBin idx (eLst (aCons (eC (.str [97, 110, 100])) (aCons (eC (.str [111, 114])) (aCons (eC (.str [111, 114])) (aCons (eC (.str [97, 110, 100])) (aCons (eC (.str [111, 114])) aNil)))))) (eVar 4))) (sSeq (sAsg (gVar 6) (eCall call 31 (aApp (aCons (eVar 0) (aCons (eVar 1) (aCons (eBin opSub (eVar 2) (eC (.int 1))) (aCons (eVar 3) aNil)))) aNil))) (sRet (eTup (aCons (eVar 5) (aCons (eVar 6) (aCons (eCall call 31 (aApp (aCons (eVar 0) (aCons (eVar 1) (aCons (eBin opSub (eVar 2) (eC (.int 1))) (aCons (eVar 3) aNil)))) aNil)) aNil))))))))))
def m32 (call : Call) : SX := -- _law_is_name
  (sSeq (sIf (tOr (tNot (tVal (eIs (subT tab) (.str) (eVar 0)))) (tOr (tVal (eBin cmpEq (eFn bLen (aCons (eVar 0) aNil)) (eC (.int 0)))) (tNot (tVal (eChain cmpLe cmpLe (eC (.str [97])) (eBin idx (eVar 0) (eC (.int 0))) (eC (.str [122]))))))) (sRet (eC (.bl false))) sSkip) (sRet (eBin cmpIn (eSlc (eVar 0) (oSome (eC (.int 1))) oNone) (eBin opAdd (eLst (aCons (eC (.str [])) aNil)) (eLc [1] (iRng2 (eC (.int 1)) (eC (.int 100))) (gVar 1) tTrue (eFn bStr (aCons (eVar 1) aNil)))))))
def m33 (call : Call) : SX := -- _law_is_saying
  (sSeq (sIf (tOr (tNot (tVal (eIs (subT tab) (.tuple) (eVar 0)))) (tOr (tVal (eBin cmpEq (eFn bLen (aCons (eVar 0) aNil)) (eC (.int 0)))) (tNot (tVal (eIs (subT tab) (.str) (eBin idx (eVar 0) (eC (.int 0)))))))) (sRet (eC (.bl false))) sSkip) (sSeq (sIf (tVal (eBin cmpIn (eBin idx (eVar 0) (eC (.int 0))) (eTup (aCons (eC (.str [116, 114, 117, 101])) (aCons (eC (.str [102, 97, 108, 115, 101])) aNil))))) (sRet (eBin cmpEq (eFn bLen (aCons (eVar 0) aNil)) (eC (.int 1)))) sSkip) (sSeq (sIf (tVal (eBin cmpEq (eBin idx (eVar 0) (eC (.int 0))) (eC (.str [108, 101, 116, 116, 101, 114])))) (sRet (eAnd (eBin cmpEq (eFn bLen (aCons (eVar 0) aNil)) (eC (.int 2))) (eCall call 32 (aApp (aCons (eBin idx (eVar 0) (eC (.int 1))) aNil) aNil)))) sSkip) (sRet (eAnd (eBin cmpIn (eBin idx (eVar 0) (eC (.int 0))) (eTup (aCons (eC (.str [97, 110, 100])) (aCons (eC (.str [111, 114])) (aCons (eC (.str [105, 102])) aNil))))) (eAnd (eBin cmpEq (eFn bLen (aCons (eVar 0) aNil)) (eC (.int 3))) (eAnd (eCall call 33 (aApp (aCons (eBin idx (eVar 0) (eC (.int 1))) aNil) aNil)) (eCall call 33 (aApp (aCons (eBin idx (eVar 0) (eC (.int 2))) aNil) aNil)))))))))
def m34 (call : Call) : SX := -- _law_word
  (sSeq (sAsg (gVar 1) (eBin idx (eLst (aCons (eC (.str [112])) (aCons (eC (.str [122])) (aCons (eC (.str [97])) (aCons (eC (.str [65])) (aCons (eC (.str [])) (aCons (eC (.str [95])) (aCons (eC (.str [49])) (aCons (eC (.str [112, 112])) aNil))))))))) (eCall call 27 (aApp (aCons (eVar 0) (aCons (eC (.int 8)) aNil)) aNil)))) (sRet (eBin opAdd (eVar 1) (eBin idx (eLst (aCons (eC (.str [])) (aCons (eC (.str [])) (aCons (eC (.str [49])) (aCons (eC (.str [57, 57])) (aCons (eC (.str [49, 48, 48])) (aCons (eC (.str [48])) (aCons (eC (.str [48, 55])) (aCons (eC (.str [49, 32])) (aCons (eC (.str [120])) aNil)))))))))) (eCall call 27 (aApp (aCons (eVar 0) (aCons (eC (.int 9)) aNil)) aNil))))))
def m35 (call : Call) : SX := -- _law_spoilt
  (sSeq (sAsg (gVar 2) (eLst (aCons (eTup (aCons (eC (.str [108, 101, 116, 116, 101, 114])) (aCons (eC (.str [80])) aNil))) (aCons (eTup (aCons (eC (.str [108, 101, 116, 116, 101, 114])) (aCons (eC (.str [112, 48])) aNil))) (aCons (eTup (aCons (eC (.str [108, 101, 116, 116, 101, 114])) (aCons (eC (.str [112, 49, 48, 48])) aNil))) (aCons (eTup (aCons (eC (.str [108, 101, 116, 116, 101, 114])) aNil)) (aCons (eLst (aCons (eC (.str [116, 114, 117, 101])) aNil)) (aCons (eTup (aCons (eC (.str [116, 114, 117, 101])) (aCons (eTup aNil) aNil))) (aCons (eC (.str [116, 114, 117, 101])) (aCons (eC (.non)) (aCons (eC (.int 0)) (aCons (eC (.bl true)) (aCons (eTup (aCons (eC (.str [110, 111, 116])) (aCons (eVar 1) aNil))) (aCons (eTup (aCons (eC (.str [97, 110, 100])) (aCons (eVar 1) aNil))) (aCons (eTup aNil) aNil))))))))))))))) (sSeq (sAsg (gVar 3) (eBin idx (eVar 2) (eCall call 27 (aApp (aCons (eVar 0) (aCons (eC (.int 13)) aNil)) aNil)))) (sSeq (sAsg (gVar 4) (eLst (aCons (eVar 3) (aCons (eTup (aCons (eC (.str [97, 110, 100])) (aCons (eVar 3) (aCons (eVar 1) aNil)))) (aCons (eTup (aCons (eC (.str [111, 114])) (aCons (eVar 1) (aCons (eVar 3) aNil)))) (aCons (eTup (aCons (eC (.str [105, 102])) (aCons (eVar 1) (aCons (eVar 1) (aCons (eVar 1) aNil))))) (aCons (eFn bList (aCons (eVar 1) aNil)) (aCons (eTup (aCons (eC (.str [105, 102])) (aCons (eTup (aCons (eC (.str [97, 110, 100])) (aCons (eVar 3) (aCons (eVar 1) aNil)))) (aCons (eVar 1) aNil)))) (aCons (eTup (aCons (eC (.str [73, 70])) (aCons (eVar 1) (aCons (eVar 1) aNil)))) aNil))))))))) (sRet (eBin idx (eVar 4) (eCall call 27 (aApp (aCons (eVar 0) (aCons (eC (.int 7)) aNil)) aNil)))))))
def m36 (call : Call) : SX := -- _law_ask
  (sSeq (sAsg (gTup [gVar 4, gVar 5]) (eTup (aCons (eC (.str [116, 111, 108, 100])) (aCons (eC (.non)) aNil)))) (sSeq (sTry (subT tab) (sIf (tVal (eBin cmpEq (eVar 0) (eC (.int 0)))) (sExpr (eCall call 19 (aApp (aCons (eVar 1) aNil) aNil))) (sIf (tVal (eBin cmpEq (eVar 0) (eC (.int 1)))) (sExpr (eCall call 20 (aApp (aCons (eVar 1) aNil) aNil))) (sIf (tVal (eBin cmpEq (eVar 0) (eC (.int 2)))) (sExpr (eCall call 18 (aApp (aCons (eVar 1) aNil) aNil))) (sIf (tVal (eBin cmpEq (eVar 0) (eC (.int 3)))) (sExpr (eCall call 21 (aApp aNil (aCons (eVar 1) aNil)))) (sIf (tVal (eBin cmpEq (eVar 0) (eC (.int 4)))) (sExpr (eCall call 22 (aApp (aCons (eVar 1) (aCons (eVar 2) (aCons (eC (.non)) aNil))) aNil))) (sIf (tVal (eBin cmpEq (eVar 0) (eC (.int 5)))) (sExpr (eCall call 22 (aApp (aCons (eTup (aCons (eC (.str [116, 114, 117, 101])) aNil)) (aCons (eVar 1) (aCons (eVar 2) aNil))) aNil))) (sIf (tVal (eBin cmpEq (eVar 0) (eC (.int 6)))) (sExpr (eCall call 22 (aApp (aCons (eTup (aCons (eC (.str [116, 114, 117, 101])) aNil)) (aCons (eC (.str [112])) (aCons (eVar 1) aNil))) aNil))) (sIf (tVal (eBin cmpEq (eVar 0) (eC (.int 7)))) (sExpr (eCall call 23 (aApp (aCons (eVar 1) aNil) aNil))) (sExpr (eCall call 25 (aApp (aCons (eVar 1) aNil) aNil))))))))))) [(1, some 3, (sPar [4, 5] (aCons (eC (.str [110, 97, 109, 101])) (aCons (eFld 4 (eVar 3)) aNil)))), (2, some 3, (sPar [4, 5] (aCons (eC (.str [115, 97, 121, 105, 110, 103])) (aCons (eFld 4 (eVar 3)) aNil)))), (3, some 3, (sPar [4, 5] (aCons (eC (.str [115, 97, 121, 105, 110, 103, 115])) (aCons (eFld 4 (eVar 3)) aNil))))]) (sRet (eTup (aCons (eVar 4) (aCons (eVar 5) aNil))))))
def m37 (call : Call) : SX := -- law
  (sSeq (sAsg (gVar 1) (eCall call 26 (aApp (aCons (eVar 0) aNil) aNil))) (sSeq (sFor (iRng1 (eC (.int 8))) (gVar 2) (sSeq (sAsg (gVar 3) (eCall call 34 (aApp (aCons (eVar 1) aNil) aNil))) (sSeq (sIf (tOr (tNot (tVal (eCall call 28 (aApp (aCons (eCall call 16 (aApp (aCons (eVar 3) aNil) aNil)) (aCons (eCall call 32 (aApp (aCons (eVar 3) aNil) aNil)) aNil)) aNil)))) (tNot (tVal (eCall call 28 (aApp (aCons (eCall call 17 (aApp (aCons (eTup (aCons (eC (.str [108, 101, 116, 116, 101, 114])) (aCons (eVar 3) aNil))) aNil) aNil)) (aCons (eCall call 32 (aApp (aCons (eVar 3) aNil) aNil)) aNil)) aNil))))) (sRet (eC (.bl false))) sSkip) (sSeq (sAsg (gVar 4) (eCall call 31 (aApp (aCons (eVar 1) (aCons (eTup (aCons (eC (.str [112])) (aCons (eC (.str [113, 49, 50])) aNil))) (aCons (eC (.int 2)) (aCons (eLst (aCons (eC (.int 2)) aNil)) aNil)))) aNil))) (sSeq (sAsg (gVar 5) (eCall call 35 (aApp (aCons (eVar 1) (aCons (eVar 4) aNil)) aNil))) (sSeq (sIf (tOr (tVal (eCall call 33 (aApp (aCons (eVar 5) aNil) aNil))) (tOr (tVal (eBin cmpIsNot (eCall call 17 (aApp (aCons (eVar 5) aNil) aNil)) (eC (.bl false)))) (tVal (eBin cmpIsNot (eCall call 24 (aApp (aCons (eTup (aCons (eVar 5) aNil)) aNil) aNil)) (eC (.bl false)))))) (sRet (eC (.bl false))) sSkip) (sSeq (sIf (tVal (eBin cmpNe (eLc [8] (iSeq (eTup (aCons (eC (.int 0)) (aCons (eC (.int 1)) (aCons (eC (.int 2)) (aCons (eC (.int 3)) (aCons (eC (.int 4)) (aCons (eC (.int 6)) aNil)))))))) (gVar 8) tTrue (eCall call 36 (aApp (aCons (eVar 8) (aCons (eVar 5) (aCons (eC (.int 7)) aNil))) aNil))) (eBin opMul (eLst (aCons (eTup (aCons (eC (.str [115, 97, 121, 105, 110, 103])) (aCons (eVar 5) aNil))) aNil)) (eC (.int 6))))) (sRet (eC (.bl false))) sSkip) (sSeq (sAsg (gVar 6) (eBin idx (eLst (aCons (eVar 3) (aCons (eLst (aCons (eC (.str [112])) aNil)) (aCons (eC (.non)) (aCons (eC (.int 4)) (aCons (eTup (aCons (eC (.str [112])) aNil)) (aCons (eTup (aCons (eC (.str [112])) (aCons (eC (.str [113])) aNil))) aNil))))))) (eCall call 27 (aApp (aCons (eVar 1) (aCons (eC (.int 6)) aNil)) aNil)))) (sSeq (sIf (tAnd (tNot (tVal (eCall call 32 (aApp (aCons (eVar 6) aNil) aNil)))) (tOr (tVal (eBin cmpNe (eCall call 36 (aApp (aCons (eC (.int 5)) (aCons (eVar 6) (aCons (eVar 5) aNil))) aNil)) (eTup (aCons (eC (.str [110, 97, 109, 101])) (aCons (eVar 6) aNil))))) (tOr (tVal (eBin cmpNe (eCall call 36 (aApp (aCons (eC (.int 4)) (aCons (eVar 4) (aCons (eVar 6) aNil))) aNil)) (eTup (aCons (eC (.str [110, 97, 109, 101])) (aCons (eVar 6) aNil))))) (tVal (eBin cmpIsNot (eCall call 16 (aApp (aCons (eVar 6) aNil) aNil)) (eC (.bl false))))))) (sRet (eC (.bl false))) sSkip) (sSeq (sAsg (gVar 7) (eBin idx (eLst (aCons (eTup (aCons (eVar 4) (aCons (eVar 5) aNil))) (aCons (eLst (aCons (eVar 4) aNil)) (aCons (eVar 5) (aCons (eBin opMul (eTup (aCons (eVar 4) aNil)) (eC (.int 13))) (aCons (eBox [112] (eVar 4)) aNil)))))) (eCall call 27 (aApp (aCons (eVar 1) (aCons (eC (.int 5)) aNil)) aNil)))) (sSeq (sIf (tAnd (tVal (eIs (subT tab) (.tuple) (eVar 7))) (tVal (eBin cmpEq (eFn bLen (aCons (eVar 7) aNil)) (eC (.int 0))))) sCont sSkip) (sIf (tOr (tVal (eBin cmpNe (eCall call 36 (aApp (aCons (eC (.int 7)) (aCons (eVar 7) (aCons (eC (.non)) aNil))) aNil)) (eTup (aCons (eC (.str [115, 97, 121, 105, 110, 103, 115])) (aCons (eVar 7) aNil))))) (tVal (eBin cmpNe (eCall call 36 (aApp (aCons (eC (.int 8)) (aCons (eVar 7) (aCons (eC (.non)) aNil))) aNil)) (eTup (aCons (eC (.str [115, 97, 121, 105, 110, 103, 115])) (aCons (eVar 7) aNil)))))) (sRet (eC (.bl false))) sSkip)))))))))))) (sRet (eAnd (eBin cmpEq (eCall call 36 (aApp (aCons (eC (.int 7)) (aCons (eBin opMul (eTup (aCons (eTup (aCons (eC (.str [116, 114, 117, 101])) aNil)) aNil)) (eC (.int 12))) (aCons (eC (.non)) aNil))) aNil)) (eTup (aCons (eC (.str [116, 111, 108, 100])) (aCons (eC (.non)) aNil)))) (eBin cmpEq (eCall call 36 (aApp (aCons (eC (.int 5)) (aCons (eC (.str [112])) (aCons (eTup (aCons (eC (.str [116, 114, 117, 101])) aNil)) aNil))) aNil)) (eTup (aCons (eC (.str [116, 111, 108, 100])) (aCons (eC (.non)) aNil))))))))
theorem c0 (call : Call) : compD g d0 call = m0 call := by kernel_rfl
theorem c1 (call : Call) : compD g d1 call = m1 call := by kernel_rfl
theorem c2 (call : Call) : compD g d2 call = m2 call := by kernel_rfl
theorem c3 (call : Call) : compD g d3 call = m3 call := by kernel_rfl
theorem c4 (call : Call) : compD g d4 call = m4 call := by kernel_rfl
theorem c5 (call : Call) : compD g d5 call = m5 call := by kernel_rfl
theorem c6 (call : Call) : compD g d6 call = m6 call := by kernel_rfl
theorem c7 (call : Call) : compD g d7 call = m7 call := by kernel_rfl
theorem c8 (call : Call) : compD g d8 call = m8 call := by kernel_rfl
theorem c9 (call : Call) : compD g d9 call = m9 call := by kernel_rfl
theorem c10 (call : Call) : compD g d10 call = m10 call := by kernel_rfl
theorem c11 (call : Call) : compD g d11 call = m11 call := by kernel_rfl
theorem c12 (call : Call) : compD g d12 call = m12 call := by kernel_rfl
theorem c13 (call : Call) : compD g d13 call = m13 call := by kernel_rfl
theorem c14 (call : Call) : compD g d14 call = m14 call := by kernel_rfl
theorem c15 (call : Call) : compD g d15 call = m15 call := by kernel_rfl
theorem c16 (call : Call) : compD g d16 call = m16 call := by kernel_rfl
theorem c17 (call : Call) : compD g d17 call = m17 call := by kernel_rfl
theorem c18 (call : Call) : compD g d18 call = m18 call := by kernel_rfl
theorem c19 (call : Call) : compD g d19 call = m19 call := by kernel_rfl
theorem c20 (call : Call) : compD g d20 call = m20 call := by kernel_rfl
theorem c21 (call : Call) : compD g d21 call = m21 call := by kernel_rfl
theorem c22 (call : Call) : compD g d22 call = m22 call := by kernel_rfl
theorem c23 (call : Call) : compD g d23 call = m23 call := by kernel_rfl
theorem c24 (call : Call) : compD g d24 call = m24 call := by kernel_rfl
theorem c25 (call : Call) : compD g d25 call = m25 call := by kernel_rfl
theorem c26 (call : Call) : compD g d26 call = m26 call := by kernel_rfl
theorem c27 (call : Call) : compD g d27 call = m27 call := by kernel_rfl
theorem c28 (call : Call) : compD g d28 call = m28 call := by kernel_rfl
theorem c29 (call : Call) : compD g d29 call = m29 call := by kernel_rfl
theorem c30 (call : Call) : compD g d30 call = m30 call := by kernel_rfl
theorem c31 (call : Call) : compD g d31 call = m31 call := by kernel_rfl
theorem c32 (call : Call) : compD g d32 call = m32 call := by kernel_rfl
theorem c33 (call : Call) : compD g d33 call = m33 call := by kernel_rfl
theorem c34 (call : Call) : compD g d34 call = m34 call := by kernel_rfl
theorem c35 (call : Call) : compD g d35 call = m35 call := by kernel_rfl
theorem c36 (call : Call) : compD g d36 call = m36 call := by kernel_rfl
theorem c37 (call : Call) : compD g d37 call = m37 call := by kernel_rfl
abbrev F : Nat → Call := runF (ds.map (defI g))
theorem r0 (k : Nat) (a0 : D) (s : Sto) : F (k + 1) 0 [a0] s = fnRes (m0 (F k) [some a0, none] s) := (run_at (ds := ds) (g := g) (d := d0) rfl k [a0] s rfl).trans (by rw [c0]; rfl)
theorem r1 (k : Nat) (a0 : D) (s : Sto) : F (k + 1) 1 [a0] s = fnRes (m1 (F k) [some a0, none] s) := (run_at (ds := ds) (g := g) (d := d1) rfl k [a0] s rfl).trans (by rw [c1]; rfl)
theorem r2 (k : Nat) (a0 : D) (s : Sto) : F (k + 1) 2 [a0] s = fnRes (m2 (F k) [some a0, none] s) := (run_at (ds := ds) (g := g) (d := d2) rfl k [a0] s rfl).trans (by rw [c2]; rfl)
theorem r3 (k : Nat) (a0 : D) (s : Sto) : F (k + 1) 3 [a0] s = fnRes (m3 (F k) [some a0] s) := (run_at (ds := ds) (g := g) (d := d3) rfl k [a0] s rfl).trans (by rw [c3]; rfl)
theorem r4 (k : Nat) (a0 : D) (s : Sto) : F (k + 1) 4 [a0] s = fnRes (m4 (F k) [some a0, none] s) := (run_at (ds := ds) (g := g) (d := d4) rfl k [a0] s rfl).trans (by rw [c4]; rfl)
theorem r5 (k : Nat) (a0 : D) (s : Sto) : F (k + 1) 5 [a0] s = fnRes (m5 (F k) [some a0, none, none, none] s) := (run_at (ds := ds) (g := g) (d := d5) rfl k [a0] s rfl).trans (by rw [c5]; rfl)
theorem r6 (k : Nat) (a0 : D) (s : Sto) : F (k + 1) 6 [a0] s = fnRes (m6 (F k) [some a0] s) := (run_at (ds := ds) (g := g) (d := d6) rfl k [a0] s rfl).trans (by rw [c6]; rfl)
theorem r7 (k : Nat) (a0 : D) (s : Sto) : F (k + 1) 7 [a0] s = fnRes (m7 (F k) [some a0, none, none] s) := (run_at (ds := ds) (g := g) (d := d7) rfl k [a0] s rfl).trans (by rw [c7]; rfl)
theorem r8 (k : Nat) (a0 : D) (s : Sto) : F (k + 1) 8 [a0] s = fnRes (m8 (F k) [some a0, none] s) := (run_at (ds := ds) (g := g) (d := d8) rfl k [a0] s rfl).trans (by rw [c8]; rfl)
theorem r9 (k : Nat) (a0 : D) (s : Sto) : F (k + 1) 9 [a0] s = fnRes (m9 (F k) [some a0, none] s) := (run_at (ds := ds) (g := g) (d := d9) rfl k [a0] s rfl).trans (by rw [c9]; rfl)
theorem r10 (k : Nat) (a0 : D) (s : Sto) : F (k + 1) 10 [a0] s = fnRes (m10 (F k) [some a0, none] s) := (run_at (ds := ds) (g := g) (d := d10) rfl k [a0] s rfl).trans (by rw [c10]; rfl)
theorem r11 (k : Nat) (a0 : D) (s : Sto) : F (k + 1) 11 [a0] s = fnRes (m11 (F k) [some a0, none] s) := (run_at (ds := ds) (g := g) (d := d11) rfl k [a0] s rfl).trans (by rw [c11]; rfl)
theorem r12 (k : Nat) (a0 a1 a2 : D) (s : Sto) : F (k + 1) 12 [a0, a1, a2] s = fnRes (m12 (F k) [some a0, some a1, some a2, none] s) := (run_at (ds := ds) (g := g) (d := d12) rfl k [a0, a1, a2] s rfl).trans (by rw [c12]; rfl)
theorem r13 (k : Nat) (a0 : D) (s : Sto) : F (k + 1) 13 [a0] s = fnRes (m13 (F k) [some a0] s) := (run_at (ds := ds) (g := g) (d := d13) rfl k [a0] s rfl).trans (by rw [c13]; rfl)
theorem r14 (k : Nat) (a0 : D) (s : Sto) : F (k + 1) 14 [a0] s = fnRes (m14 (F k) [some a0] s) := (run_at (ds := ds) (g := g) (d := d14) rfl k [a0] s rfl).trans (by rw [c14]; rfl)
theorem r15 (k : Nat) (a0 : D) (s : Sto) : F (k + 1) 15 [a0] s = fnRes (m15 (F k) [some a0, none, none] s) := (run_at (ds := ds) (g := g) (d := d15) rfl k [a0] s rfl).trans (by rw [c15]; rfl)
theorem r16 (k : Nat) (a0 : D) (s : Sto) : F (k + 1) 16 [a0] s = fnRes (m16 (F k) [some a0] s) := (run_at (ds := ds) (g := g) (d := d16) rfl k [a0] s rfl).trans (by rw [c16]; rfl)
theorem r17 (k : Nat) (a0 : D) (s : Sto) : F (k + 1) 17 [a0] s = fnRes (m17 (F k) [some a0] s) := (run_at (ds := ds) (g := g) (d := d17) rfl k [a0] s rfl).trans (by rw [c17]; rfl)
theorem r18 (k : Nat) (a0 : D) (s : Sto) : F (k + 1) 18 [a0] s = fnRes (m18 (F k) [some a0] s) := (run_at (ds := ds) (g := g) (d := d18) rfl k [a0] s rfl).trans (by rw [c18]; rfl)
theorem r19 (k : Nat) (a0 : D) (s : Sto) : F (k + 1) 19 [a0] s = fnRes (m19 (F k) [some a0] s) := (run_at (ds := ds) (g := g) (d := d19) rfl k [a0] s rfl).trans (by rw [c19]; rfl)
theorem r20 (k : Nat) (a0 : D) (s : Sto) : F (k + 1) 20 [a0] s = fnRes (m20 (F k) [some a0] s) := (run_at (ds := ds) (g := g) (d := d20) rfl k [a0] s rfl).trans (by rw [c20]; rfl)
theorem r21 (k : Nat) (a0 : D) (s : Sto) : F (k + 1) 21 [a0] s = fnRes (m21 (F k) [some a0] s) := (run_at (ds := ds) (g := g) (d := d21) rfl k [a0] s rfl).trans (by rw [c21]; rfl)
theorem r22 (k : Nat) (a0 a1 a2 : D) (s : Sto) : F (k + 1) 22 [a0, a1, a2] s = fnRes (m22 (F k) [some a0, some a1, some a2] s) := (run_at (ds := ds) (g := g) (d := d22) rfl k [a0, a1, a2] s rfl).trans (by rw [c22]; rfl)
theorem r23 (k : Nat) (a0 : D) (s : Sto) : F (k + 1) 23 [a0] s = fnRes (m23 (F k) [some a0] s) := (run_at (ds := ds) (g := g) (d := d23) rfl k [a0] s rfl).trans (by rw [c23]; rfl)
theorem r24 (k : Nat) (a0 : D) (s : Sto) : F (k + 1) 24 [a0] s = fnRes (m24 (F k) [some a0] s) := (run_at (ds := ds) (g := g) (d := d24) rfl k [a0] s rfl).trans (by rw [c24]; rfl)
theorem r25 (k : Nat) (a0 : D) (s : Sto) : F (k + 1) 25 [a0] s = fnRes (m25 (F k) [some a0] s) := (run_at (ds := ds) (g := g) (d := d25) rfl k [a0] s rfl).trans (by rw [c25]; rfl)
theorem r26 (k : Nat) (a0 : D) (s : Sto) : F (k + 1) 26 [a0] s = fnRes (m26 (F k) [some a0] s) := (run_at (ds := ds) (g := g) (d := d26) rfl k [a0] s rfl).trans (by rw [c26]; rfl)
theorem r27 (k : Nat) (a0 a1 : D) (s : Sto) : F (k + 1) 27 [a0, a1] s = fnRes (m27 (F k) [some a0, some a1, none, none, none, none] s) := (run_at (ds := ds) (g := g) (d := d27) rfl k [a0, a1] s rfl).trans (by rw [c27]; rfl)
theorem r28 (k : Nat) (a0 a1 : D) (s : Sto) : F (k + 1) 28 [a0, a1] s = fnRes (m28 (F k) [some a0, some a1] s) := (run_at (ds := ds) (g := g) (d := d28) rfl k [a0, a1] s rfl).trans (by rw [c28]; rfl)
theorem r29 (k : Nat) (a0 : D) (s : Sto) : F (k + 1) 29 [a0] s = fnRes (m29 (F k) [some a0] s) := (run_at (ds := ds) (g := g) (d := d29) rfl k [a0] s rfl).trans (by rw [c29]; rfl)
theorem r30 (k : Nat) (a0 a1 : D) (s : Sto) : F (k + 1) 30 [a0, a1] s = fnRes (m30 (F k) [some a0, some a1] s) := (run_at (ds := ds) (g := g) (d := d30) rfl k [a0, a1] s rfl).trans (by rw [c30]; rfl)
theorem r31 (k : Nat) (a0 a1 a2 a3 : D) (s : Sto) : F (k + 1) 31 [a0, a1, a2, a3] s = fnRes (m31 (F k) [some a0, some a1, some a2, some a3, none, none, none] s) := (run_at (ds := ds) (g := g) (d := d31) rfl k [a0, a1, a2, a3] s rfl).trans (by rw [c31]; rfl)
theorem r32 (k : Nat) (a0 : D) (s : Sto) : F (k + 1) 32 [a0] s = fnRes (m32 (F k) [some a0, none] s) := (run_at (ds := ds) (g := g) (d := d32) rfl k [a0] s rfl).trans (by rw [c32]; rfl)
theorem r33 (k : Nat) (a0 : D) (s : Sto) : F (k + 1) 33 [a0] s = fnRes (m33 (F k) [some a0] s) := (run_at (ds := ds) (g := g) (d := d33) rfl k [a0] s rfl).trans (by rw [c33]; rfl)
theorem r34 (k : Nat) (a0 : D) (s : Sto) : F (k + 1) 34 [a0] s = fnRes (m34 (F k) [some a0, none] s) := (run_at (ds := ds) (g := g) (d := d34) rfl k [a0] s rfl).trans (by rw [c34]; rfl)
theorem r35 (k : Nat) (a0 a1 : D) (s : Sto) : F (k + 1) 35 [a0, a1] s = fnRes (m35 (F k) [some a0, some a1, none, none, none] s) := (run_at (ds := ds) (g := g) (d := d35) rfl k [a0, a1] s rfl).trans (by rw [c35]; rfl)
theorem r36 (k : Nat) (a0 a1 a2 : D) (s : Sto) : F (k + 1) 36 [a0, a1, a2] s = fnRes (m36 (F k) [some a0, some a1, some a2, none, none, none] s) := (run_at (ds := ds) (g := g) (d := d36) rfl k [a0, a1, a2] s rfl).trans (by rw [c36]; rfl)
theorem r37 (k : Nat) (a0 : D) (s : Sto) : F (k + 1) 37 [a0] s = fnRes (m37 (F k) [some a0, none, none, none, none, none, none, none, none] s) := (run_at (ds := ds) (g := g) (d := d37) rfl k [a0] s rfl).trans (by rw [c37]; rfl)
end K01
set_option Elab.async false
set_option linter.all false
set_option maxRecDepth 100000
set_option maxHeartbeats 4000000
/-! k01, the plain side: names. -/
namespace K01
open PySem LG
theorem pick_ok (k : Nat) {ns : List Int} {a b K many : Nat} {s : Sto} (B : Box ns a b K s) (hK : K < 1000000) (hm : 1 ≤ many) (hm2 : many ≤ 100000) :
    ∃ (v : Nat) (s' : Sto), F (k + 1) 27 [.ref b, .int many] s = .ok (.int v) s' ∧ v < many ∧ Box ns a b (K + 1) s' ∧ Chg b s s' := by
  obtain ⟨v, s', e, r⟩ := pick_run (p1 := 40692) (p2 := 11) (by omega) B hK hm hm2
  exact ⟨v, s', (r27 k _ _ s).trans e, r⟩
theorem anew_ok (n k : Nat) (h : n < k) (d : D) (s : Sto) (p : PyData) (hp : toPD s n d = some p) (hw : p.weight ≤ LIM) : ∃ d' s', F k 1 [d] s = .ok d' s' ∧ Ext s s' ∧ toPD s' n d' = some p :=
  anew_gen (F := F) (j := 1) (sub := subT tab) r1 n k h d s p hp hw
/-! ### names -/
def signs : List Cs := [[112], [122], [97], [65], [], [95], [49], [112, 112]]
def tails : List Cs := [[], [], [49], [57, 57], [49, 48, 48], [48], [48, 55], [49, 32], [120]]
def words : List Cs := [113, 49, 50] :: [80] :: [112, 48] :: [112, 49, 48, 48] :: signs.flatMap fun a => tails.map fun b => a ++ b
def nmB (w : Cs) : Bool := match F 1 2 [.str w] [] with
  | .ok (.bl b) _ => b
  | _ => false
theorem of_all {P : Cs → Prop} : ∀ (l : List Cs), l.foldr (fun w q => P w ∧ q) True → ∀ w ∈ l, P w
  | [], _, w, h => by cases h
  | x :: l, h, w, hw => by
    rcases List.mem_cons.mp hw with rfl | hw
    · exact h.1
    · exact of_all l h.2 w hw
theorem nm_ok (k : Nat) (s : Sto) : ∀ w ∈ words, F (k + 1) 2 [.str w] s = .ok (.bl (nmB w)) s := fun w hw => by
  refine of_all (P := fun w => F (k + 1) 2 [.str w] s = .ok (.bl (nmB w)) s) words ?_ w hw
  simp only [r2]
  show _ ∧ _
  repeat' constructor
  all_goals kernel_rfl
end K01
set_option Elab.async false
set_option linter.all false
set_option maxRecDepth 100000
set_option maxHeartbeats 4000000
namespace K01
open PySem LG
theorem toPD_str (s : Sto) (n : Nat) {x : Cs} (h : okC x = true) : toPD s n (.str x) = some (pS x) := by
  unfold okC at h
  cases n <;> (unfold toPD; rw [if_pos h])
theorem eqv_str (a b : Cs) : PyData.eqv (pS a) (pS b) = decide (a = b) := by
  simp only [PyData.eqv]
  by_cases h : a = b
  · subst h; simp
  · simp [h]
theorem inO_strs (s : Sto) {x : Cs} (hx : okC x = true) : ∀ (l : List Cs), (∀ c ∈ l, okC c = true) → inO s (.str x) (l.map D.str) = some (l.any fun c => decide (c = x)) := fun l hl => by
  unfold inO
  rw [toPD_str s 60 hx]
  have : allO (toPD s 59) (l.map D.str) = some (l.map pS) := by
    have q := allO_map (f := toPD s 59) (g := fun d => match d with | .str c => pS c | _ => .none) (xs := l.map D.str) (fun d hd => by
      obtain ⟨c, hc, rfl⟩ := List.mem_map.mp hd
      exact toPD_str s 59 (hl c hc))
    rw [List.map_map] at q
    exact q
  rw [this]
  simp only
  rw [List.any_map]
  congr 1
  congr 1
  funext c
  exact eqv_str c x
def nums : List Cs := (List.range 99).map fun i => digits 20 (i + 1) []
theorem nums_ok : ∀ c ∈ ([] : Cs) :: nums, okC c = true := by
  have : (([] : Cs) :: nums).all okC = true := by decide +kernel
  exact fun c hc => List.all_eq_true.mp this c hc
theorem lc_nums (f : Fr) (s : Sto) (h : f.length = 2) (h0 : f[1]? = some none) : eLc [1] (iRng2 (eC (.int 1)) (eC (.int 100))) (gVar 1) tTrue (eFn bStr (aCons (eVar 1) aNil)) f s = .ok (.ref s.length) (s ++ [.lst (nums.map D.str)]) := by
  obtain ⟨s', ys, e, rfl, rfl⟩ := eLc_run (own := [1]) (it := iRng2 (eC (.int 1)) (eC (.int 100))) (gx := gVar 1) (t := tTrue) (e := eFn bStr (aCons (eVar 1) aNil)) (f := f) (f0 := f) (s := s) (s1 := s) (x := .rng 1 1 99) (rngL 1 99)
    (fun i s' acc => s' = s ∧ acc = (List.range i).map fun i => D.str (digits 20 (i + 1) [])) rfl (by
      show f.set 1 none = f
      match f, h, h0 with
      | [a, b], _, h0 => simp at h0; rw [h0]; rfl) (fun i s' acc _ => rng_next s' 1 99 i)
    (fun i d s1 acc hx hp => by
      obtain ⟨hi, rfl⟩ := rngL_get hx
      obtain ⟨rfl, rfl⟩ := hp
      refine ⟨f.set 1 (some (.int (1 + (i : Int)))), rfl, .inr ⟨s1, .str (digits 20 (i + 1) []), s1, rfl, ?_, ?_, rfl, ?_⟩⟩
      · refine (eFn1 (eVar_ok (d := .int (1 + (i : Int))) (by rw [List.getElem?_set_self (by omega)]))).trans ?_
        unfold bStr
        simp only
        rw [if_pos (by omega)]
        have : (1 + (i : Int)).toNat = i + 1 := by omega
        rw [this]
      · rw [List.length_map, List.length_range]; omega
      · rw [List.range_succ]; simp) ⟨rfl, rfl⟩ (by rw [rngL_len]; omega)
  rw [rngL_len] at e
  rw [e]
  unfold nums
  rw [List.map_map]
  rfl
/-- the law's own look at a text -/
def lnm (w : Cs) : Bool := match w with
  | [] => false
  | c :: r => decide (97 ≤ c) && decide (c ≤ 122) && ((([] : Cs) :: nums).any fun x => decide (x = r))
theorem lnm_cons (c : Nat) (r : Cs) : lnm (c :: r) = (decide (97 ≤ c) && decide (c ≤ 122) && ((([] : Cs) :: nums).any fun x => decide (x = r))) := rfl
theorem lnm_nm : ∀ w ∈ words, lnm w = nmB w ∧ okC w = true := by
  have : (words.all fun w => (lnm w == nmB w) && okC w) = true := by decide +kernel
  intro w hw
  have q := List.all_eq_true.mp this w hw
  rw [Bool.and_eq_true, beq_iff_eq] at q
  exact q
theorem ltL_one (a b : Nat) (r : Cs) : ltL [a] (b :: r) = (decide (a < b) || (a == b && !r.isEmpty)) := by
  cases r <;> simp [ltL]
theorem lawnm_gen (k : Nat) (s : Sto) (w : Cs) (hw : okC w = true) (hl : w.length ≤ 1000) : ∃ s', F (k + 1) 32 [.str w] s = .ok (.bl (lnm w)) s' ∧ Ext s s' := by
  rw [r32]
  unfold m32
  cases w with
  | nil => exact ⟨s, by kernel_rfl, Ext.refl s⟩
  | cons c r =>
    have hlim : (c :: r).length ≤ LIM := by show _ ≤ 16777216; omega
    have h1 : tVal (eBin cmpEq (eFn bLen (aCons (eVar 0) aNil)) (eC (.int 0))) [some (.str (c :: r)), none] s = .ok false s := by
      refine tVal_b ((eBin_ok ((eFn1 (eVar_ok rfl)).trans (by unfold bLen lenO; simp only; rw [if_pos hlim])) rfl).trans ?_)
      show (match eqO s (.int ((c :: r).length : Nat)) (.int 0) with | some k => Res.ok (D.bl k) s | none => .bad) = _
      rw [eqO_int, decide_eq_false (by simp; omega)]
    have h0 : tNot (tVal (eIs (subT tab) .str (eVar 0))) [some (.str (c :: r)), none] s = .ok false s := tNot_ok (b := true) (tVal_b (by rfl))
    have hix : eBin idx (eVar 0) (eC (.int 0)) [some (.str (c :: r)), none] s = .ok (.str [c]) s := by
      refine (eBin_ok (eVar_ok rfl) rfl).trans ?_
      unfold idx
      simp only
      rw [if_pos hlim, show LG.atI (c :: r) (0 : Int) = some c from atI_nat (i := 0) rfl]
    have h2 : eChain cmpLe cmpLe (eC (.str [97])) (eBin idx (eVar 0) (eC (.int 0))) (eC (.str [122])) [some (.str (c :: r)), none] s = .ok (.bl (decide (97 ≤ c) && decide (c ≤ 122))) s := by
      have g1 : cmpLe (.str [97]) (.str [c]) s = .ok (.bl (decide (97 ≤ c))) s := by
        show Res.ok (D.bl (!ltL [c] [97])) s = _
        rw [ltL_one]
        by_cases z : 97 ≤ c
        · rw [decide_eq_true z, decide_eq_false (by omega)]; simp
        · rw [decide_eq_false z, decide_eq_true (by omega)]; simp
      have g2 : cmpLe (.str [c]) (.str [122]) s = .ok (.bl (decide (c ≤ 122))) s := by
        show Res.ok (D.bl (!ltL [122] [c])) s = _
        rw [ltL_one]
        by_cases z : c ≤ 122
        · rw [decide_eq_true z, decide_eq_false (by omega)]; simp
        · rw [decide_eq_false z, decide_eq_true (by omega)]; simp
      unfold eChain LG.bnd
      simp only [eC, hix, g1, blM]
      by_cases z : 97 ≤ c
      · rw [decide_eq_true z]; simp only [if_true, g2, Bool.true_and]
      · rw [decide_eq_false z]; rfl
    by_cases z : (decide (97 ≤ c) && decide (c ≤ 122)) = true
    · rw [z] at h2
      refine ⟨((s ++ [MO.lst [.str []]]) ++ [.lst (nums.map D.str)]) ++ [.lst ((([] : Cs) :: nums).map D.str)], ?_, ((Ext.push _ _).trans (Ext.push _ _)).trans (Ext.push _ _)⟩
      have lst : eBin opAdd (eLst (aCons (eC (.str [])) aNil)) (eLc [1] (iRng2 (eC (.int 1)) (eC (.int 100))) (gVar 1) tTrue (eFn bStr (aCons (eVar 1) aNil))) [some (.str (c :: r)), none] s = .ok (.ref ((s ++ [MO.lst [.str []]]) ++ [MO.lst (nums.map D.str)]).length) (((s ++ [MO.lst [.str []]]) ++ [.lst (nums.map D.str)]) ++ [.lst ((([] : Cs) :: nums).map D.str)]) := by
        refine (eBin_ok (eLst_ok (aCons_ok (s1 := s) rfl aNil_ok) (by show (1 : Nat) ≤ 16777216; omega)) (lc_nums _ _ rfl rfl)).trans ?_
        unfold opAdd
        have e1 : ((s ++ [MO.lst [.str []]]) ++ [MO.lst (nums.map D.str)])[s.length]? = some (.lst [.str []]) := (Ext.push _ _).get (get_new _ _)
        have e2 := get_new (s ++ [MO.lst [.str []]]) (.lst (nums.map D.str))
        simp only [e1, e2]
        have hn : (nums.map D.str).length = 99 := by unfold nums; simp
        rw [if_pos (by rw [hn]; show 1 + 99 ≤ 16777216; omega)]
        rfl
      have slc : eSlc (eVar 0) (oSome (eC (.int 1))) oNone [some (.str (c :: r)), none] s = .ok (.str r) s := by
        have : eSlc (eVar 0) (oSome (eC (.int 1))) oNone [some (.str (c :: r)), none] s = (if (c :: r).length ≤ LIM then .ok (.str (LG.cut (c :: r) (some 1) none)) s else .bad) := rfl
        rw [this, if_pos hlim]
        unfold LG.cut LG.sIx
        show Res.ok (D.str (((c :: r).drop (if (1 : Int) < 0 then ((1 : Int) + ((c :: r).length : Int)).toNat else min (1 : Int).toNat (c :: r).length)).take ((c :: r).length - (if (1 : Int) < 0 then ((1 : Int) + ((c :: r).length : Int)).toNat else min (1 : Int).toNat (c :: r).length)))) s = _
        rw [if_neg (by omega)]
        have : min (1 : Int).toNat (c :: r).length = 1 := by simp
        rw [this]
        simp
      have hr : okC r = true := by
        unfold okC at hw ⊢
        rw [List.all_cons, Bool.and_eq_true] at hw
        exact hw.2
      refine fnRes_ret ((sSeq_n (sIf_skip ((tOr_f h0).trans ((tOr_f h1).trans (tNot_ok (tVal_b h2)))))).trans (sRet_ok ((eBin_ok slc lst).trans ?_)))
      unfold cmpIn memO
      simp only [get_new]
      rw [inO_strs _ hr _ nums_ok]
      show Res.ok (D.bl _) _ = Res.ok (D.bl (lnm (c :: r))) _
      rw [lnm_cons, z, Bool.true_and]
    · rw [Bool.not_eq_true] at z
      rw [z] at h2
      refine ⟨s, ?_, Ext.refl s⟩
      have : lnm (c :: r) = false := by rw [lnm_cons, z, Bool.false_and]
      rw [this]
      exact fnRes_ret (sSeq_r ((sIf_t ((tOr_f h0).trans ((tOr_f h1).trans (tNot_ok (tVal_b h2))))).trans (sRet_ok rfl)))
theorem lawnm_ok (k : Nat) (s : Sto) (w : Cs) (hw : w ∈ words) : ∃ s', F (k + 1) 32 [.str w] s = .ok (.bl (nmB w)) s' ∧ Ext s s' := by
  have q := lnm_nm w hw
  have hl : w.length ≤ 1000 := by
    have : (words.all fun w => decide (w.length ≤ 1000)) = true := by decide +kernel
    simpa using List.all_eq_true.mp this w hw
  obtain ⟨s', e, x⟩ := lawnm_gen k s w q.2 hl
  exact ⟨s', by rw [e, q.1], x⟩
end K01
set_option Elab.async false
set_option linter.all false
set_option maxRecDepth 100000
set_option maxHeartbeats 4000000
namespace K01
open PySem LG
/-! ### sayings -/
abbrev sLet : Cs := [108, 101, 116, 116, 101, 114]
abbrev sTru : Cs := [116, 114, 117, 101]
abbrev sFal : Cs := [102, 97, 108, 115, 101]
abbrev sAndW : Cs := [97, 110, 100]
abbrev sOrW : Cs := [111, 114]
abbrev sIfW : Cs := [105, 102]
abbrev IsW (o : Cs) : Prop := o = sAndW ∨ o = sOrW ∨ o = sIfW
inductive Say : Nat → D → Prop
  | t (n : Nat) : Say n (.tup [.str sTru])
  | f (n : Nat) : Say n (.tup [.str sFal])
  | l (n : Nat) {w : Cs} (hw : w = [112] ∨ w = [113, 49, 50]) : Say n (.tup [.str sLet, .str w])
  | n {n : Nat} {o : Cs} {a b : D} (ho : IsW o) (ha : Say n a) (hb : Say n b) : Say (n + 1) (.tup [.str o, a, b])
inductive Bad (s : Sto) : Nat → D → Prop
  | non (n : Nat) : Bad s n .non
  | int (n : Nat) : Bad s n (.int 0)
  | bl (n : Nat) : Bad s n (.bl true)
  | str (n : Nat) : Bad s n (.str sTru)
  | lst (n : Nat) {a : Nat} {xs : List D} {ps : List PyData} (h : s[a]? = some (.lst xs)) (hb : a ≠ 1) (hp : ∀ t, allO (toPD t 5) xs = some ps) (hq : SmL ps 400) : Bad s n (.ref a)
  | nil (n : Nat) : Bad s n (.tup [])
  | l1 (n : Nat) : Bad s n (.tup [.str sLet])
  | lw (n : Nat) {w : Cs} (hw : w = [80] ∨ w = [112, 48] ∨ w = [112, 49, 48, 48]) : Bad s n (.tup [.str sLet, .str w])
  | t2 (n : Nat) : Bad s n (.tup [.str sTru, .tup []])
  | w2 {n : Nat} {o : Cs} {d : D} (ho : o = [110, 111, 116] ∨ o = sAndW) (hd : Say n d) : Bad s n (.tup [.str o, d])
  | i4 {n : Nat} {a : D} (ha : Say n a) : Bad s n (.tup [.str sIfW, a, a, a])
  | up {n : Nat} {a : D} (ha : Say n a) : Bad s n (.tup [.str [73, 70], a, a])
  | nl {n : Nat} {o : Cs} {a b : D} (ho : IsW o) (ha : Bad s n a) (hb : Say n b) : Bad s (n + 1) (.tup [.str o, a, b])
  | nr {n : Nat} {o : Cs} {a b : D} (ho : IsW o) (ha : Say n a) (hb : Bad s n b) : Bad s (n + 1) (.tup [.str o, a, b])
theorem p_w : ∀ {w : Cs}, (w = [112] ∨ w = [113, 49, 50]) → w ∈ words ∧ nmB w = true := by
  intro w h
  rcases h with rfl | rfl
  · exact ⟨by decide +kernel, by kernel_rfl⟩
  · exact ⟨by decide +kernel, by kernel_rfl⟩
theorem b_w : ∀ {w : Cs}, (w = [80] ∨ w = [112, 48] ∨ w = [112, 49, 48, 48]) → w ∈ words ∧ nmB w = false := by
  intro w h
  rcases h with rfl | rfl | rfl
  · exact ⟨by decide +kernel, by kernel_rfl⟩
  · exact ⟨by decide +kernel, by kernel_rfl⟩
  · exact ⟨by decide +kernel, by kernel_rfl⟩
theorem inner_n (k : Nat) (s : Sto) {o : Cs} {a b : D} (ho : IsW o) : F (k + 1) 3 [.tup [.str o, a, b]] s = .ok (.tup [a, b]) s := by
  rw [r3]
  rcases ho with rfl | rfl | rfl <;> kernel_rfl
/-- is_saying_in of a node -/
theorem is_n (k : Nat) {s s1 s2 : Sto} {o : Cs} {a b : D} {x y : Bool} (ho : IsW o) (ha : F (k + 1) 4 [a] s = .ok (.bl x) s1) (hb : F (k + 1) 4 [b] s1 = .ok (.bl y) s2) : F (k + 2) 4 [.tup [.str o, a, b]] s = .ok (.bl (x && y)) (s2 ++ [.lst [.bl x, .bl y]]) := by
  rw [r4]
  have h3 : eFn bAll (aCons (eLc [1] (iSeq (eCall (F (k + 1)) 3 (aApp (aCons (eVar 0) aNil) aNil))) (gVar 1) tTrue (eCall (F (k + 1)) 4 (aApp (aCons (eVar 1) aNil) aNil))) aNil) [some (.tup [.str o, a, b]), none] s = .ok (.bl (x && y)) (s2 ++ [.lst [.bl x, .bl y]]) := by
    refine (eFn1 (lc_two (s0 := s) (f0 := [some (.tup [.str o, a, b]), none]) (a := a) (b := b) ?_ rfl rfl rfl rfl ((eCall1 (eVar_ok rfl)).trans ha) rfl ((eCall1 (eVar_ok rfl)).trans hb))).trans ?_
    · unfold iSeq LG.bnd
      rw [(eCall1 (eVar_ok rfl)).trans (inner_n k s ho)]
    · unfold bAll lstArg
      simp only [get_new]
      cases x <;> cases y <;> rfl
  unfold m4
  generalize eFn bAll (aCons (eLc [1] (iSeq (eCall (F (k + 1)) 3 (aApp (aCons (eVar 0) aNil) aNil))) (gVar 1) tTrue (eCall (F (k + 1)) 4 (aApp (aCons (eVar 1) aNil) aNil))) aNil) = E at h3 ⊢
  rcases ho with rfl | rfl | rfl
  · exact Eq.trans (b := fnRes (sRet E [some (.tup [.str sAndW, a, b]), none] s)) (by kernel_rfl) (fnRes_ret (sRet_ok h3))
  · exact Eq.trans (b := fnRes (sRet E [some (.tup [.str sOrW, a, b]), none] s)) (by kernel_rfl) (fnRes_ret (sRet_ok h3))
  · exact Eq.trans (b := fnRes (sRet E [some (.tup [.str sIfW, a, b]), none] s)) (by kernel_rfl) (fnRes_ret (sRet_ok h3))
theorem is_l (k : Nat) (s : Sto) {w : Cs} (hw : w ∈ words) : F (k + 2) 4 [.tup [.str sLet, .str w]] s = .ok (.bl (nmB w)) s := by
  rw [r4]
  have e := nm_ok k s w hw
  have h3 : eCall (F (k + 1)) 2 (aApp (aCons (eBin idx (eVar 0) (eC (.int 1))) aNil) aNil) [some (.tup [.str sLet, .str w]), none] s = .ok (.bl (nmB w)) s := (eCall1 (by kernel_rfl)).trans e
  exact fnRes_ret ((sSeq_n (sIf_skip (s' := s) (by kernel_rfl))).trans (sSeq_r ((sIf_t (s' := s) (by kernel_rfl)).trans (sRet_ok ((eAnd_t (x := .bl true) (s' := s) (by kernel_rfl) rfl).trans h3)))))
theorem say_is : ∀ {n : Nat} {d : D}, Say n d → ∀ k, n + 3 ≤ k → ∀ s, ∃ s', F k 4 [d] s = .ok (.bl true) s' ∧ Ext s s' := by
  intro n d h
  induction h with
  | t n => intro k hk s; obtain ⟨j, rfl⟩ : ∃ j, k = j + 1 := ⟨k - 1, by omega⟩; exact ⟨s, by rw [r4]; kernel_rfl, Ext.refl s⟩
  | f n => intro k hk s; obtain ⟨j, rfl⟩ : ∃ j, k = j + 1 := ⟨k - 1, by omega⟩; exact ⟨s, by rw [r4]; kernel_rfl, Ext.refl s⟩
  | l n hw =>
    intro k hk s
    obtain ⟨j, rfl⟩ : ∃ j, k = j + 2 := ⟨k - 2, by omega⟩
    exact ⟨s, by rw [is_l j s (p_w hw).1, (p_w hw).2], Ext.refl s⟩
  | @n n o a b ho ha hb iha ihb =>
    intro k hk s
    obtain ⟨j, rfl⟩ : ∃ j, k = j + 2 := ⟨k - 2, by omega⟩
    obtain ⟨s1, e1, x1⟩ := iha (j + 1) (by omega) s
    obtain ⟨s2, e2, x2⟩ := ihb (j + 1) (by omega) s1
    exact ⟨_, is_n j ho e1 e2, (x1.trans x2).trans (Ext.push _ _)⟩
theorem not_tup (k : Nat) {s : Sto} {d : D} (h : isinst (subT tab) .tuple s d = some false) : F (k + 1) 4 [d] s = .ok (.bl false) s ∧ F (k + 1) 33 [d] s = .ok (.bl false) s := by
  rw [r4, r33]
  exact ⟨fnRes_ret (sSeq_r ((sIf_t (tOr_t (tNot_ok (tVal_b (eIs_ok (eVar_ok rfl) h))))).trans (sRet_ok rfl))), fnRes_ret (sSeq_r ((sIf_t (tOr_t (tNot_ok (tVal_b (eIs_ok (eVar_ok rfl) h))))).trans (sRet_ok rfl)))⟩
theorem bad_is {s0 : Sto} : ∀ {n : Nat} {d : D}, Bad s0 n d → ∀ k, n + 3 ≤ k → ∀ s, Ext s0 s → ∃ s', F k 4 [d] s = .ok (.bl false) s' ∧ Ext s s' := by
  intro n d h
  induction h with
  | non n => intro k hk s x; obtain ⟨j, rfl⟩ : ∃ j, k = j + 1 := ⟨k - 1, by omega⟩; exact ⟨s, (not_tup j rfl).1, Ext.refl s⟩
  | int n => intro k hk s x; obtain ⟨j, rfl⟩ : ∃ j, k = j + 1 := ⟨k - 1, by omega⟩; exact ⟨s, (not_tup j rfl).1, Ext.refl s⟩
  | bl n => intro k hk s x; obtain ⟨j, rfl⟩ : ∃ j, k = j + 1 := ⟨k - 1, by omega⟩; exact ⟨s, (not_tup j rfl).1, Ext.refl s⟩
  | str n => intro k hk s x; obtain ⟨j, rfl⟩ : ∃ j, k = j + 1 := ⟨k - 1, by omega⟩; exact ⟨s, (not_tup j rfl).1, Ext.refl s⟩
  | lst n h _ _ _ => intro k hk s x; obtain ⟨j, rfl⟩ : ∃ j, k = j + 1 := ⟨k - 1, by omega⟩; exact ⟨s, (not_tup j (by unfold isinst tyD; simp only [x.get h]; rfl)).1, Ext.refl s⟩
  | nil n => intro k hk s x; obtain ⟨j, rfl⟩ : ∃ j, k = j + 1 := ⟨k - 1, by omega⟩; exact ⟨s, by rw [r4]; kernel_rfl, Ext.refl s⟩
  | l1 n => intro k hk s x; obtain ⟨j, rfl⟩ : ∃ j, k = j + 1 := ⟨k - 1, by omega⟩; exact ⟨s, by rw [r4]; kernel_rfl, Ext.refl s⟩
  | lw n hw =>
    intro k hk s x
    obtain ⟨j, rfl⟩ : ∃ j, k = j + 2 := ⟨k - 2, by omega⟩
    exact ⟨s, by rw [is_l j s (b_w hw).1, (b_w hw).2], Ext.refl s⟩
  | t2 n => intro k hk s x; obtain ⟨j, rfl⟩ : ∃ j, k = j + 1 := ⟨k - 1, by omega⟩; exact ⟨s, by rw [r4]; kernel_rfl, Ext.refl s⟩
  | w2 ho hd => intro k hk s x; obtain ⟨j, rfl⟩ : ∃ j, k = j + 1 := ⟨k - 1, by omega⟩; exact ⟨s, by rw [r4]; rcases ho with rfl | rfl <;> kernel_rfl, Ext.refl s⟩
  | i4 ha => intro k hk s x; obtain ⟨j, rfl⟩ : ∃ j, k = j + 1 := ⟨k - 1, by omega⟩; exact ⟨s, by rw [r4]; kernel_rfl, Ext.refl s⟩
  | up ha => intro k hk s x; obtain ⟨j, rfl⟩ : ∃ j, k = j + 1 := ⟨k - 1, by omega⟩; exact ⟨s, by rw [r4]; kernel_rfl, Ext.refl s⟩
  | @nl n o a b ho ha hb iha =>
    intro k hk s x
    obtain ⟨j, rfl⟩ : ∃ j, k = j + 2 := ⟨k - 2, by omega⟩
    obtain ⟨s1, e1, x1⟩ := iha (j + 1) (by omega) s x
    obtain ⟨s2, e2, x2⟩ := say_is hb (j + 1) (by omega) s1
    exact ⟨_, is_n j ho e1 e2, (x1.trans x2).trans (Ext.push _ _)⟩
  | @nr n o a b ho ha hb ihb =>
    intro k hk s x
    obtain ⟨j, rfl⟩ : ∃ j, k = j + 2 := ⟨k - 2, by omega⟩
    obtain ⟨s1, e1, x1⟩ := say_is ha (j + 1) (by omega) s
    obtain ⟨s2, e2, x2⟩ := ihb (j + 1) (by omega) s1 (x.trans x1)
    exact ⟨_, is_n j ho e1 e2, (x1.trans x2).trans (Ext.push _ _)⟩
/-! ### _law_is_saying -/
theorem lis_n (k : Nat) {s s' : Sto} {o : Cs} {a b : D} {x : Bool} (ho : IsW o) (h : eAnd (eCall (F (k + 1)) 33 (aApp (aCons (eBin idx (eVar 0) (eC (.int 1))) aNil) aNil)) (eCall (F (k + 1)) 33 (aApp (aCons (eBin idx (eVar 0) (eC (.int 2))) aNil) aNil)) [some (.tup [.str o, a, b])] s = .ok (.bl x) s') : F (k + 2) 33 [.tup [.str o, a, b]] s = .ok (.bl x) s' := by
  rw [r33]
  unfold m33
  generalize eAnd (eCall (F (k + 1)) 33 (aApp (aCons (eBin idx (eVar 0) (eC (.int 1))) aNil) aNil)) (eCall (F (k + 1)) 33 (aApp (aCons (eBin idx (eVar 0) (eC (.int 2))) aNil) aNil)) = E at h ⊢
  rcases ho with rfl | rfl | rfl
  · exact Eq.trans (b := fnRes (sRet E [some (.tup [.str sAndW, a, b])] s)) (by kernel_rfl) (fnRes_ret (sRet_ok h))
  · exact Eq.trans (b := fnRes (sRet E [some (.tup [.str sOrW, a, b])] s)) (by kernel_rfl) (fnRes_ret (sRet_ok h))
  · exact Eq.trans (b := fnRes (sRet E [some (.tup [.str sIfW, a, b])] s)) (by kernel_rfl) (fnRes_ret (sRet_ok h))
theorem lis_l (k : Nat) (s : Sto) {w : Cs} (hw : w ∈ words) : ∃ s', F (k + 2) 33 [.tup [.str sLet, .str w]] s = .ok (.bl (nmB w)) s' ∧ Ext s s' := by
  obtain ⟨s', e, x⟩ := lawnm_ok k s w hw
  refine ⟨s', ?_, x⟩
  rw [r33]
  have h3 : eCall (F (k + 1)) 32 (aApp (aCons (eBin idx (eVar 0) (eC (.int 1))) aNil) aNil) [some (.tup [.str sLet, .str w])] s = .ok (.bl (nmB w)) s' := (eCall1 (by kernel_rfl)).trans e
  exact fnRes_ret ((sSeq_n (sIf_skip (s' := s) (by kernel_rfl))).trans ((sSeq_n (sIf_skip (s' := s) (by kernel_rfl))).trans (sSeq_r ((sIf_t (s' := s) (by kernel_rfl)).trans (sRet_ok ((eAnd_t (x := .bl true) (s' := s) (by kernel_rfl) rfl).trans h3))))))
theorem say_lis : ∀ {n : Nat} {d : D}, Say n d → ∀ k, n + 3 ≤ k → ∀ s, ∃ s', F k 33 [d] s = .ok (.bl true) s' ∧ Ext s s' := by
  intro n d h
  induction h with
  | t n => intro k hk s; obtain ⟨j, rfl⟩ : ∃ j, k = j + 1 := ⟨k - 1, by omega⟩; exact ⟨s, by rw [r33]; kernel_rfl, Ext.refl s⟩
  | f n => intro k hk s; obtain ⟨j, rfl⟩ : ∃ j, k = j + 1 := ⟨k - 1, by omega⟩; exact ⟨s, by rw [r33]; kernel_rfl, Ext.refl s⟩
  | l n hw =>
    intro k hk s
    obtain ⟨j, rfl⟩ : ∃ j, k = j + 2 := ⟨k - 2, by omega⟩
    obtain ⟨s', e, x⟩ := lis_l j s (p_w hw).1
    exact ⟨s', by rw [e, (p_w hw).2], x⟩
  | @n n o a b ho ha hb iha ihb =>
    intro k hk s
    obtain ⟨j, rfl⟩ : ∃ j, k = j + 2 := ⟨k - 2, by omega⟩
    obtain ⟨s1, e1, x1⟩ := iha (j + 1) (by omega) s
    obtain ⟨s2, e2, x2⟩ := ihb (j + 1) (by omega) s1
    exact ⟨s2, lis_n j ho ((eAnd_t ((eCall1 (by kernel_rfl)).trans e1) rfl).trans ((eCall1 (by kernel_rfl)).trans e2)), x1.trans x2⟩
theorem bad_lis {s0 : Sto} : ∀ {n : Nat} {d : D}, Bad s0 n d → ∀ k, n + 3 ≤ k → ∀ s, Ext s0 s → ∃ s', F k 33 [d] s = .ok (.bl false) s' ∧ Ext s s' := by
  intro n d h
  induction h with
  | non n => intro k hk s x; obtain ⟨j, rfl⟩ : ∃ j, k = j + 1 := ⟨k - 1, by omega⟩; exact ⟨s, (not_tup j rfl).2, Ext.refl s⟩
  | int n => intro k hk s x; obtain ⟨j, rfl⟩ : ∃ j, k = j + 1 := ⟨k - 1, by omega⟩; exact ⟨s, (not_tup j rfl).2, Ext.refl s⟩
  | bl n => intro k hk s x; obtain ⟨j, rfl⟩ : ∃ j, k = j + 1 := ⟨k - 1, by omega⟩; exact ⟨s, (not_tup j rfl).2, Ext.refl s⟩
  | str n => intro k hk s x; obtain ⟨j, rfl⟩ : ∃ j, k = j + 1 := ⟨k - 1, by omega⟩; exact ⟨s, (not_tup j rfl).2, Ext.refl s⟩
  | lst n h _ _ _ => intro k hk s x; obtain ⟨j, rfl⟩ : ∃ j, k = j + 1 := ⟨k - 1, by omega⟩; exact ⟨s, (not_tup j (by unfold isinst tyD; simp only [x.get h]; rfl)).2, Ext.refl s⟩
  | nil n => intro k hk s x; obtain ⟨j, rfl⟩ : ∃ j, k = j + 1 := ⟨k - 1, by omega⟩; exact ⟨s, by rw [r33]; kernel_rfl, Ext.refl s⟩
  | l1 n => intro k hk s x; obtain ⟨j, rfl⟩ : ∃ j, k = j + 1 := ⟨k - 1, by omega⟩; exact ⟨s, by rw [r33]; kernel_rfl, Ext.refl s⟩
  | lw n hw =>
    intro k hk s x
    obtain ⟨j, rfl⟩ : ∃ j, k = j + 2 := ⟨k - 2, by omega⟩
    obtain ⟨s', e, x'⟩ := lis_l j s (b_w hw).1
    exact ⟨s', by rw [e, (b_w hw).2], x'⟩
  | t2 n => intro k hk s x; obtain ⟨j, rfl⟩ : ∃ j, k = j + 1 := ⟨k - 1, by omega⟩; exact ⟨s, by rw [r33]; kernel_rfl, Ext.refl s⟩
  | w2 ho hd => intro k hk s x; obtain ⟨j, rfl⟩ : ∃ j, k = j + 1 := ⟨k - 1, by omega⟩; exact ⟨s, by rw [r33]; rcases ho with rfl | rfl <;> kernel_rfl, Ext.refl s⟩
  | i4 ha => intro k hk s x; obtain ⟨j, rfl⟩ : ∃ j, k = j + 1 := ⟨k - 1, by omega⟩; exact ⟨s, by rw [r33]; kernel_rfl, Ext.refl s⟩
  | up ha => intro k hk s x; obtain ⟨j, rfl⟩ : ∃ j, k = j + 1 := ⟨k - 1, by omega⟩; exact ⟨s, by rw [r33]; kernel_rfl, Ext.refl s⟩
  | @nl n o a b ho ha hb iha =>
    intro k hk s x
    obtain ⟨j, rfl⟩ : ∃ j, k = j + 2 := ⟨k - 2, by omega⟩
    obtain ⟨s1, e1, x1⟩ := iha (j + 1) (by omega) s x
    exact ⟨s1, lis_n j ho (eAnd_f ((eCall1 (by kernel_rfl)).trans e1) rfl), x1⟩
  | @nr n o a b ho ha hb ihb =>
    intro k hk s x
    obtain ⟨j, rfl⟩ : ∃ j, k = j + 2 := ⟨k - 2, by omega⟩
    obtain ⟨s1, e1, x1⟩ := say_lis ha (j + 1) (by omega) s
    obtain ⟨s2, e2, x2⟩ := ihb (j + 1) (by omega) s1 (x.trans x1)
    exact ⟨s2, lis_n j ho ((eAnd_t ((eCall1 (by kernel_rfl)).trans e1) rfl).trans ((eCall1 (by kernel_rfl)).trans e2)), x1.trans x2⟩
end K01
set_option Elab.async false
set_option linter.all false
set_option maxRecDepth 100000
set_option maxHeartbeats 4000000
namespace K01
open PySem LG
mutual
theorem eqv_self : ∀ p : PyData, okP p = true → PyData.eqv p p = true
  | .none, _ => rfl
  | .bool b, _ => by simp [PyData.eqv]
  | .int i, _ => by simp [PyData.eqv]
  | .str x, _ => by simp [PyData.eqv]
  | .list xs, h => eqv_selfs xs h
  | .tuple xs, h => eqv_selfs xs h
  | .dict _, h => by simp [okP] at h
theorem eqv_selfs : ∀ xs : List PyData, okPs xs = true → PyData.eqvAll xs xs = true
  | [], _ => rfl
  | x :: xs, h => by
    simp only [okPs, Bool.and_eq_true] at h
    show (PyData.eqv x x && PyData.eqvAll xs xs) = true
    rw [eqv_self x h.1, eqv_selfs xs h.2]; rfl
end
theorem eqO_same {s : Sto} {a b : D} {p : PyData} (ha : toPD s 60 a = some p) (hb : toPD s 60 b = some p) : eqO s a b = some true := by
  unfold eqO
  rw [ha, hb]
  simp only [eqv_self p (okP_of 60 s a p ha)]
theorem ne_same {s : Sto} {a b : D} {p : PyData} (ha : toPD s 60 a = some p) (hb : toPD s 60 b = some p) : cmpNe a b s = .ok (.bl false) s := by
  unfold cmpNe
  rw [eqO_same ha hb]
  rfl
theorem eq_same {s : Sto} {a b : D} {p : PyData} (ha : toPD s 60 a = some p) (hb : toPD s 60 b = some p) : cmpEq a b s = .ok (.bl true) s := by
  unfold cmpEq
  rw [eqO_same ha hb]
theorem tup2_pd {s : Sto} {n : Nat} {a b : D} {p q : PyData} (ha : toPD s n a = some p) (hb : toPD s n b = some q) : toPD s (n + 1) (.tup [a, b]) = some (.tuple [p, q]) := tup_pd (by unfold allO; rw [ha]; unfold allO; rw [hb]; rfl)
/-! ### sayings as data -/
def Wt : Nat → Nat
  | 0 => 20
  | n + 1 => 6 + 2 * Wt n
theorem Wt_ge : ∀ n, 20 ≤ Wt n
  | 0 => Nat.le_refl _
  | n + 1 => by have := Wt_ge n; show 20 ≤ 6 + 2 * Wt n; omega
theorem sm_str {x : Cs} {w : Nat} (h1 : okC x = true) (h2 : x.length ≤ w) : Sm (pS x) w := by
  refine ⟨rfl, ?_, ?_⟩
  · show ((x.toArray).toList.all fun c => decide (c < 16 ^ 8)) = true
    refine List.all_eq_true.mpr fun c hc => ?_
    have := List.all_eq_true.mp h1 c (by simpa using hc)
    simp only [decide_eq_true_eq] at this ⊢
    omega
  · show x.toArray.size ≤ w
    simpa using h2
theorem node_pd {s : Sto} {m w v : Nat} {o : Cs} {a b : D} {p q : PyData} (ho : okC o = true) (hl : o.length ≤ 3) (ha : toPD s m a = some p) (hb : toPD s m b = some q) (sa : Sm p w) (sb : Sm q v) : toPD s (m + 1) (.tup [.str o, a, b]) = some (.tuple [pS o, p, q]) ∧ Sm (.tuple [pS o, p, q]) (6 + w + v) :=
  ⟨tup_pd (by unfold allO; rw [toPD_str s m ho]; unfold allO; rw [ha]; unfold allO; rw [hb]; rfl), (Sm.tup (SmL.cons (sm_str ho hl) (SmL.cons sa (SmL.cons sb SmL.nil)))).le (by omega)⟩
theorem w_ok {o : Cs} (h : IsW o) : okC o = true ∧ o.length ≤ 3 := by
  rcases h with rfl | rfl | rfl <;> exact ⟨by decide, by decide⟩
theorem say_pd : ∀ {n : Nat} {d : D}, Say n d → ∃ p, (∀ s m, n + 2 ≤ m → toPD s m d = some p) ∧ Sm p (Wt n) := by
  intro n d h
  have two : ∀ {m n}, n + 2 ≤ m → ∃ j, m = j + 2 := fun {m n} h => ⟨m - 2, by omega⟩
  induction h with
  | t n => exact ⟨.tuple [pS sTru], fun s m h => by obtain ⟨j, rfl⟩ := two h; rfl, (⟨by decide, by decide, by decide⟩ : Sm (.tuple [pS sTru]) 20).le (Wt_ge n)⟩
  | f n => exact ⟨.tuple [pS sFal], fun s m h => by obtain ⟨j, rfl⟩ := two h; rfl, (⟨by decide, by decide, by decide⟩ : Sm (.tuple [pS sFal]) 20).le (Wt_ge n)⟩
  | @l n w hw =>
    refine ⟨.tuple [pS sLet, pS w], fun s m h => ?_, ?_⟩
    · obtain ⟨j, rfl⟩ := two h
      rcases hw with rfl | rfl <;> rfl
    · rcases hw with rfl | rfl
      · exact (⟨by decide, by decide, by decide⟩ : Sm (.tuple [pS sLet, pS [112]]) 20).le (Wt_ge n)
      · exact (⟨by decide, by decide, by decide⟩ : Sm (.tuple [pS sLet, pS [113, 49, 50]]) 20).le (Wt_ge n)
  | @n n o a b ho ha hb iha ihb =>
    obtain ⟨p, p1, p2⟩ := iha
    obtain ⟨q, q1, q2⟩ := ihb
    have hw := w_ok ho
    refine ⟨.tuple [pS o, p, q], fun s m h => ?_, (node_pd (s := []) (m := n + 2) hw.1 hw.2 (p1 [] (n + 2) (Nat.le_refl _)) (q1 [] (n + 2) (Nat.le_refl _)) p2 q2).2.le (by show 6 + Wt n + Wt n ≤ 6 + 2 * Wt n; omega)⟩
    obtain ⟨j, rfl⟩ : ∃ j, m = j + 1 := ⟨m - 1, by omega⟩
    exact (node_pd hw.1 hw.2 (p1 s j (by omega)) (q1 s j (by omega)) p2 q2).1
theorem Say.up {n : Nat} {d : D} (h : Say n d) : Say (n + 1) d := by
  induction h with
  | t n => exact .t _
  | f n => exact .f _
  | l n hw => exact .l _ hw
  | n ho ha hb iha ihb => exact .n ho iha ihb
def WB : Nat → Nat
  | 0 => 600
  | n + 1 => WB n + 2 * Wt (n + 1) + 20
theorem WB_ge : ∀ n, 600 ≤ WB n ∧ 3 * Wt n + 20 ≤ WB n
  | 0 => ⟨Nat.le_refl _, by decide⟩
  | n + 1 => by
    obtain ⟨h1, h2⟩ := WB_ge n
    have e : Wt (n + 1) = 6 + 2 * Wt n := rfl
    constructor
    · show 600 ≤ WB n + 2 * Wt (n + 1) + 20; omega
    · show 3 * Wt (n + 1) + 20 ≤ WB n + 2 * Wt (n + 1) + 20; omega
theorem bad_pd {s : Sto} : ∀ {n : Nat} {d : D}, Bad s n d → ∃ p, toPD s (n + 6) d = some p ∧ Sm p (WB n) := by
  intro n d h
  have G := fun n => (WB_ge n).1
  induction h with
  | non n => exact ⟨.none, rfl, Sm.non.le (Nat.zero_le _)⟩
  | int n => exact ⟨.int 0, rfl, (Sm.int (by omega)).le (by have := G n; omega)⟩
  | bl n => exact ⟨.bool true, rfl, (⟨rfl, rfl, Nat.le_refl _⟩ : Sm (.bool true) 0).le (Nat.zero_le _)⟩
  | str n => exact ⟨pS sTru, rfl, (sm_str (w := 4) (by decide) (by decide)).le (by have := G n; omega)⟩
  | @lst n a xs ps h hb hp hq => exact ⟨.list ps, toPD_le 6 _ _ _ (by omega) (lst_pd h (hp s)), (Sm.list hq).le (by have := G n; omega)⟩
  | nil n => exact ⟨.tuple [], rfl, (Sm.tup SmL.nil).le (Nat.zero_le _)⟩
  | l1 n => exact ⟨.tuple [pS sLet], rfl, (⟨by decide, by decide, by decide⟩ : Sm (.tuple [pS sLet]) 20).le (by have := G n; omega)⟩
  | @lw n w hw =>
    rcases hw with rfl | rfl | rfl
    · exact ⟨.tuple [pS sLet, pS [80]], rfl, (⟨by decide, by decide, by decide⟩ : Sm (.tuple [pS sLet, pS [80]]) 20).le (by have := G n; omega)⟩
    · exact ⟨.tuple [pS sLet, pS [112, 48]], rfl, (⟨by decide, by decide, by decide⟩ : Sm (.tuple [pS sLet, pS [112, 48]]) 20).le (by have := G n; omega)⟩
    · exact ⟨.tuple [pS sLet, pS [112, 49, 48, 48]], rfl, (⟨by decide, by decide, by decide⟩ : Sm (.tuple [pS sLet, pS [112, 49, 48, 48]]) 20).le (by have := G n; omega)⟩
  | t2 n => exact ⟨.tuple [pS sTru, .tuple []], rfl, (⟨by decide, by decide, by decide⟩ : Sm (.tuple [pS sTru, .tuple []]) 20).le (by have := G n; omega)⟩
  | @w2 n o d ho hd =>
    obtain ⟨p, p1, p2⟩ := say_pd hd
    have hw : okC o = true ∧ o.length ≤ 3 := by rcases ho with rfl | rfl <;> exact ⟨by decide, by decide⟩
    exact ⟨_, tup2_pd (toPD_str s (n + 5) hw.1) (p1 s (n + 5) (by omega)), (Sm.tup (SmL.cons (sm_str hw.1 hw.2) (SmL.cons p2 SmL.nil))).le (by have := (WB_ge n).2; omega)⟩
  | @i4 n a ha =>
    obtain ⟨p, p1, p2⟩ := say_pd ha
    have q := p1 s (n + 5) (by omega)
    refine ⟨.tuple [pS sIfW, p, p, p], tup_pd (n := n + 5) ?_, (Sm.tup (SmL.cons (sm_str (w := 2) (by decide) (by decide)) (SmL.cons p2 (SmL.cons p2 (SmL.cons p2 SmL.nil))))).le (by have := (WB_ge n).2; omega)⟩
    unfold allO; rw [toPD_str s (n + 5) (by decide)]; unfold allO; rw [q]; unfold allO; rw [q]; unfold allO; rw [q]; rfl
  | @up n a ha =>
    obtain ⟨p, p1, p2⟩ := say_pd ha
    have q := p1 s (n + 5) (by omega)
    obtain ⟨g1, g2⟩ := node_pd (o := [73, 70]) (by decide) (by decide) q q p2 p2
    exact ⟨_, g1, g2.le (by have := (WB_ge n).2; omega)⟩
  | @nl n o a b ho ha hb iha =>
    obtain ⟨p, p1, p2⟩ := iha
    obtain ⟨q, q1, q2⟩ := say_pd hb
    have hw := w_ok ho
    obtain ⟨g1, g2⟩ := node_pd hw.1 hw.2 p1 (q1 s (n + 6) (by omega)) p2 q2
    have e : Wt (n + 1) = 6 + 2 * Wt n := rfl
    exact ⟨_, g1, g2.le (by show _ ≤ WB n + 2 * Wt (n + 1) + 20; omega)⟩
  | @nr n o a b ho ha hb ihb =>
    obtain ⟨p, p1, p2⟩ := ihb
    obtain ⟨q, q1, q2⟩ := say_pd ha
    have hw := w_ok ho
    obtain ⟨g1, g2⟩ := node_pd hw.1 hw.2 (q1 s (n + 6) (by omega)) p1 q2 p2
    have e : Wt (n + 1) = 6 + 2 * Wt n := rfl
    exact ⟨_, g1, g2.le (by show _ ≤ WB n + 2 * Wt (n + 1) + 20; omega)⟩
/-- a datum that is_saying refuses -/
structure Odd (s : Sto) (d : D) (p : PyData) : Prop where
  is4 : ∀ k s1, 8 ≤ k → Ext s s1 → ∃ s2, F k 4 [d] s1 = .ok (.bl false) s2 ∧ Ext s1 s2
  pd : toPD s 12 d = some p
  sm : Sm p 3000
theorem Odd.ext {s t : Sto} {d : D} {p : PyData} (h : Odd s d p) (x : Ext s t) : Odd t d p := ⟨fun k s1 hk x1 => h.is4 k s1 hk (x.trans x1), toPD_ext x _ _ _ h.pd, h.sm⟩
theorem odd_of {s : Sto} {n : Nat} {d : D} (h : Bad s n d) (hn : n ≤ 4) : ∃ p, Odd s d p := by
  obtain ⟨p, p1, p2⟩ := bad_pd h
  have hw : WB n ≤ 3000 := by
    match n, hn with
    | 0, _ => decide
    | 1, _ => decide
    | 2, _ => decide
    | 3, _ => decide
    | 4, _ => decide
  exact ⟨p, fun k s1 hk x => bad_is h k (by omega) s1 x, toPD_le _ 12 _ _ (by omega) p1, p2.le hw⟩
/-! ### need_.. -/
theorem lim_of {p : PyData} {w : Nat} (h : Sm p w) (hw : w ≤ 10000) : p.weight ≤ LIM := by have := h.wt; show p.weight ≤ 16777216; omega
theorem nsay_ok (k : Nat) {n : Nat} {d : D} (h : Say n d) (hk : n + 3 ≤ k) (s : Sto) : ∃ s', F (k + 1) 14 [d] s = .ok .non s' ∧ Ext s s' := by
  obtain ⟨s', e, x⟩ := say_is h k hk s
  exact ⟨s', by rw [r14]; exact fnRes_next (sIf_skip (tNot_ok (tVal_b ((eCall1 (eVar_ok rfl)).trans e)))), x⟩
theorem nsay_odd (k : Nat) (hk : 13 ≤ k) {s : Sto} {d : D} {p : PyData} (h : Odd s d p) : ∃ v s', F (k + 1) 14 [d] s = .err 2 v s' ∧ Ext s s' ∧ toPD s' 12 v = some p := by
  obtain ⟨s1, e1, x1⟩ := h.is4 k s (by omega) (Ext.refl s)
  obtain ⟨v, s2, q1, q2, q3⟩ := anew_ok 12 k (by omega) d s1 p (toPD_ext x1 _ _ _ h.pd) (lim_of h.sm (by omega))
  exact ⟨v, s2, by rw [r14]; exact fnRes_err ((sIf_t (tNot_ok (tVal_b ((eCall1 (eVar_ok rfl)).trans e1)))).trans (sRaise_ok ((eCall1 (eVar_ok rfl)).trans q1))), x1.trans q2, q3⟩
/-- a datum that is_name refuses -/
structure NoNm (s : Sto) (d : D) (p : PyData) : Prop where
  is2 : ∀ k s1, Ext s s1 → F (k + 1) 2 [d] s1 = .ok (.bl false) s1
  l32 : ∀ k s1, Ext s s1 → ∃ s2, F (k + 1) 32 [d] s1 = .ok (.bl false) s2 ∧ Ext s1 s2
  pd : toPD s 12 d = some p
  sm : Sm p 3000
theorem nname_ok (k : Nat) {w : Cs} (h : w ∈ words) (hw : nmB w = true) (s : Sto) : F (k + 2) 13 [.str w] s = .ok .non s := by
  rw [r13]
  exact fnRes_next (sIf_skip (tNot_ok (b := true) (tVal_b ((eCall1 (eVar_ok rfl)).trans (by rw [nm_ok k s w h, hw])))))
theorem nname_no (k : Nat) (hk : 13 ≤ k) {s : Sto} {d : D} {p : PyData} (h : NoNm s d p) : ∃ v s', F (k + 1) 13 [d] s = .err 1 v s' ∧ Ext s s' ∧ toPD s' 12 v = some p := by
  obtain ⟨j, rfl⟩ : ∃ j, k = j + 1 := ⟨k - 1, by omega⟩
  have e1 := h.is2 j s (Ext.refl s)
  obtain ⟨v, s2, q1, q2, q3⟩ := anew_ok 12 (j + 1) (by omega) d s p h.pd (lim_of h.sm (by omega))
  exact ⟨v, s2, by rw [r13]; exact fnRes_err ((sIf_t (tNot_ok (tVal_b ((eCall1 (eVar_ok rfl)).trans e1)))).trans (sRaise_ok ((eCall1 (eVar_ok rfl)).trans q1))), q2, q3⟩
end K01
set_option Elab.async false
set_option linter.all false
set_option maxRecDepth 100000
set_option maxHeartbeats 4000000
namespace K01
open PySem LG
theorem blsOf_map (v : Nat → Bool) : ∀ (l : List Nat), blsOf (l.map fun i => D.bl (v i)) = some (l.map v)
  | [] => rfl
  | x :: l => by
    show (blsOf (l.map fun i => D.bl (v i))).map (v x :: ·) = _
    rw [blsOf_map v l]; rfl
theorem all_is (k sl : Nat) {xs : List D} {v : Nat → Bool} {f : Fr} {s : Sto} (hf : f[0]? = some (some (.tup xs))) (hn : f[sl]? = some none) (h0 : sl ≠ 0) (hl : xs.length ≤ 1000) (h : ∀ i d, xs[i]? = some d → ∀ s1, Ext s s1 → ∃ s2, F k 4 [d] s1 = .ok (.bl (v i)) s2 ∧ Ext s1 s2) :
    ∃ s', eFn bAll (aCons (eLc [sl] (iSeq (eVar 0)) (gVar sl) tTrue (eCall (F k) 4 (aApp (aCons (eVar sl) aNil) aNil))) aNil) f s = .ok (.bl ((List.range xs.length).all v)) s' ∧ Ext s s' := by
  have hlt : sl < f.length := (List.getElem?_eq_some_iff.mp hn).1
  obtain ⟨s', ys, e, x, rfl⟩ := eLc_run (own := [sl]) (it := iSeq (eVar 0)) (gx := gVar sl) (t := tTrue) (e := eCall (F k) 4 (aApp (aCons (eVar sl) aNil) aNil)) (f := f) (f0 := f) (s := s) (s1 := s) (x := .tup xs) xs
    (fun i s' acc => Ext s s' ∧ acc = (List.range i).map fun i => D.bl (v i)) (by unfold iSeq LG.bnd; rw [eVar_ok hf]) (by
      show f.set sl none = f
      refine List.ext_getElem? fun j => ?_
      by_cases q : sl = j
      · subst q; rw [List.getElem?_set_self hlt, hn]
      · rw [List.getElem?_set_ne q]) (fun i s' acc _ => rfl)
    (fun i d s1 acc hx hp => by
      obtain ⟨x1, rfl⟩ := hp
      obtain ⟨s2, e2, x2⟩ := h i d hx s1 x1
      have hi := (List.getElem?_eq_some_iff.mp hx).1
      refine ⟨f.set sl (some d), rfl, .inr ⟨s1, .bl (v i), s2, rfl, (eCall1 (eVar_ok (by rw [List.getElem?_set_self hlt]))).trans e2, ?_, x1.trans x2, ?_⟩⟩
      · rw [List.length_map, List.length_range]; omega
      · rw [List.range_succ]; simp) ⟨Ext.refl s, rfl⟩ (by omega)
  refine ⟨s' ++ [.lst ((List.range xs.length).map fun i => D.bl (v i))], (eFn1 e).trans ?_, x.trans (Ext.push _ _)⟩
  unfold bAll lstArg
  simp only [get_new, Option.bind_some, blsOf_map]
  rw [List.all_map]
  rfl
/-! ### need_sayings -/
theorem says_right (k : Nat) {d x : D} {s s1 s2 : Sto} {v : D} (hr : eAnd (eIs (subT tab) .tuple (eVar 0)) (eBin cmpLe (eFn bLen (aCons (eVar 0) aNil)) (eC (.int 12))) [some d, none, none] s = .ok (.bl false) s) (ha : F k 1 [d] s = .ok v s2) : F (k + 1) 15 [d] s = .err 3 v s2 := by
  rw [r15]
  exact fnRes_err ((sSeq_n (sAsg_ok hr rfl)).trans ((sIf_t (tOr_t (tNot_ok (b := false) (tVal_b (eVar_ok rfl))))).trans (sRaise_ok ((eCall1 (eVar_ok rfl)).trans ha))))
theorem says_all (k : Nat) {xs : List D} {s s1 s2 : Sto} {v : D} (hl : xs.length ≤ 12) (h : eFn bAll (aCons (eLc [2] (iSeq (eVar 0)) (gVar 2) tTrue (eCall (F k) 4 (aApp (aCons (eVar 2) aNil) aNil))) aNil) [some (.tup xs), some (.bl true), none] s = .ok (.bl false) s1) (ha : F k 1 [.tup xs] s1 = .ok v s2) : F (k + 1) 15 [.tup xs] s = .err 3 v s2 := by
  have hr : eAnd (eIs (subT tab) .tuple (eVar 0)) (eBin cmpLe (eFn bLen (aCons (eVar 0) aNil)) (eC (.int 12))) [some (.tup xs), none, none] s = .ok (.bl true) s := by
    refine (eAnd_t (eIs_ok (k := true) (eVar_ok rfl) rfl) rfl).trans ((eBin_ok ((eFn1 (eVar_ok rfl)).trans rfl) rfl).trans ?_)
    show Res.ok (D.bl (decide ((xs.length : Int) ≤ 12))) s = _
    rw [decide_eq_true (by omega)]
  rw [r15]
  exact fnRes_err ((sSeq_n (sAsg_ok hr rfl)).trans ((sIf_t ((tOr_f (tNot_ok (b := true) (tVal_b (eVar_ok rfl)))).trans (tNot_ok (b := false) (tVal_b h)))).trans (sRaise_ok ((eCall1 (eVar_ok rfl)).trans ha))))
/-! ### _law_ask -/
abbrev chain (call : Call) : SX :=
  (sIf (tVal (eBin cmpEq (eVar 0) (eC (.int 0)))) (sExpr (eCall call 19 (aApp (aCons (eVar 1) aNil) aNil))) (sIf (tVal (eBin cmpEq (eVar 0) (eC (.int 1)))) (sExpr (eCall call 20 (aApp (aCons (eVar 1) aNil) aNil))) (sIf (tVal (eBin cmpEq (eVar 0) (eC (.int 2)))) (sExpr (eCall call 18 (aApp (aCons (eVar 1) aNil) aNil))) (sIf (tVal (eBin cmpEq (eVar 0) (eC (.int 3)))) (sExpr (eCall call 21 (aApp aNil (aCons (eVar 1) aNil)))) (sIf (tVal (eBin cmpEq (eVar 0) (eC (.int 4)))) (sExpr (eCall call 22 (aApp (aCons (eVar 1) (aCons (eVar 2) (aCons (eC (.non)) aNil))) aNil))) (sIf (tVal (eBin cmpEq (eVar 0) (eC (.int 5)))) (sExpr (eCall call 22 (aApp (aCons (eTup (aCons (eC (.str [116, 114, 117, 101])) aNil)) (aCons (eVar 1) (aCons (eVar 2) aNil))) aNil))) (sIf (tVal (eBin cmpEq (eVar 0) (eC (.int 6)))) (sExpr (eCall call 22 (aApp (aCons (eTup (aCons (eC (.str [116, 114, 117, 101])) aNil)) (aCons (eC (.str [112])) (aCons (eVar 1) aNil))) aNil))) (sIf (tVal (eBin cmpEq (eVar 0) (eC (.int 7)))) (sExpr (eCall call 23 (aApp (aCons (eVar 1) aNil) aNil))) (sExpr (eCall call 25 (aApp (aCons (eVar 1) aNil) aNil)))))))))))
abbrev wrd (c : Nat) : Cs := if c = 1 then [110, 97, 109, 101] else if c = 2 then [115, 97, 121, 105, 110, 103] else [115, 97, 121, 105, 110, 103, 115]
theorem hands_no {sub : Nat → Nat → Option Bool} {k : Nat} {sl : Option Nat} {b : SX} {r : List (Nat × Option Nat × SX)} {f : Fr} {c : Nat} {v : D} {s : Sto} (h : sub c k = some false) : hands sub ((k, sl, b) :: r) f c v s = hands sub r f c v s := by
  show (match sub c k with | some true => _ | some false => hands sub r f c v s | none => SR.bad) = _
  rw [h]
theorem hands_yes {sub : Nat → Nat → Option Bool} {k i : Nat} {b : SX} {r : List (Nat × Option Nat × SX)} {f f1 : Fr} {c : Nat} {v : D} {s s1 : Sto} (h : sub c k = some true) (hb : b (f.set i (some (.ref s.length))) (s ++ [.exc c v]) = .next f1 s1) : hands sub ((k, some i, b) :: r) f c v s = .next (f1.set i none) s1 := by
  show (match sub c k with | some true => (match b (f.set i (some (.ref s.length))) (s ++ [MO.exc c v]) with | .next f' s' => SR.next (f'.set i none) s' | .ret d s' => .ret d s' | _ => .bad) | some false => hands sub r f c v s | none => SR.bad) = _
  rw [h]
  simp only [hb]
theorem fld_ok {n i : Nat} {f : Fr} {s : Sto} {c : Nat} {v : D} (h : f[i]? = some (some (.ref s.length))) (hc : c < n) : eFld n (eVar i) f (s ++ [.exc c v]) = .ok v (s ++ [.exc c v]) := by
  unfold eFld LG.bnd eVar
  simp only [h, get_new]
  exact if_pos hc
theorem sTry_e {sub : Nat → Nat → Option Bool} {b : SX} {hs : List (Nat × Option Nat × SX)} {f f1 : Fr} {s s1 : Sto} {c : Nat} {v : D} (h : b f s = .err f1 c v s1) : sTry sub b hs f s = hands sub hs f1 c v s1 := by
  unfold sTry; rw [h]
theorem sTry_n {sub : Nat → Nat → Option Bool} {b : SX} {hs : List (Nat × Option Nat × SX)} {f f1 : Fr} {s s1 : Sto} (h : b f s = .next f1 s1) : sTry sub b hs f s = .next f1 s1 := by
  unfold sTry; rw [h]
theorem ask_err (k : Nat) {kd d1 d2 v : D} {s s1 : Sto} {c : Nat} (hc : c = 1 ∨ c = 2 ∨ c = 3) (h : chain (F k) [some kd, some d1, some d2, none, some (.str [116, 111, 108, 100]), some .non] s = .err [some kd, some d1, some d2, none, some (.str [116, 111, 108, 100]), some .non] c v s1) :
    F (k + 1) 36 [kd, d1, d2] s = .ok (.tup [.str (wrd c), v]) (s1 ++ [.exc c v]) := by
  rw [r36]
  have e0 : sAsg (gTup [gVar 4, gVar 5]) (eTup (aCons (eC (.str [116, 111, 108, 100])) (aCons (eC (.non)) aNil))) [some kd, some d1, some d2, none, none, none] s = .next [some kd, some d1, some d2, none, some (.str [116, 111, 108, 100]), some .non] s := by kernel_rfl
  have e1 : sTry (subT tab) (chain (F k)) [(1, some 3, (sPar [4, 5] (aCons (eC (.str [110, 97, 109, 101])) (aCons (eFld 4 (eVar 3)) aNil)))), (2, some 3, (sPar [4, 5] (aCons (eC (.str [115, 97, 121, 105, 110, 103])) (aCons (eFld 4 (eVar 3)) aNil)))), (3, some 3, (sPar [4, 5] (aCons (eC (.str [115, 97, 121, 105, 110, 103, 115])) (aCons (eFld 4 (eVar 3)) aNil))))] [some kd, some d1, some d2, none, some (.str [116, 111, 108, 100]), some .non] s = .next [some kd, some d1, some d2, none, some (.str (wrd c)), some v] (s1 ++ [.exc c v]) := by
    refine (sTry_e h).trans ?_
    rcases hc with rfl | rfl | rfl
    · exact hands_yes (f1 := [some kd, some d1, some d2, some (.ref s1.length), some (.str (wrd 1)), some v]) rfl (sPar_ok (aCons_ok (s1 := s1 ++ [.exc 1 v]) rfl (aCons_ok (fld_ok rfl (by omega)) aNil_ok)) rfl)
    · exact (hands_no rfl).trans (hands_yes (f1 := [some kd, some d1, some d2, some (.ref s1.length), some (.str (wrd 2)), some v]) rfl (sPar_ok (aCons_ok (s1 := s1 ++ [.exc 2 v]) rfl (aCons_ok (fld_ok rfl (by omega)) aNil_ok)) rfl))
    · exact (hands_no rfl).trans ((hands_no rfl).trans (hands_yes (f1 := [some kd, some d1, some d2, some (.ref s1.length), some (.str (wrd 3)), some v]) rfl (sPar_ok (aCons_ok (s1 := s1 ++ [.exc 3 v]) rfl (aCons_ok (fld_ok rfl (by omega)) aNil_ok)) rfl)))
  exact fnRes_ret ((sSeq_n e0).trans ((sSeq_n e1).trans (sRet_ok (eTup_ok (aCons_ok (eVar_ok rfl) (aCons_ok (eVar_ok rfl) aNil_ok)) (by show (2 : Nat) ≤ 16777216; omega)))))
theorem ask_told (k : Nat) {kd d1 d2 : D} {s s1 : Sto} (h : chain (F k) [some kd, some d1, some d2, none, some (.str [116, 111, 108, 100]), some .non] s = .next [some kd, some d1, some d2, none, some (.str [116, 111, 108, 100]), some .non] s1) :
    F (k + 1) 36 [kd, d1, d2] s = .ok (.tup [.str [116, 111, 108, 100], .non]) s1 := by
  rw [r36]
  have e0 : sAsg (gTup [gVar 4, gVar 5]) (eTup (aCons (eC (.str [116, 111, 108, 100])) (aCons (eC (.non)) aNil))) [some kd, some d1, some d2, none, none, none] s = .next [some kd, some d1, some d2, none, some (.str [116, 111, 108, 100]), some .non] s := by kernel_rfl
  exact fnRes_ret ((sSeq_n e0).trans ((sSeq_n (sTry_n h)).trans (sRet_ok (eTup_ok (aCons_ok (eVar_ok rfl) (aCons_ok (eVar_ok rfl) aNil_ok)) (by show (2 : Nat) ≤ 16777216; omega)))))
theorem ch0 (k : Nat) (d1 d2 : D) (s : Sto) : chain (F k) [some (.int 0), some d1, some d2, none, some (.str [116, 111, 108, 100]), some .non] s = (sExpr (eCall (F k) 19 (aApp (aCons (eVar 1) aNil) aNil))) [some (.int 0), some d1, some d2, none, some (.str [116, 111, 108, 100]), some .non] s := sIf_t (s' := s) (by kernel_rfl)
theorem ch1 (k : Nat) (d1 d2 : D) (s : Sto) : chain (F k) [some (.int 1), some d1, some d2, none, some (.str [116, 111, 108, 100]), some .non] s = (sExpr (eCall (F k) 20 (aApp (aCons (eVar 1) aNil) aNil))) [some (.int 1), some d1, some d2, none, some (.str [116, 111, 108, 100]), some .non] s := (sIf_f (s' := s) (by kernel_rfl)).trans (sIf_t (s' := s) (by kernel_rfl))
theorem ch2 (k : Nat) (d1 d2 : D) (s : Sto) : chain (F k) [some (.int 2), some d1, some d2, none, some (.str [116, 111, 108, 100]), some .non] s = (sExpr (eCall (F k) 18 (aApp (aCons (eVar 1) aNil) aNil))) [some (.int 2), some d1, some d2, none, some (.str [116, 111, 108, 100]), some .non] s := (sIf_f (s' := s) (by kernel_rfl)).trans ((sIf_f (s' := s) (by kernel_rfl)).trans (sIf_t (s' := s) (by kernel_rfl)))
theorem ch3 (k : Nat) (d1 d2 : D) (s : Sto) : chain (F k) [some (.int 3), some d1, some d2, none, some (.str [116, 111, 108, 100]), some .non] s = (sExpr (eCall (F k) 21 (aApp aNil (aCons (eVar 1) aNil)))) [some (.int 3), some d1, some d2, none, some (.str [116, 111, 108, 100]), some .non] s := (sIf_f (s' := s) (by kernel_rfl)).trans ((sIf_f (s' := s) (by kernel_rfl)).trans ((sIf_f (s' := s) (by kernel_rfl)).trans (sIf_t (s' := s) (by kernel_rfl))))
theorem ch4 (k : Nat) (d1 d2 : D) (s : Sto) : chain (F k) [some (.int 4), some d1, some d2, none, some (.str [116, 111, 108, 100]), some .non] s = (sExpr (eCall (F k) 22 (aApp (aCons (eVar 1) (aCons (eVar 2) (aCons (eC (.non)) aNil))) aNil))) [some (.int 4), some d1, some d2, none, some (.str [116, 111, 108, 100]), some .non] s := (sIf_f (s' := s) (by kernel_rfl)).trans ((sIf_f (s' := s) (by kernel_rfl)).trans ((sIf_f (s' := s) (by kernel_rfl)).trans ((sIf_f (s' := s) (by kernel_rfl)).trans (sIf_t (s' := s) (by kernel_rfl)))))
theorem ch5 (k : Nat) (d1 d2 : D) (s : Sto) : chain (F k) [some (.int 5), some d1, some d2, none, some (.str [116, 111, 108, 100]), some .non] s = (sExpr (eCall (F k) 22 (aApp (aCons (eTup (aCons (eC (.str [116, 114, 117, 101])) aNil)) (aCons (eVar 1) (aCons (eVar 2) aNil))) aNil))) [some (.int 5), some d1, some d2, none, some (.str [116, 111, 108, 100]), some .non] s := (sIf_f (s' := s) (by kernel_rfl)).trans ((sIf_f (s' := s) (by kernel_rfl)).trans ((sIf_f (s' := s) (by kernel_rfl)).trans ((sIf_f (s' := s) (by kernel_rfl)).trans ((sIf_f (s' := s) (by kernel_rfl)).trans (sIf_t (s' := s) (by kernel_rfl))))))
theorem ch6 (k : Nat) (d1 d2 : D) (s : Sto) : chain (F k) [some (.int 6), some d1, some d2, none, some (.str [116, 111, 108, 100]), some .non] s = (sExpr (eCall (F k) 22 (aApp (aCons (eTup (aCons (eC (.str [116, 114, 117, 101])) aNil)) (aCons (eC (.str [112])) (aCons (eVar 1) aNil))) aNil))) [some (.int 6), some d1, some d2, none, some (.str [116, 111, 108, 100]), some .non] s := (sIf_f (s' := s) (by kernel_rfl)).trans ((sIf_f (s' := s) (by kernel_rfl)).trans ((sIf_f (s' := s) (by kernel_rfl)).trans ((sIf_f (s' := s) (by kernel_rfl)).trans ((sIf_f (s' := s) (by kernel_rfl)).trans ((sIf_f (s' := s) (by kernel_rfl)).trans (sIf_t (s' := s) (by kernel_rfl)))))))
theorem ch7 (k : Nat) (d1 d2 : D) (s : Sto) : chain (F k) [some (.int 7), some d1, some d2, none, some (.str [116, 111, 108, 100]), some .non] s = (sExpr (eCall (F k) 23 (aApp (aCons (eVar 1) aNil) aNil))) [some (.int 7), some d1, some d2, none, some (.str [116, 111, 108, 100]), some .non] s := (sIf_f (s' := s) (by kernel_rfl)).trans ((sIf_f (s' := s) (by kernel_rfl)).trans ((sIf_f (s' := s) (by kernel_rfl)).trans ((sIf_f (s' := s) (by kernel_rfl)).trans ((sIf_f (s' := s) (by kernel_rfl)).trans ((sIf_f (s' := s) (by kernel_rfl)).trans ((sIf_f (s' := s) (by kernel_rfl)).trans (sIf_t (s' := s) (by kernel_rfl))))))))
theorem ch8 (k : Nat) (d1 d2 : D) (s : Sto) : chain (F k) [some (.int 8), some d1, some d2, none, some (.str [116, 111, 108, 100]), some .non] s = (sExpr (eCall (F k) 25 (aApp (aCons (eVar 1) aNil) aNil))) [some (.int 8), some d1, some d2, none, some (.str [116, 111, 108, 100]), some .non] s := (sIf_f (s' := s) (by kernel_rfl)).trans ((sIf_f (s' := s) (by kernel_rfl)).trans ((sIf_f (s' := s) (by kernel_rfl)).trans ((sIf_f (s' := s) (by kernel_rfl)).trans ((sIf_f (s' := s) (by kernel_rfl)).trans ((sIf_f (s' := s) (by kernel_rfl)).trans ((sIf_f (s' := s) (by kernel_rfl)).trans (sIf_f (s' := s) (by kernel_rfl))))))))
end K01
set_option Elab.async false
set_option linter.all false
set_option maxRecDepth 100000
set_option maxHeartbeats 4000000
namespace K01
open PySem LG
/-- pairs of a text and a value, the same to == -/
def SameAs (s : Sto) (v d : D) : Prop := ∀ s', Ext s s' → ∀ w : Cs, okC w = true → cmpNe (.tup [.str w, v]) (.tup [.str w, d]) s' = .ok (.bl false) s'
theorem same_pd {s : Sto} {v d : D} {p : PyData} (h1 : toPD s 12 v = some p) (h2 : toPD s 12 d = some p) : SameAs s v d := fun s' x w hw =>
  ne_same (p := .tuple [pS w, p]) (toPD_le 13 60 _ _ (by omega) (tup2_pd (toPD_str s' 12 hw) (toPD_ext x _ _ _ h1))) (toPD_le 13 60 _ _ (by omega) (tup2_pd (toPD_str s' 12 hw) (toPD_ext x _ _ _ h2)))
theorem err18 (k : Nat) {d v : D} {s s1 : Sto} {c : Nat} (h : F (k + 1) 14 [d] s = .err c v s1) : F (k + 2) 18 [d] s = .err c v s1 := by rw [r18]; exact fnRes_err (sSeq_e (sExpr_e ((eCall1 (eVar_ok rfl)).trans h)))
theorem err19 (k : Nat) {d v : D} {s s1 : Sto} {c : Nat} (h : F (k + 1) 14 [d] s = .err c v s1) : F (k + 2) 19 [d] s = .err c v s1 := by rw [r19]; exact fnRes_err (sSeq_e (sExpr_e ((eCall1 (eVar_ok rfl)).trans h)))
theorem err20 (k : Nat) {d v : D} {s s1 : Sto} {c : Nat} (h : F (k + 1) 14 [d] s = .err c v s1) : F (k + 2) 20 [d] s = .err c v s1 := by rw [r20]; exact fnRes_err (sSeq_e (sExpr_e ((eCall1 (eVar_ok rfl)).trans h)))
theorem err21 (k : Nat) {d v : D} {s s1 : Sto} {c : Nat} (h : F (k + 1) 14 [d] s = .err c v s1) : F (k + 2) 21 [d] s = .err c v s1 := by rw [r21]; exact fnRes_err (sSeq_e (sExpr_e ((eCall1 (eVar_ok rfl)).trans h)))
theorem put_e1 (k : Nat) {d a b v : D} {s s1 : Sto} {c : Nat} (h : F (k + 1) 14 [d] s = .err c v s1) : F (k + 2) 22 [d, a, b] s = .err c v s1 := by rw [r22]; exact fnRes_err (sSeq_e (sExpr_e ((eCall1 (eVar_ok rfl)).trans h)))
theorem put_e2 (k : Nat) {d a b v x : D} {s s1 s2 : Sto} {c : Nat} (h1 : F (k + 1) 14 [d] s = .ok x s1) (h : F (k + 1) 13 [a] s1 = .err c v s2) : F (k + 2) 22 [d, a, b] s = .err c v s2 := by
  rw [r22]; exact fnRes_err ((sSeq_n (sExpr_ok ((eCall1 (eVar_ok rfl)).trans h1))).trans (sSeq_e (sExpr_e ((eCall1 (eVar_ok rfl)).trans h))))
theorem put_e3 (k : Nat) {d a b v x y : D} {s s1 s2 s3 : Sto} {c : Nat} (h1 : F (k + 1) 14 [d] s = .ok x s1) (h2 : F (k + 1) 13 [a] s1 = .ok y s2) (h : F (k + 1) 14 [b] s2 = .err c v s3) : F (k + 2) 22 [d, a, b] s = .err c v s3 := by
  rw [r22]; exact fnRes_err ((sSeq_n (sExpr_ok ((eCall1 (eVar_ok rfl)).trans h1))).trans ((sSeq_n (sExpr_ok ((eCall1 (eVar_ok rfl)).trans h2))).trans (sSeq_e (sExpr_e ((eCall1 (eVar_ok rfl)).trans h)))))
theorem eCall3 {call : Call} {i : Nat} {e1 e2 e3 : EX} {f : Fr} {s s1 s2 s3 : Sto} {x y z : D} (h1 : e1 f s = .ok x s1) (h2 : e2 f s1 = .ok y s2) (h3 : e3 f s2 = .ok z s3) : eCall call i (aApp (aCons e1 (aCons e2 (aCons e3 aNil))) aNil) f s = call i [x, y, z] s3 := eCall_ok (aApp_n (aCons_ok h1 (aCons_ok h2 (aCons_ok h3 rfl))))
theorem eCallK {call : Call} {i : Nat} {e1 : EX} {f : Fr} {s s1 : Sto} {x : D} (h1 : e1 f s = .ok x s1) : eCall call i (aApp aNil (aCons e1 aNil)) f s = call i [x] s1 := eCall_ok (aApp_ok aNil_ok (aCons_ok h1 rfl))
theorem word_p : ([112] : Cs) ∈ words ∧ nmB [112] = true := p_w (.inl rfl)
/-- asked with a datum that is no saying -/
theorem ask_odd (k : Nat) (hk : 16 ≤ k) {s : Sto} {d : D} {p : PyData} (h : Odd s d p) : ∀ kd : Nat, kd ∈ [0, 1, 2, 3, 4, 6] → ∃ v s', F k 36 [.int kd, d, .int 7] s = .ok (.tup [.str (wrd 2), v]) s' ∧ Ext s s' ∧ toPD s' 12 v = some p := by
  obtain ⟨j, rfl⟩ : ∃ j, k = j + 3 := ⟨k - 3, by omega⟩
  obtain ⟨v, s1, e1, x1, q1⟩ := nsay_odd j (by omega) h
  have fin : ∀ (kd : D) {v : D} {s1 : Sto}, Ext s s1 → toPD s1 12 v = some p → chain (F (j + 2)) [some kd, some d, some (.int 7), none, some (.str [116, 111, 108, 100]), some .non] s = .err [some kd, some d, some (.int 7), none, some (.str [116, 111, 108, 100]), some .non] 2 v s1 →
      ∃ v s', F (j + 3) 36 [kd, d, .int 7] s = .ok (.tup [.str (wrd 2), v]) s' ∧ Ext s s' ∧ toPD s' 12 v = some p := fun kd v s1 x1 q1 hc =>
    ⟨v, _, ask_err (j + 2) (.inr (.inl rfl)) hc, x1.trans (Ext.push _ _), toPD_ext (Ext.push _ _) _ _ _ q1⟩
  intro kd hkd
  simp only [List.mem_cons, List.not_mem_nil, or_false] at hkd
  rcases hkd with rfl | rfl | rfl | rfl | rfl | rfl
  · exact fin _ x1 q1 ((ch0 _ _ _ _).trans (sExpr_e ((eCall1 (eVar_ok rfl)).trans (err19 j e1))))
  · exact fin _ x1 q1 ((ch1 _ _ _ _).trans (sExpr_e ((eCall1 (eVar_ok rfl)).trans (err20 j e1))))
  · exact fin _ x1 q1 ((ch2 _ _ _ _).trans (sExpr_e ((eCall1 (eVar_ok rfl)).trans (err18 j e1))))
  · exact fin _ x1 q1 ((ch3 _ _ _ _).trans (sExpr_e ((eCallK (eVar_ok rfl)).trans (err21 j e1))))
  · exact fin _ x1 q1 ((ch4 _ _ _ _).trans (sExpr_e ((eCall3 (s3 := s) (eVar_ok rfl) (eVar_ok rfl) rfl).trans (put_e1 j e1))))
  · obtain ⟨s2, e2, x2⟩ := nsay_ok j (Say.t 0) (by omega) s
    obtain ⟨i, rfl⟩ : ∃ i, j = i + 1 := ⟨j - 1, by omega⟩
    have e3 := nname_ok i word_p.1 word_p.2 s2
    obtain ⟨v, s3, e4, x4, q4⟩ := nsay_odd (i + 1) (by omega) (h.ext x2)
    exact fin _ (x2.trans x4) q4 ((ch6 _ _ _ _).trans (sExpr_e ((eCall3 (s1 := s) (s2 := s) (by kernel_rfl) rfl (eVar_ok rfl)).trans (put_e3 (i + 1) e2 e3 e4))))
theorem ask5 (k : Nat) (hk : 16 ≤ k) {s : Sto} {d d2 : D} {p : PyData} (h : NoNm s d p) : ∃ v s', F k 36 [.int 5, d, d2] s = .ok (.tup [.str (wrd 1), v]) s' ∧ Ext s s' ∧ toPD s' 12 v = some p := by
  obtain ⟨j, rfl⟩ : ∃ j, k = j + 3 := ⟨k - 3, by omega⟩
  obtain ⟨s2, e2, x2⟩ := nsay_ok j (Say.t 0) (by omega) s
  have h2 : NoNm s2 d p := ⟨fun k s1 x => h.is2 k s1 (x2.trans x), fun k s1 x => h.l32 k s1 (x2.trans x), toPD_ext x2 _ _ _ h.pd, h.sm⟩
  obtain ⟨v, s3, e3, x3, q3⟩ := nname_no j (by omega) h2
  exact ⟨v, _, ask_err (j + 2) (.inl rfl) ((ch5 _ _ _ _).trans (sExpr_e ((eCall3 (s1 := s) (by kernel_rfl) (eVar_ok rfl) (eVar_ok rfl)).trans (put_e2 j e2 e3)))), (x2.trans x3).trans (Ext.push _ _), toPD_ext (Ext.push _ _) _ _ _ q3⟩
theorem ask4 (k : Nat) (hk : 16 ≤ k) {s : Sto} {d sy : D} {p : PyData} {n : Nat} (hs : Say n sy) (hn : n ≤ 5) (h : NoNm s d p) : ∃ v s', F k 36 [.int 4, sy, d] s = .ok (.tup [.str (wrd 1), v]) s' ∧ Ext s s' ∧ toPD s' 12 v = some p := by
  obtain ⟨j, rfl⟩ : ∃ j, k = j + 3 := ⟨k - 3, by omega⟩
  obtain ⟨s2, e2, x2⟩ := nsay_ok j hs (by omega) s
  have h2 : NoNm s2 d p := ⟨fun k s1 x => h.is2 k s1 (x2.trans x), fun k s1 x => h.l32 k s1 (x2.trans x), toPD_ext x2 _ _ _ h.pd, h.sm⟩
  obtain ⟨v, s3, e3, x3, q3⟩ := nname_no j (by omega) h2
  exact ⟨v, _, ask_err (j + 2) (.inl rfl) ((ch4 _ _ _ _).trans (sExpr_e ((eCall3 (s3 := s) (eVar_ok rfl) (eVar_ok rfl) rfl).trans (put_e2 j e2 e3)))), (x2.trans x3).trans (Ext.push _ _), toPD_ext (Ext.push _ _) _ _ _ q3⟩
/-- a datum that need_sayings refuses -/
def Row (s : Sto) (d : D) : Prop := ∀ k s1, 14 ≤ k → Ext s s1 → ∃ v s2, F k 15 [d] s1 = .err 3 v s2 ∧ Ext s1 s2 ∧ SameAs s2 v d
theorem ask7 (k : Nat) (hk : 17 ≤ k) {s : Sto} {d : D} (h : Row s d) {s1 : Sto} (x : Ext s s1) : ∃ v s', F k 36 [.int 7, d, .non] s1 = .ok (.tup [.str (wrd 3), v]) s' ∧ Ext s1 s' ∧ SameAs s' v d := by
  obtain ⟨j, rfl⟩ : ∃ j, k = j + 3 := ⟨k - 3, by omega⟩
  obtain ⟨v, s2, e2, x2, q2⟩ := h (j + 1) s1 (by omega) x
  have e3 : F (j + 2) 23 [d] s1 = .err 3 v s2 := by rw [r23]; exact fnRes_err (sSeq_e (sExpr_e ((eCall1 (eVar_ok rfl)).trans e2)))
  exact ⟨v, _, ask_err (j + 2) (.inr (.inr rfl)) ((ch7 _ _ _ _).trans (sExpr_e ((eCall1 (eVar_ok rfl)).trans e3))), x2.trans (Ext.push _ _), fun s' x' => q2 s' ((Ext.push _ _).trans x')⟩
theorem ask8 (k : Nat) (hk : 17 ≤ k) {s : Sto} {d : D} (h : Row s d) {s1 : Sto} (x : Ext s s1) : ∃ v s', F k 36 [.int 8, d, .non] s1 = .ok (.tup [.str (wrd 3), v]) s' ∧ Ext s1 s' ∧ SameAs s' v d := by
  obtain ⟨j, rfl⟩ : ∃ j, k = j + 3 := ⟨k - 3, by omega⟩
  obtain ⟨v, s2, e2, x2, q2⟩ := h (j + 1) s1 (by omega) x
  have e3 : F (j + 2) 25 [d] s1 = .err 3 v s2 := by rw [r25]; exact fnRes_err (sSeq_e (sExpr_e ((eCall1 (eVar_ok rfl)).trans e2)))
  exact ⟨v, _, ask_err (j + 2) (.inr (.inr rfl)) ((ch8 _ _ _ _).trans (sExpr_e ((eCall1 (eVar_ok rfl)).trans e3))), x2.trans (Ext.push _ _), fun s' x' => q2 s' ((Ext.push _ _).trans x')⟩
/-! ### the rows -/
theorem row_nt {s : Sto} {d : D} {p : PyData} (ht : ∀ s1, Ext s s1 → isinst (subT tab) .tuple s1 d = some false) (hp : toPD s 12 d = some p) (hw : p.weight ≤ LIM) : Row s d := fun k s1 hk x => by
  obtain ⟨j, rfl⟩ : ∃ j, k = j + 1 := ⟨k - 1, by omega⟩
  obtain ⟨v, s2, q1, q2, q3⟩ := anew_ok 12 j (by omega) d s1 p (toPD_ext x _ _ _ hp) hw
  exact ⟨v, s2, says_right (s1 := s1) j (x := d) ((eAnd_f (eIs_ok (eVar_ok rfl) (ht s1 x)) rfl)) q1, q2, same_pd q3 (toPD_ext (x.trans q2) _ _ _ hp)⟩
theorem row_box {s : Sto} {n : Nat} {kvs : List (D × D)} (h : s[n]? = some (.box kvs)) : Row s (.ref n) := fun k s1 hk x => by
  obtain ⟨j, rfl⟩ : ∃ j, k = j + 2 := ⟨k - 2, by omega⟩
  have g := x.get h
  have t1 : ∀ t, t = Ty.tuple ∨ t = Ty.list → isinst (subT tab) t s1 (.ref n) = some false := fun t ht => by
    rcases ht with rfl | rfl <;> (unfold isinst tyD; simp only [g]; rfl)
  have an : F (j + 1) 1 [.ref n] s1 = .ok (.ref n) s1 := by
    rw [r1]
    exact fnRes_ret ((sSeq_n (sIf_skip (tVal_b (eIs_ok (eVar_ok rfl) (t1 _ (.inr rfl)))))).trans ((sSeq_n (sIf_skip (tVal_b (eIs_ok (eVar_ok rfl) (t1 _ (.inl rfl)))))).trans (sRet_ok (eVar_ok rfl))))
  refine ⟨.ref n, s1, says_right (s1 := s1) (j + 1) (x := .non) (eAnd_f (eIs_ok (eVar_ok rfl) (t1 _ (.inl rfl))) rfl) an, Ext.refl _, fun s' x' w hw => ?_⟩
  have g' := x'.get g
  have e : eqO s' (.tup [.str w, .ref n]) (.tup [.str w, .ref n]) = none := by
    have : toPD s' 60 (.tup [.str w, .ref n]) = none := by
      have h2 : toPD s' 59 (.ref n) = none := by unfold toPD; rw [g']
      have h3 : toPD s' 59 (.str w) = some (pS w) := toPD_str s' 59 hw
      show toPD s' (59 + 1) _ = none
      unfold toPD
      have : allO (toPD s' 59) [.str w, .ref n] = none := by
        unfold allO
        rw [h3]
        unfold allO
        rw [h2]
      rw [this]
    unfold eqO
    rw [this]
  unfold cmpNe
  rw [e]
  have : sameB (.tup [.str w, .ref n]) (.tup [.str w, .ref n]) = true := by unfold sameB; simp
  simp only [this, if_true]
theorem row_long {s : Sto} {xs : List D} {p : PyData} (hl : 12 < xs.length) (hp : toPD s 12 (.tup xs) = some p) (hw : p.weight ≤ LIM) : Row s (.tup xs) := fun k s1 hk x => by
  obtain ⟨j, rfl⟩ : ∃ j, k = j + 1 := ⟨k - 1, by omega⟩
  obtain ⟨v, s2, q1, q2, q3⟩ := anew_ok 12 j (by omega) _ s1 p (toPD_ext x _ _ _ hp) hw
  refine ⟨v, s2, says_right (s1 := s1) j (x := .non) ((eAnd_t (eIs_ok (k := true) (eVar_ok rfl) rfl) rfl).trans ((eBin_ok ((eFn1 (eVar_ok rfl)).trans rfl) rfl).trans ?_)) q1, q2, same_pd q3 (toPD_ext (x.trans q2) _ _ _ hp)⟩
  show Res.ok (D.bl (decide ((xs.length : Int) ≤ 12))) s1 = _
  rw [decide_eq_false (by omega)]
theorem row_all {s : Sto} {xs : List D} {p : PyData} (v : Nat → Bool) (hl : xs.length ≤ 12) (hv : (List.range xs.length).all v = false) (hp : toPD s 12 (.tup xs) = some p) (hw : p.weight ≤ LIM) (h : ∀ k i d, 13 ≤ k → xs[i]? = some d → ∀ s1, Ext s s1 → ∃ s2, F k 4 [d] s1 = .ok (.bl (v i)) s2 ∧ Ext s1 s2) : Row s (.tup xs) := fun k s1 hk x => by
  obtain ⟨j, rfl⟩ : ∃ j, k = j + 1 := ⟨k - 1, by omega⟩
  obtain ⟨s2, e2, x2⟩ := all_is j 2 (f := [some (.tup xs), some (.bl true), none]) (s := s1) rfl rfl (by omega) (by omega) (fun i d hd s3 x3 => h j i d (by omega) hd s3 (x.trans x3))
  rw [hv] at e2
  obtain ⟨w, s3, q1, q2, q3⟩ := anew_ok 12 j (by omega) _ s2 p (toPD_ext (x.trans x2) _ _ _ hp) hw
  exact ⟨w, s3, says_all j hl e2 q1, x2.trans q2, same_pd q3 (toPD_ext ((x.trans x2).trans q2) _ _ _ hp)⟩
end K01
set_option Elab.async false
set_option linter.all false
set_option maxRecDepth 100000
set_option maxHeartbeats 4000000
namespace K01
open PySem LG
theorem is_str (k : Nat) (hk : 1 ≤ k) (s : Sto) (x : Cs) : F k 4 [.str x] s = .ok (.bl false) s := by
  obtain ⟨j, rfl⟩ : ∃ j, k = j + 1 := ⟨k - 1, by omega⟩
  exact (not_tup j rfl).1
theorem is_nil (k : Nat) (hk : 1 ≤ k) (s : Sto) : F k 4 [.tup []] s = .ok (.bl false) s := by
  obtain ⟨j, rfl⟩ : ∃ j, k = j + 1 := ⟨k - 1, by omega⟩
  rw [r4]; kernel_rfl
theorem bad_row {s : Sto} {n : Nat} {d : D} (h : Bad s n d) (hn : n ≤ 4) (hd : d ≠ .tup []) : Row s d := by
  obtain ⟨p, hp0, hq⟩ := bad_pd h
  have hp := toPD_le _ 12 _ _ (by omega : n + 6 ≤ 12) hp0
  have hw : p.weight ≤ LIM := by
    have : WB n ≤ 3000 := by
      match n, hn with
      | 0, _ => decide
      | 1, _ => decide
      | 2, _ => decide
      | 3, _ => decide
      | 4, _ => decide
    exact lim_of (hq.le this) (by omega)
  cases h with
  | non => exact row_nt (fun s1 x => rfl) hp hw
  | int => exact row_nt (fun s1 x => rfl) hp hw
  | bl => exact row_nt (fun s1 x => rfl) hp hw
  | str => exact row_nt (fun s1 x => rfl) hp hw
  | lst _ h1 _ h2 h3 => exact row_nt (fun s1 x => by unfold isinst tyD; simp only [x.get h1]; rfl) hp hw
  | nil => exact absurd rfl hd
  | l1 =>
    exact row_all (fun _ => false) (by simp) rfl hp hw fun k i d hk hd s1 x => by
      match i, hd with
      | 0, hd => cases hd; exact ⟨s1, is_str k (by omega) s1 _, Ext.refl _⟩
      | i + 1, hd => simp at hd
  | lw =>
    exact row_all (fun _ => false) (by simp) rfl hp hw fun k i d hk hd s1 x => by
      match i, hd with
      | 0, hd => cases hd; exact ⟨s1, is_str k (by omega) s1 _, Ext.refl _⟩
      | 1, hd => cases hd; exact ⟨s1, is_str k (by omega) s1 _, Ext.refl _⟩
      | i + 2, hd => simp at hd
  | t2 =>
    exact row_all (fun _ => false) (by simp) rfl hp hw fun k i d hk hd s1 x => by
      match i, hd with
      | 0, hd => cases hd; exact ⟨s1, is_str k (by omega) s1 _, Ext.refl _⟩
      | 1, hd => cases hd; exact ⟨s1, is_nil k (by omega) s1, Ext.refl _⟩
      | i + 2, hd => simp at hd
  | w2 ho ha =>
    exact row_all (fun i => i == 1) (by simp) rfl hp hw fun k i d hk hd s1 x => by
      match i, hd with
      | 0, hd => cases hd; exact ⟨s1, is_str k (by omega) s1 _, Ext.refl _⟩
      | 1, hd => cases hd; exact say_is ha k (by omega) s1
      | i + 2, hd => simp at hd
  | i4 ha =>
    exact row_all (fun i => decide (1 ≤ i)) (by simp) rfl hp hw fun k i d hk hd s1 x => by
      match i, hd with
      | 0, hd => cases hd; exact ⟨s1, is_str k (by omega) s1 _, Ext.refl _⟩
      | 1, hd => cases hd; exact say_is ha k (by omega) s1
      | 2, hd => cases hd; exact say_is ha k (by omega) s1
      | 3, hd => cases hd; exact say_is ha k (by omega) s1
      | i + 4, hd => simp at hd
  | up ha =>
    exact row_all (fun i => decide (1 ≤ i)) (by simp) rfl hp hw fun k i d hk hd s1 x => by
      match i, hd with
      | 0, hd => cases hd; exact ⟨s1, is_str k (by omega) s1 _, Ext.refl _⟩
      | 1, hd => cases hd; exact say_is ha k (by omega) s1
      | 2, hd => cases hd; exact say_is ha k (by omega) s1
      | i + 3, hd => simp at hd
  | nl ho ha hb =>
    exact row_all (fun i => i == 2) (by simp) rfl hp hw fun k i d hk hd s1 x => by
      match i, hd with
      | 0, hd => cases hd; exact ⟨s1, is_str k (by omega) s1 _, Ext.refl _⟩
      | 1, hd => cases hd; exact bad_is ha k (by omega) s1 x
      | 2, hd => cases hd; exact say_is hb k (by omega) s1
      | i + 3, hd => simp at hd
  | nr ho ha hb =>
    exact row_all (fun i => i == 1) (by simp) rfl hp hw fun k i d hk hd s1 x => by
      match i, hd with
      | 0, hd => cases hd; exact ⟨s1, is_str k (by omega) s1 _, Ext.refl _⟩
      | 1, hd => cases hd; exact say_is ha k (by omega) s1
      | 2, hd => cases hd; exact bad_is hb k (by omega) s1 x
      | i + 3, hd => simp at hd
/-- is_parts((odd,)) -/
theorem parts_odd (k : Nat) (hk : 12 ≤ k) {s : Sto} {d : D} {p : PyData} (h : Odd s d p) : ∃ s', F k 24 [.tup [d]] s = .ok (.bl false) s' ∧ Ext s s' := by
  obtain ⟨j, rfl⟩ : ∃ j, k = j + 2 := ⟨k - 2, by omega⟩
  obtain ⟨s2, e2, x2⟩ := all_is j 1 (xs := [d]) (v := fun _ => false) (f := [some (.tup [d]), none, none]) (s := s) rfl rfl (by omega) (by simp) (fun i e hd s3 x3 => by
    match i, hd with
    | 0, hd => cases hd; exact h.is4 j s3 (by omega) x3
    | i + 1, hd => simp at hd)
  have e7 : F (j + 1) 7 [.tup [d]] s = .ok (.bl false) s2 := by
    rw [r7]
    exact fnRes_ret (sSeq_r ((sIf_t ((tOr_f (tNot_ok (b := true) (tVal_b (eIs_ok (eVar_ok rfl) rfl)))).trans (tOr_t (tNot_ok (b := false) (tVal_b e2))))).trans (sRet_ok rfl)))
  exact ⟨s2, by rw [r24]; exact fnRes_ret (sRet_ok ((eCall1 (eVar_ok rfl)).trans e7)), x2⟩
/-! ### draws -/
abbrev eP (k i : Nat) (e : EX) : EX := eCall (F k) 27 (aApp (aCons (eVar i) (aCons e aNil)) aNil)
theorem pickE (k i : Nat) {ns : List Int} {a b K many : Nat} {s : Sto} {f : Fr} {e : EX} (B : Box ns a b K s) (hK : K < 1000000) (hf : f[i]? = some (some (.ref b))) (he : e f s = .ok (.int many) s) (hm : 1 ≤ many) (hm2 : many ≤ 100000) :
    ∃ (v : Nat) (s' : Sto), eP (k + 1) i e f s = .ok (.int v) s' ∧ v < many ∧ Box ns a b (K + 1) s' ∧ Chg b s s' := by
  obtain ⟨v, s', e1, r⟩ := pick_ok k B hK hm hm2
  exact ⟨v, s', (eCall2 (eVar_ok hf) he).trans e1, r⟩
/-- one of a made list, drawn -/
theorem pickOf (k i : Nat) {ns : List Int} {a b K : Nat} {s s1 : Sto} {f : Fr} {e : EX} {ax : AX} {xs : List D} (B : Box ns a b K s1) (hK : K < 1000000) (hf : f[i]? = some (some (.ref b))) (hax : ax f s = .ok xs s1) (he : ∀ s, e f s = .ok (.int xs.length) s) (hm : 1 ≤ xs.length) (hm2 : xs.length ≤ 100) :
    ∃ (v : Nat) (s' : Sto) (d : D), eBin idx (eLst ax) (eP (k + 1) i e) f s = .ok d s' ∧ xs[v]? = some d ∧ Box ns a b (K + 1) s' ∧ Chg b s1 s' := by
  have x := Ext.push s1 (.lst xs)
  obtain ⟨v, s', e1, e2, e3, e4⟩ := pickE k i (B.ext x) hK hf (he _) hm (by omega)
  have hg := e4.2 s1.length (.lst xs) (by have := b_lt B; omega) (get_new s1 _)
  exact ⟨v, s', xs[v], (eBin_ok (eLst_ok hax (by show _ ≤ 16777216; omega)) e1).trans (idx_ref hg (atI_nat (List.getElem?_eq_getElem e2))), List.getElem?_eq_getElem e2, e3, (Chg.ext x).trans e4⟩
theorem mem_get {l : List Cs} {v : Nat} {d : D} (h : (l.map D.str)[v]? = some d) : ∃ w ∈ l, d = .str w := by
  rw [List.getElem?_map] at h
  obtain ⟨w, h1, rfl⟩ := Option.map_eq_some_iff.mp h
  exact ⟨w, List.mem_of_getElem? h1, rfl⟩
theorem word_ok (k : Nat) {ns : List Int} {a b K : Nat} {s : Sto} (B : Box ns a b K s) (hK : K < 100000) : ∃ w s', F (k + 2) 34 [.ref b] s = .ok (.str w) s' ∧ w ∈ words ∧ Box ns a b (K + 2) s' := by
  obtain ⟨v, s1, d, e1, e2, e3, e4⟩ := pickOf k 0 (f := [some (.ref b), none]) (s := s) (s1 := s) (xs := signs.map D.str) (ax := aCons (eC (.str [112])) (aCons (eC (.str [122])) (aCons (eC (.str [97])) (aCons (eC (.str [65])) (aCons (eC (.str [])) (aCons (eC (.str [95])) (aCons (eC (.str [49])) (aCons (eC (.str [112, 112])) aNil)))))))) (e := eC (.int 8)) B (by omega) rfl rfl (fun _ => rfl) (by decide) (by decide)
  obtain ⟨w1, h1, rfl⟩ := mem_get e2
  obtain ⟨u, s2, d, g1, g2, g3, g4⟩ := pickOf k 0 (f := [some (.ref b), some (.str w1)]) (s := s1) (s1 := s1) (xs := tails.map D.str) (ax := aCons (eC (.str [])) (aCons (eC (.str [])) (aCons (eC (.str [49])) (aCons (eC (.str [57, 57])) (aCons (eC (.str [49, 48, 48])) (aCons (eC (.str [48])) (aCons (eC (.str [48, 55])) (aCons (eC (.str [49, 32])) (aCons (eC (.str [120])) aNil))))))))) (e := eC (.int 9)) e3 (by omega) rfl rfl (fun _ => rfl) (by decide) (by decide)
  obtain ⟨w2, h2, rfl⟩ := mem_get g2
  have l1 : w1.length ≤ 10 := by
    have : (signs.all fun w => decide (w.length ≤ 10)) = true := by decide
    simpa using List.all_eq_true.mp this w1 h1
  have l2 : w2.length ≤ 10 := by
    have : (tails.all fun w => decide (w.length ≤ 10)) = true := by decide
    simpa using List.all_eq_true.mp this w2 h2
  refine ⟨w1 ++ w2, s2, ?_, ?_, g3⟩
  · rw [r34]
    refine fnRes_ret ((sSeq_n (sAsg_ok e1 rfl)).trans (sRet_ok ((eBin_ok (eVar_ok rfl) g1).trans ?_)))
    unfold opAdd
    simp only
    rw [if_pos (by show _ ≤ 16777216; omega)]
  · unfold words
    refine List.mem_cons_of_mem _ (List.mem_cons_of_mem _ (List.mem_cons_of_mem _ (List.mem_cons_of_mem _ ?_)))
    exact List.mem_flatMap.mpr ⟨w1, h1, List.mem_map.mpr ⟨w2, h2, rfl⟩⟩
end K01
set_option Elab.async false
set_option linter.all false
set_option maxRecDepth 100000
set_option maxHeartbeats 4000000
namespace K01
open PySem LG
abbrev nms : D := .tup [.str [112], .str [113, 49, 50]]
theorem eq0 {f : Fr} {s s' : Sto} {e : EX} {i : Int} (c : Int) (h : e f s = .ok (.int i) s') : tVal (eBin cmpEq e (eC (.int c))) f s = .ok (decide (i = c)) s' := tVal_b ((eBin_ok h rfl).trans (by
  show (match eqO s' (.int i) (.int c) with | some k => Res.ok (D.bl k) s' | none => .bad) = _
  rw [eqO_int]))
theorem leaf_ok (k : Nat) {ns : List Int} {a b K : Nat} {s : Sto} (B : Box ns a b K s) (hK : K < 900000) : ∃ d s', F (k + 2) 30 [.ref b, nms] s = .ok d s' ∧ (∀ n, Say n d) ∧ Box ns a b (K + 2) s' ∧ Chg b s s' := by
  obtain ⟨v, s1, e1, e2, e3, e4⟩ := pickE k 0 (f := [some (.ref b), some nms]) (many := 7) (e := eC (.int 7)) B (by omega) rfl rfl (by omega) (by omega)
  have T1 := eq0 0 e1
  have T2 : tVal (eBin cmpEq (eFn bLen (aCons (eVar 1) aNil)) (eC (.int 0))) [some (.ref b), some nms] s1 = .ok false s1 := by kernel_rfl
  rw [r30]
  by_cases c : (v : Int) = 0
  · rw [decide_eq_true c] at T1
    obtain ⟨u, s2, g1, g2, g3, g4⟩ := pickE k 0 (f := [some (.ref b), some nms]) (many := 3) (e := eC (.int 3)) e3 (by omega) rfl rfl (by omega) (by omega)
    have T3 := eq0 0 g1
    by_cases c2 : (u : Int) = 0
    · rw [decide_eq_true c2] at T3
      exact ⟨.tup [.str sTru], s2, fnRes_ret (sSeq_r ((sIf_t (tOr_t T1)).trans (sRet_ok ((eIf_t T3).trans (by kernel_rfl))))), fun n => .t n, g3, e4.trans g4⟩
    · rw [decide_eq_false c2] at T3
      exact ⟨.tup [.str sFal], s2, fnRes_ret (sSeq_r ((sIf_t (tOr_t T1)).trans (sRet_ok ((eIf_f T3).trans (by kernel_rfl))))), fun n => .f n, g3, e4.trans g4⟩
  · rw [decide_eq_false c] at T1
    obtain ⟨u, s2, g1, g2, g3, g4⟩ := pickE k 0 (f := [some (.ref b), some nms]) (many := 2) (e := eFn bLen (aCons (eVar 1) aNil)) e3 (by omega) rfl (by kernel_rfl) (by omega) (by omega)
    obtain ⟨w, hw, hg⟩ : ∃ w : Cs, (w = [112] ∨ w = [113, 49, 50]) ∧ [D.str [112], D.str [113, 49, 50]][u]? = some (.str w) := by
      match u, g2 with
      | 0, _ => exact ⟨[112], .inl rfl, rfl⟩
      | 1, _ => exact ⟨[113, 49, 50], .inr rfl, rfl⟩
    refine ⟨.tup [.str sLet, .str w], s2, fnRes_ret ((sSeq_n (sIf_skip ((tOr_f T1).trans T2))).trans (sRet_ok (eTup_ok (aCons_ok (s1 := s1) rfl (aCons_ok ((eBin_ok (eVar_ok rfl) g1).trans (idx_tup (atI_nat hg))) aNil_ok)) (by show (2 : Nat) ≤ 16777216; omega)))), fun n => .l n hw, g3, e4.trans g4⟩
/-- the box, and the list of ifs at r -/
structure Ifs (ns : List Int) (a b r K : Nat) (s : Sto) : Prop where
  B : Box ns a b K s
  ra : r ≠ a
  rb : r ≠ b
  l : ∃ m : Int, s[r]? = some (.lst [.int m])
theorem Ifs.chg {ns : List Int} {a b r K L : Nat} {s t : Sto} (h : Ifs ns a b r K s) (B : Box ns a b L t) (x : Chg b s t) : Ifs ns a b r L t := let ⟨m, q⟩ := h.l; ⟨B, h.ra, h.rb, m, x.2 r _ h.rb q⟩
theorem Ifs.ext {ns : List Int} {a b r K : Nat} {s t : Sto} (h : Ifs ns a b r K s) (x : Ext s t) : Ifs ns a b r K t := let ⟨m, q⟩ := h.l; ⟨h.B.ext x, h.ra, h.rb, m, x.get q⟩
theorem eCall4 {call : Call} {i : Nat} {e1 e2 e3 e4 : EX} {f : Fr} {s s1 s2 s3 s4 : Sto} {x y z w : D} (h1 : e1 f s = .ok x s1) (h2 : e2 f s1 = .ok y s2) (h3 : e3 f s2 = .ok z s3) (h4 : e4 f s3 = .ok w s4) : eCall call i (aApp (aCons e1 (aCons e2 (aCons e3 (aCons e4 aNil)))) aNil) f s = call i [x, y, z, w] s4 := eCall_ok (aApp_n (aCons_ok h1 (aCons_ok h2 (aCons_ok h3 (aCons_ok h4 rfl)))))
theorem three {s : Sto} {f : Fr} {p q r : EX} {s1 s2 s3 : Sto} {x y z : D} (h1 : p f s = .ok x s1) (h2 : q f s1 = .ok y s2) (h3 : r f s2 = .ok z s3) : eTup (aCons p (aCons q (aCons r aNil))) f s = .ok (.tup [x, y, z]) s3 := eTup_ok (aCons_ok h1 (aCons_ok h2 (aCons_ok h3 aNil_ok))) (by show (3 : Nat) ≤ 16777216; omega)
def cost : Nat → Nat
  | 0 => 3
  | n + 1 => 4 + 2 * cost n
theorem cost_ge : ∀ n, 3 ≤ cost n
  | 0 => Nat.le_refl _
  | n + 1 => by have := cost_ge n; show 3 ≤ 4 + 2 * cost n; omega
theorem saying_ok : ∀ (n k : Nat) {ns : List Int} {a b r K : Nat} {s : Sto}, Ifs ns a b r K s → K + cost n < 900000 → ∃ d s', F (k + n + 3) 31 [.ref b, nms, .int n, .ref r] s = .ok d s' ∧ Say n d ∧ Ifs ns a b r (K + cost n) s' := by
  intro n
  induction n with
  | zero =>
    intro k ns a b r K s W hK
    obtain ⟨d, s', e1, e2, e3, e4⟩ := leaf_ok k W.B (by omega)
    refine ⟨d, s', ?_, e2 0, (W.chg e3 e4).chg (e3.le (by show K + 2 ≤ K + 3; omega)) (Chg.refl _ _)⟩
    rw [r31]
    have T : tVal (eBin cmpEq (eVar 2) (eC (.int 0))) [some (.ref b), some nms, some (.int ((0 : Nat) : Int)), some (.ref r), none, none, none] s = .ok true s := (eq0 0 (eVar_ok rfl)).trans (by rw [decide_eq_true (by omega)])
    exact fnRes_ret (sSeq_r ((sIf_t (tOr_t T)).trans (sRet_ok ((eCall2 (eVar_ok rfl) (eVar_ok rfl)).trans e1))))
  | succ n ih =>
    intro k ns a b r K s W hK
    have hc : cost (n + 1) = 4 + 2 * cost n := rfl
    rw [r31, show k + (n + 1) + 2 = (k + n + 2) + 1 from by omega]
    have f0 : Fr := [some (.ref b), some nms, some (.int ((n + 1 : Nat) : Int)), some (.ref r), none, none, none]
    obtain ⟨v, s1, e1, e2, e3, e4⟩ := pickE (k + n + 2) 0 (f := [some (.ref b), some nms, some (.int ((n + 1 : Nat) : Int)), some (.ref r), none, none, none]) (many := 5) (e := eC (.int 5)) W.B (by omega) rfl rfl (by omega) (by omega)
    have W1 := W.chg e3 e4
    have T0 : tVal (eBin cmpEq (eVar 2) (eC (.int 0))) [some (.ref b), some nms, some (.int ((n + 1 : Nat) : Int)), some (.ref r), none, none, none] s = .ok false s := (eq0 0 (eVar_ok rfl)).trans (by rw [decide_eq_false (by omega)])
    have T1 := eq0 0 e1
    by_cases c1 : (v : Int) = 0
    · rw [decide_eq_true c1] at T1
      obtain ⟨d, s', g1, g2, g3, g4⟩ := leaf_ok (k + n + 1) W1.B (by omega)
      exact ⟨d, s', fnRes_ret (sSeq_r ((sIf_t ((tOr_f T0).trans T1)).trans (sRet_ok ((eCall2 (eVar_ok rfl) (eVar_ok rfl)).trans g1)))), g2 _, (W1.chg g3 g4).chg (g3.le (by have := cost_ge n; omega)) (Chg.refl _ _)⟩
    rw [decide_eq_false c1] at T1
    obtain ⟨kd, s2, g1, g2, g3, g4⟩ := pickE (k + n + 2) 0 (f := [some (.ref b), some nms, some (.int ((n + 1 : Nat) : Int)), some (.ref r), none, none, none]) (many := 5) (e := eC (.int 5)) W1.B (by omega) rfl rfl (by omega) (by omega)
    have W2 := W1.chg g3 g4
    obtain ⟨m, hm⟩ := W2.l
    have ST : ∀ (x y : Option D) (s : Sto), eBin opSub (eVar 2) (eC (.int 1)) [some (.ref b), some nms, some (.int ((n + 1 : Nat) : Int)), some (.ref r), some (.int kd), x, y] s = .ok (.int n) s := fun x y s => (eBin_ok (eVar_ok rfl) rfl).trans (by
      show Res.ok (D.int (((n + 1 : Nat) : Int) - 1)) s = _
      rw [show (((n + 1 : Nat) : Int) - 1) = (n : Int) from by omega])
    have Q : ∀ (x y : Option D) {L : Nat} {s : Sto}, Ifs ns a b r L s → L + cost n < 900000 → ∃ d s', eCall (F (k + n + 2 + 1)) 31 (aApp (aCons (eVar 0) (aCons (eVar 1) (aCons (eBin opSub (eVar 2) (eC (.int 1))) (aCons (eVar 3) aNil)))) aNil) [some (.ref b), some nms, some (.int ((n + 1 : Nat) : Int)), some (.ref r), some (.int kd), x, y] s = .ok d s' ∧ Say n d ∧ Ifs ns a b r (L + cost n) s' := fun x y L s W hL => by
      obtain ⟨d, s', q1, q2, q3⟩ := ih k W hL
      exact ⟨d, s', (eCall4 (eVar_ok rfl) (eVar_ok rfl) (ST x y s) (eVar_ok rfl)).trans q1, q2, q3⟩
    have T2 : tVal (eBin cmpGt (eVar 4) (eC (.int 2))) [some (.ref b), some nms, some (.int ((n + 1 : Nat) : Int)), some (.ref r), some (.int kd), none, none] s2 = .ok (decide ((2 : Int) < kd)) s2 := tVal_b ((eBin_ok (eVar_ok rfl) rfl).trans rfl)
    have I0 : eBin idx (eVar 3) (eC (.int 0)) [some (.ref b), some nms, some (.int ((n + 1 : Nat) : Int)), some (.ref r), some (.int kd), none, none] s2 = .ok (.int m) s2 := (eBin_ok (eVar_ok rfl) rfl).trans (idx_ref hm rfl)
    have T3 : tVal (eBin cmpGt (eBin idx (eVar 3) (eC (.int 0))) (eC (.int 0))) [some (.ref b), some nms, some (.int ((n + 1 : Nat) : Int)), some (.ref r), some (.int kd), none, none] s2 = .ok (decide ((0 : Int) < m)) s2 := tVal_b ((eBin_ok I0 rfl).trans rfl)
    have plain : tAnd (tVal (eBin cmpGt (eVar 4) (eC (.int 2)))) (tVal (eBin cmpGt (eBin idx (eVar 3) (eC (.int 0))) (eC (.int 0)))) [some (.ref b), some nms, some (.int ((n + 1 : Nat) : Int)), some (.ref r), some (.int kd), none, none] s2 = .ok false s2 → ∃ d s', fnRes (m31 (F (k + n + 2 + 1)) [some (.ref b), some nms, some (.int ((n + 1 : Nat) : Int)), some (.ref r), none, none, none] s) = .ok d s' ∧ Say (n + 1) d ∧ Ifs ns a b r (K + cost (n + 1)) s' := fun hT => by
      have WL := W2.ext (Ext.push s2 (.lst [.str sAndW, .str sOrW, .str sOrW, .str sAndW, .str sOrW]))
      obtain ⟨o, ho, hg⟩ : ∃ o : Cs, IsW o ∧ [D.str sAndW, .str sOrW, .str sOrW, .str sAndW, .str sOrW][kd]? = some (.str o) := by
        match kd, g2 with
        | 0, _ => exact ⟨sAndW, .inl rfl, rfl⟩
        | 1, _ => exact ⟨sOrW, .inr (.inl rfl), rfl⟩
        | 2, _ => exact ⟨sOrW, .inr (.inl rfl), rfl⟩
        | 3, _ => exact ⟨sAndW, .inl rfl, rfl⟩
        | 4, _ => exact ⟨sOrW, .inr (.inl rfl), rfl⟩
      have E5 : sAsg (gVar 5) (eBin idx (eLst (aCons (eC (.str [97, 110, 100])) (aCons (eC (.str [111, 114])) (aCons (eC (.str [111, 114])) (aCons (eC (.str [97, 110, 100])) (aCons (eC (.str [111, 114])) aNil)))))) (eVar 4)) [some (.ref b), some nms, some (.int ((n + 1 : Nat) : Int)), some (.ref r), some (.int kd), none, none] s2 = .next [some (.ref b), some nms, some (.int ((n + 1 : Nat) : Int)), some (.ref r), some (.int kd), some (.str o), none] (s2 ++ [.lst [.str sAndW, .str sOrW, .str sOrW, .str sAndW, .str sOrW]]) :=
        sAsg_ok ((eBin_ok (eLst_ok (s1 := s2) rfl (by show (5 : Nat) ≤ 16777216; omega)) (eVar_ok rfl)).trans (idx_ref (get_new _ _) (atI_nat hg))) rfl
      obtain ⟨d1, s3, q1, q2, q3⟩ := Q (some (.str o)) none WL (by omega)
      obtain ⟨d2, s4, p1, p2, p3⟩ := Q (some (.str o)) (some d1) q3 (by omega)
      refine ⟨.tup [.str o, d1, d2], s4, ?_, .n ho q2 p2, p3.chg (p3.B.le (by omega)) (Chg.refl _ _)⟩
      exact fnRes_ret ((sSeq_n (sIf_skip ((tOr_f T0).trans T1))).trans ((sSeq_n (sAsg_ok g1 rfl)).trans ((sSeq_n (sIf_skip hT)).trans ((sSeq_n E5).trans ((sSeq_n (sAsg_ok q1 rfl)).trans (sRet_ok (three (eVar_ok rfl) (eVar_ok rfl) p1)))))))
    by_cases c2 : (2 : Int) < kd
    · rw [decide_eq_true c2] at T2
      by_cases c3 : (0 : Int) < m
      · rw [decide_eq_true c3] at T3
        have hS : setI (.ref r) (.int 0) (.int (m - 1)) s2 = .ok () (s2.set r (.lst [.int (m - 1)])) := by
          unfold setI
          simp only [hm]
          rfl
        have E1 : sSetI (eVar 3) (eC (.int 0)) (eBin opSub (eBin idx (eVar 3) (eC (.int 0))) (eC (.int 1))) [some (.ref b), some nms, some (.int ((n + 1 : Nat) : Int)), some (.ref r), some (.int kd), none, none] s2 = .next [some (.ref b), some nms, some (.int ((n + 1 : Nat) : Int)), some (.ref r), some (.int kd), none, none] (s2.set r (.lst [.int (m - 1)])) :=
          sSetI_ok ((eBin_ok I0 rfl).trans rfl) (eVar_ok rfl) rfl hS
        have W3 : Ifs ns a b r (K + 2) (s2.set r (.lst [.int (m - 1)])) := ⟨W2.B.set W2.ra W2.rb, W2.ra, W2.rb, m - 1, by rw [List.getElem?_set_self (List.getElem?_eq_some_iff.mp hm).1]⟩
        obtain ⟨d1, s3, q1, q2, q3⟩ := Q none none W3 (by omega)
        have T4 : tVal (eBin cmpEq (eVar 4) (eC (.int 4))) [some (.ref b), some nms, some (.int ((n + 1 : Nat) : Int)), some (.ref r), some (.int kd), none, some d1] s3 = .ok (decide ((kd : Int) = 4)) s3 := eq0 4 (eVar_ok rfl)
        by_cases c4 : (kd : Int) = 4
        · rw [decide_eq_true c4] at T4
          refine ⟨.tup [.str sIfW, d1, .tup [.str sFal]], s3, ?_, .n (.inr (.inr rfl)) q2 (.f n), q3.chg (q3.B.le (by omega)) (Chg.refl _ _)⟩
          have nt : F (k + n + 2 + 1) 29 [d1] s3 = .ok (.tup [.str sIfW, d1, .tup [.str sFal]]) s3 := by rw [r29]; kernel_rfl
          exact fnRes_ret ((sSeq_n (sIf_skip ((tOr_f T0).trans T1))).trans ((sSeq_n (sAsg_ok g1 rfl)).trans (sSeq_r ((sIf_t ((tAnd_t T2).trans T3)).trans ((sSeq_n E1).trans ((sSeq_n (sAsg_ok q1 rfl)).trans (sRet_ok ((eIf_t T4).trans ((eCall1 (eVar_ok rfl)).trans nt)))))))))
        · rw [decide_eq_false c4] at T4
          obtain ⟨d2, s4, p1, p2, p3⟩ := Q none (some d1) q3 (by omega)
          refine ⟨.tup [.str sIfW, d1, d2], s4, ?_, .n (.inr (.inr rfl)) q2 p2, p3.chg (p3.B.le (by omega)) (Chg.refl _ _)⟩
          exact fnRes_ret ((sSeq_n (sIf_skip ((tOr_f T0).trans T1))).trans ((sSeq_n (sAsg_ok g1 rfl)).trans (sSeq_r ((sIf_t ((tAnd_t T2).trans T3)).trans ((sSeq_n E1).trans ((sSeq_n (sAsg_ok q1 rfl)).trans (sRet_ok ((eIf_f T4).trans (three (s1 := s3) rfl (eVar_ok rfl) p1)))))))))
      · rw [decide_eq_false c3] at T3
        exact plain ((tAnd_t T2).trans T3)
    · rw [decide_eq_false c2] at T2
      exact plain (tAnd_f T2)
end K01
set_option Elab.async false
set_option linter.all false
set_option maxRecDepth 100000
set_option maxHeartbeats 4000000
namespace K01
open PySem LG
theorem Bad.chg {s t : Sto} (x : Chg 1 s t) {n : Nat} {d : D} (h : Bad s n d) : Bad t n d := by
  induction h with
  | non n => exact .non n
  | int n => exact .int n
  | bl n => exact .bl n
  | str n => exact .str n
  | lst n h hb hp hq => exact .lst n (x.2 _ _ hb h) hb hp hq
  | nil n => exact .nil n
  | l1 n => exact .l1 n
  | lw n hw => exact .lw n hw
  | t2 n => exact .t2 n
  | w2 ho hd => exact .w2 ho hd
  | i4 ha => exact .i4 ha
  | up ha => exact .up ha
  | nl ho ha hb iha => exact .nl ho iha hb
  | nr ho ha hb ihb => exact .nr ho ha ihb
def xs13 (p : Nat) (sy : D) : List D := [.tup [.str sLet, .str [80]], .tup [.str sLet, .str [112, 48]], .tup [.str sLet, .str [112, 49, 48, 48]], .tup [.str sLet], .ref p, .tup [.str sTru, .tup []], .str sTru, .non, .int 0, .bl true, .tup [.str [110, 111, 116], sy], .tup [.str sAndW, sy], .tup []]
def xs7 (one sy : D) (q : Nat) : List D := [one, .tup [.str sAndW, one, sy], .tup [.str sOrW, sy, one], .tup [.str sIfW, sy, sy, sy], .ref q, .tup [.str sIfW, .tup [.str sAndW, one, sy], sy], .tup [.str [73, 70], sy, sy]]
theorem bad13 {s : Sto} {p : Nat} {sy : D} (hp : s[p]? = some (.lst [.str sTru])) (h1 : p ≠ 1) (hs : Say 2 sy) {v : Nat} {d : D} (h : (xs13 p sy)[v]? = some d) : Bad s 2 d := by
  match v, h with
  | 0, h => cases h; exact .lw 2 (.inl rfl)
  | 1, h => cases h; exact .lw 2 (.inr (.inl rfl))
  | 2, h => cases h; exact .lw 2 (.inr (.inr rfl))
  | 3, h => cases h; exact .l1 2
  | 4, h => cases h; exact .lst 2 hp h1 (ps := [pS sTru]) (fun t => rfl) ⟨by decide, by decide, by decide⟩
  | 5, h => cases h; exact .t2 2
  | 6, h => cases h; exact .str 2
  | 7, h => cases h; exact .non 2
  | 8, h => cases h; exact .int 2
  | 9, h => cases h; exact .bl 2
  | 10, h => cases h; exact .w2 (.inl rfl) hs
  | 11, h => cases h; exact .w2 (.inr rfl) hs
  | 12, h => cases h; exact .nil 2
  | n + 13, h => simp [xs13] at h
theorem say_tup {n : Nat} {d : D} (h : Say n d) : ∃ ys, d = .tup ys := by cases h <;> exact ⟨_, rfl⟩
theorem bad_lst {s : Sto} {q : Nat} {ys : List D} (hq : s[q]? = some (.lst ys)) (h1 : q ≠ 1) (hs : Say 2 (.tup ys)) : Bad s 2 (.ref q) := by
  obtain ⟨p, p1, p2⟩ := say_pd hs
  have e : ∀ t, ∃ ps, allO (toPD t 5) ys = some ps ∧ p = .tuple ps := fun t => by
    have := p1 t 6 (by omega)
    unfold toPD at this
    split at this
    · rename_i ps e
      exact ⟨ps, e, (Option.some.inj this).symm⟩
    · cases this
  obtain ⟨ps, e1, rfl⟩ := e []
  refine .lst 2 hq h1 (ps := ps) (fun t => ?_) ?_
  · obtain ⟨qs, e2, e3⟩ := e t
    cases e3
    exact e2
  · exact (⟨p2.sh, p2.lv, p2.wt⟩ : SmL ps (Wt 2)).le (by decide)
theorem bad7 {s : Sto} {q : Nat} {one sy : D} {ys : List D} (ho : Bad s 2 one) (he : sy = .tup ys) (hs : Say 2 sy) (hq : s[q]? = some (.lst ys)) (h1 : q ≠ 1) {u : Nat} {d : D} (h : (xs7 one sy q)[u]? = some d) : ∃ n, n ≤ 4 ∧ Bad s n d := by
  subst he
  match u, h with
  | 0, h => cases h; exact ⟨2, by omega, ho⟩
  | 1, h => cases h; exact ⟨3, by omega, .nl (.inl rfl) ho hs⟩
  | 2, h => cases h; exact ⟨3, by omega, .nr (.inr (.inl rfl)) hs ho⟩
  | 3, h => cases h; exact ⟨2, by omega, .i4 hs⟩
  | 4, h => cases h; exact ⟨2, by omega, bad_lst hq h1 hs⟩
  | 5, h => cases h; exact ⟨4, by omega, .nl (.inr (.inr rfl)) (.nl (.inl rfl) ho hs) hs.up⟩
  | 6, h => cases h; exact ⟨2, by omega, .up hs⟩
  | n + 7, h => simp [xs7] at h
abbrev a13 : AX := (aCons (eTup (aCons (eC (.str [108, 101, 116, 116, 101, 114])) (aCons (eC (.str [80])) aNil))) (aCons (eTup (aCons (eC (.str [108, 101, 116, 116, 101, 114])) (aCons (eC (.str [112, 48])) aNil))) (aCons (eTup (aCons (eC (.str [108, 101, 116, 116, 101, 114])) (aCons (eC (.str [112, 49, 48, 48])) aNil))) (aCons (eTup (aCons (eC (.str [108, 101, 116, 116, 101, 114])) aNil)) (aCons (eLst (aCons (eC (.str [116, 114, 117, 101])) aNil)) (aCons (eTup (aCons (eC (.str [116, 114, 117, 101])) (aCons (eTup aNil) aNil))) (aCons (eC (.str [116, 114, 117, 101])) (aCons (eC (.non)) (aCons (eC (.int 0)) (aCons (eC (.bl true)) (aCons (eTup (aCons (eC (.str [110, 111, 116])) (aCons (eVar 1) aNil))) (aCons (eTup (aCons (eC (.str [97, 110, 100])) (aCons (eVar 1) aNil))) (aCons (eTup aNil) aNil)))))))))))))
abbrev a7 : AX := (aCons (eVar 3) (aCons (eTup (aCons (eC (.str [97, 110, 100])) (aCons (eVar 3) (aCons (eVar 1) aNil)))) (aCons (eTup (aCons (eC (.str [111, 114])) (aCons (eVar 1) (aCons (eVar 3) aNil)))) (aCons (eTup (aCons (eC (.str [105, 102])) (aCons (eVar 1) (aCons (eVar 1) (aCons (eVar 1) aNil))))) (aCons (eFn bList (aCons (eVar 1) aNil)) (aCons (eTup (aCons (eC (.str [105, 102])) (aCons (eTup (aCons (eC (.str [97, 110, 100])) (aCons (eVar 3) (aCons (eVar 1) aNil)))) (aCons (eVar 1) aNil)))) (aCons (eTup (aCons (eC (.str [73, 70])) (aCons (eVar 1) (aCons (eVar 1) aNil)))) aNil)))))))
theorem a13_ok (sy b : D) (o3 o4 o5 : Option D) (s : Sto) : a13 [some b, some sy, o3, o4, o5] s = .ok (xs13 s.length sy) (s ++ [.lst [.str sTru]]) := by kernel_rfl
theorem a7_ok (ys : List D) (one b : D) (o3 o5 : Option D) (s : Sto) : a7 [some b, some (.tup ys), o3, some one, o5] s = .ok (xs7 one (.tup ys) s.length) (s ++ [.lst ys]) := by kernel_rfl
theorem len_snoc (s : Sto) (o : MO) : (s ++ [o]).length = s.length + 1 := by simp
theorem spoilt_ok (k : Nat) {ns : List Int} {a K : Nat} {s : Sto} {sy : D} (B : Box ns a 1 K s) (hK : K < 900000) (hs : Say 2 sy) : ∃ d s' n, F (k + 2) 35 [.ref 1, sy] s = .ok d s' ∧ n ≤ 4 ∧ Bad s' n d ∧ Box ns a 1 (K + 2) s' := by
  obtain ⟨ys, rfl⟩ := say_tup hs
  have x1 : Ext s ((s ++ [MO.lst [.str sTru]]) ++ [.lst (xs13 s.length (.tup ys))]) := (Ext.push _ _).trans (Ext.push _ _)
  have hb := b_lt B
  obtain ⟨v, s2, e1, e2, e3, e4⟩ := pickE k 0 (f := [some (.ref 1), some (.tup ys), some (.ref (s ++ [MO.lst [.str sTru]]).length), none, none]) (many := 13) (e := eC (.int 13)) (B.ext x1) (by omega) rfl rfl (by omega) (by omega)
  have hp2 : s2[s.length]? = some (.lst [.str sTru]) := e4.2 _ _ (by omega) ((Ext.push _ _).get (get_new _ _))
  have hl2 : s2[(s ++ [MO.lst [.str sTru]]).length]? = some (.lst (xs13 s.length (.tup ys))) := e4.2 (s ++ [MO.lst [.str sTru]]).length _ (by rw [len_snoc]; omega) (get_new _ _)
  obtain ⟨one, h1⟩ : ∃ d, (xs13 s.length (.tup ys))[v]? = some d := ⟨_, List.getElem?_eq_getElem (by show v < 13; exact e2)⟩
  have x2 : Ext s2 ((s2 ++ [MO.lst ys]) ++ [.lst (xs7 one (.tup ys) s2.length)]) := (Ext.push _ _).trans (Ext.push _ _)
  have hb2 := b_lt e3
  obtain ⟨u, s3, g1, g2, g3, g4⟩ := pickE k 0 (f := [some (.ref 1), some (.tup ys), some (.ref (s ++ [MO.lst [.str sTru]]).length), some one, some (.ref (s2 ++ [MO.lst ys]).length)]) (many := 7) (e := eC (.int 7)) (e3.ext x2) (by omega) rfl rfl (by omega) (by omega)
  have hp3 : s3[s.length]? = some (.lst [.str sTru]) := g4.2 _ _ (by omega) (x2.get hp2)
  have hq3 : s3[s2.length]? = some (.lst ys) := g4.2 _ _ (by omega) ((Ext.push _ _).get (get_new _ _))
  have hl3 : s3[(s2 ++ [MO.lst ys]).length]? = some (.lst (xs7 one (.tup ys) s2.length)) := g4.2 (s2 ++ [MO.lst ys]).length _ (by rw [len_snoc]; omega) (get_new _ _)
  obtain ⟨d, h2⟩ : ∃ d, (xs7 one (.tup ys) s2.length)[u]? = some d := ⟨_, List.getElem?_eq_getElem (by show u < 7; exact g2)⟩
  obtain ⟨n, n1, n2⟩ := bad7 (bad13 hp3 (by omega) hs h1) rfl hs hq3 (by omega) h2
  refine ⟨d, s3, n, ?_, n1, n2, g3⟩
  rw [r35]
  exact fnRes_ret ((sSeq_n (sAsg_ok (eLst_ok (a13_ok _ _ _ _ _ _) (by show (13 : Nat) ≤ 16777216; omega)) rfl)).trans ((sSeq_n (sAsg_ok ((eBin_ok (eVar_ok rfl) e1).trans (idx_ref hl2 (atI_nat h1))) rfl)).trans
    ((sSeq_n (sAsg_ok (eLst_ok (a7_ok _ _ _ _ _ _) (by show (7 : Nat) ≤ 16777216; omega)) rfl)).trans (sRet_ok ((eBin_ok (eVar_ok rfl) g1).trans (idx_ref hl3 (atI_nat h2)))))))
end K01
set_option Elab.async false
set_option linter.all false
set_option maxRecDepth 100000
set_option maxHeartbeats 4000000
namespace K01
open PySem LG
abbrev fr (sc t : D) (o3 o4 o5 o6 o7 : Option D) : Fr := [some sc, some (.ref 1), some t, o3, o4, o5, o6, o7, none]
abbrev S0 (k : Nat) : SX := (sAsg (gVar 3) (eCall (F k) 34 (aApp (aCons (eVar 1) aNil) aNil)))
abbrev S1 (k : Nat) : SX := (sIf (tOr (tNot (tVal (eCall (F k) 28 (aApp (aCons (eCall (F k) 16 (aApp (aCons (eVar 3) aNil) aNil)) (aCons (eCall (F k) 32 (aApp (aCons (eVar 3) aNil) aNil)) aNil)) aNil)))) (tNot (tVal (eCall (F k) 28 (aApp (aCons (eCall (F k) 17 (aApp (aCons (eTup (aCons (eC (.str [108, 101, 116, 116, 101, 114])) (aCons (eVar 3) aNil))) aNil) aNil)) (aCons (eCall (F k) 32 (aApp (aCons (eVar 3) aNil) aNil)) aNil)) aNil))))) (sRet (eC (.bl false))) sSkip)
abbrev S2 (k : Nat) : SX := (sAsg (gVar 4) (eCall (F k) 31 (aApp (aCons (eVar 1) (aCons (eTup (aCons (eC (.str [112])) (aCons (eC (.str [113, 49, 50])) aNil))) (aCons (eC (.int 2)) (aCons (eLst (aCons (eC (.int 2)) aNil)) aNil)))) aNil)))
abbrev S3 (k : Nat) : SX := (sAsg (gVar 5) (eCall (F k) 35 (aApp (aCons (eVar 1) (aCons (eVar 4) aNil)) aNil)))
abbrev S4 (k : Nat) : SX := (sIf (tOr (tVal (eCall (F k) 33 (aApp (aCons (eVar 5) aNil) aNil))) (tOr (tVal (eBin cmpIsNot (eCall (F k) 17 (aApp (aCons (eVar 5) aNil) aNil)) (eC (.bl false)))) (tVal (eBin cmpIsNot (eCall (F k) 24 (aApp (aCons (eTup (aCons (eVar 5) aNil)) aNil) aNil)) (eC (.bl false)))))) (sRet (eC (.bl false))) sSkip)
abbrev S5 (k : Nat) : SX := (sIf (tVal (eBin cmpNe (eLc [8] (iSeq (eTup (aCons (eC (.int 0)) (aCons (eC (.int 1)) (aCons (eC (.int 2)) (aCons (eC (.int 3)) (aCons (eC (.int 4)) (aCons (eC (.int 6)) aNil)))))))) (gVar 8) tTrue (eCall (F k) 36 (aApp (aCons (eVar 8) (aCons (eVar 5) (aCons (eC (.int 7)) aNil))) aNil))) (eBin opMul (eLst (aCons (eTup (aCons (eC (.str [115, 97, 121, 105, 110, 103])) (aCons (eVar 5) aNil))) aNil)) (eC (.int 6))))) (sRet (eC (.bl false))) sSkip)
abbrev S6 (k : Nat) : SX := (sAsg (gVar 6) (eBin idx (eLst (aCons (eVar 3) (aCons (eLst (aCons (eC (.str [112])) aNil)) (aCons (eC (.non)) (aCons (eC (.int 4)) (aCons (eTup (aCons (eC (.str [112])) aNil)) (aCons (eTup (aCons (eC (.str [112])) (aCons (eC (.str [113])) aNil))) aNil))))))) (eCall (F k) 27 (aApp (aCons (eVar 1) (aCons (eC (.int 6)) aNil)) aNil))))
abbrev S7 (k : Nat) : SX := (sIf (tAnd (tNot (tVal (eCall (F k) 32 (aApp (aCons (eVar 6) aNil) aNil)))) (tOr (tVal (eBin cmpNe (eCall (F k) 36 (aApp (aCons (eC (.int 5)) (aCons (eVar 6) (aCons (eVar 5) aNil))) aNil)) (eTup (aCons (eC (.str [110, 97, 109, 101])) (aCons (eVar 6) aNil))))) (tOr (tVal (eBin cmpNe (eCall (F k) 36 (aApp (aCons (eC (.int 4)) (aCons (eVar 4) (aCons (eVar 6) aNil))) aNil)) (eTup (aCons (eC (.str [110, 97, 109, 101])) (aCons (eVar 6) aNil))))) (tVal (eBin cmpIsNot (eCall (F k) 16 (aApp (aCons (eVar 6) aNil) aNil)) (eC (.bl false))))))) (sRet (eC (.bl false))) sSkip)
abbrev S8 (k : Nat) : SX := (sAsg (gVar 7) (eBin idx (eLst (aCons (eTup (aCons (eVar 4) (aCons (eVar 5) aNil))) (aCons (eLst (aCons (eVar 4) aNil)) (aCons (eVar 5) (aCons (eBin opMul (eTup (aCons (eVar 4) aNil)) (eC (.int 13))) (aCons (eBox [112] (eVar 4)) aNil)))))) (eCall (F k) 27 (aApp (aCons (eVar 1) (aCons (eC (.int 5)) aNil)) aNil))))
abbrev S9 (k : Nat) : SX := (sIf (tAnd (tVal (eIs (subT tab) (.tuple) (eVar 7))) (tVal (eBin cmpEq (eFn bLen (aCons (eVar 7) aNil)) (eC (.int 0))))) sCont sSkip)
abbrev S10 (k : Nat) : SX := (sIf (tOr (tVal (eBin cmpNe (eCall (F k) 36 (aApp (aCons (eC (.int 7)) (aCons (eVar 7) (aCons (eC (.non)) aNil))) aNil)) (eTup (aCons (eC (.str [115, 97, 121, 105, 110, 103, 115])) (aCons (eVar 7) aNil))))) (tVal (eBin cmpNe (eCall (F k) 36 (aApp (aCons (eC (.int 8)) (aCons (eVar 7) (aCons (eC (.non)) aNil))) aNil)) (eTup (aCons (eC (.str [115, 97, 121, 105, 110, 103, 115])) (aCons (eVar 7) aNil)))))) (sRet (eC (.bl false))) sSkip)
abbrev bLaw (k : Nat) : SX := sSeq (S0 k) (sSeq (S1 k) (sSeq (S2 k) (sSeq (S3 k) (sSeq (S4 k) (sSeq (S5 k) (sSeq (S6 k) (sSeq (S7 k) (sSeq (S8 k) (sSeq (S9 k) (S10 k))))))))))
theorem says_ok (k : Nat) (x : Bool) (s : Sto) : F (k + 1) 28 [.bl x, .bl x] s = .ok (.bl true) s := by
  rw [r28]
  cases x <;> kernel_rfl
theorem s1_ok (k : Nat) {sc t : D} {w : Cs} {o4 o5 o6 o7 : Option D} (hw : w ∈ words) (s : Sto) : ∃ s', S1 (k + 3) (fr sc t (some (.str w)) o4 o5 o6 o7) s = .next (fr sc t (some (.str w)) o4 o5 o6 o7) s' ∧ Ext s s' := by
  obtain ⟨s1, e1, x1⟩ := lawnm_ok (k + 2) s w hw
  obtain ⟨s2, e2, x2⟩ := lawnm_ok (k + 2) s1 w hw
  have e16 : F (k + 3) 16 [.str w] s = .ok (.bl (nmB w)) s := by rw [r16]; exact fnRes_ret (sRet_ok ((eCall1 (eVar_ok rfl)).trans (nm_ok (k + 1) s w hw)))
  have e17 : F (k + 3) 17 [.tup [.str sLet, .str w]] s1 = .ok (.bl (nmB w)) s1 := by rw [r17]; exact fnRes_ret (sRet_ok ((eCall1 (eVar_ok rfl)).trans (is_l k s1 hw)))
  have tp : eTup (aCons (eC (.str [108, 101, 116, 116, 101, 114])) (aCons (eVar 3) aNil)) (fr sc t (some (.str w)) o4 o5 o6 o7) s1 = .ok (.tup [.str sLet, .str w]) s1 := eTup_ok (aCons_ok (s1 := s1) rfl (aCons_ok (eVar_ok rfl) aNil_ok)) (by show (2 : Nat) ≤ 16777216; omega)
  exact ⟨s2, sIf_skip ((tOr_f (tNot_ok (b := true) (tVal_b ((eCall2 ((eCall1 (eVar_ok rfl)).trans e16) ((eCall1 (eVar_ok rfl)).trans e1)).trans (says_ok (k + 2) _ _))))).trans (tNot_ok (b := true) (tVal_b ((eCall2 ((eCall1 tp).trans e17) ((eCall1 (eVar_ok rfl)).trans e2)).trans (says_ok (k + 2) _ _))))), x1.trans x2⟩
theorem s2_ok (k : Nat) {ns : List Int} {K : Nat} {s : Sto} {sc t : D} {o3 o4 o5 o6 o7 : Option D} (B : Box ns 0 1 K s) (hK : K < 100000) : ∃ d s', S2 (k + 5) (fr sc t o3 o4 o5 o6 o7) s = .next (fr sc t o3 (some d) o5 o6 o7) s' ∧ Say 2 d ∧ Box ns 0 1 (K + 30) s' := by
  have hb := b_lt B
  have W : Ifs ns 0 1 s.length K (s ++ [.lst [.int 2]]) := ⟨B.ext (Ext.push _ _), by omega, by omega, 2, get_new _ _⟩
  obtain ⟨d, s', e1, e2, e3⟩ := saying_ok 2 k W (by show K + 24 < 900000; omega)
  exact ⟨d, s', sAsg_ok ((eCall4 (s2 := s) (s3 := s) (eVar_ok rfl) (by kernel_rfl) rfl (eLst_ok (s1 := s) rfl (by show (1 : Nat) ≤ 16777216; omega))).trans e1) rfl, e2, e3.B.le (by show K + 24 ≤ K + 30; omega)⟩
theorem s3_ok (k : Nat) {ns : List Int} {K : Nat} {s : Sto} {sc t sy : D} {o3 o5 o6 o7 : Option D} (B : Box ns 0 1 K s) (hK : K < 100000) (hs : Say 2 sy) : ∃ d s' n, S3 (k + 2) (fr sc t o3 (some sy) o5 o6 o7) s = .next (fr sc t o3 (some sy) (some d) o6 o7) s' ∧ n ≤ 4 ∧ Bad s' n d ∧ Box ns 0 1 (K + 2) s' := by
  obtain ⟨d, s', n, e1, e2, e3, e4⟩ := spoilt_ok k B (by omega) hs
  exact ⟨d, s', n, sAsg_ok ((eCall2 (eVar_ok rfl) (eVar_ok rfl)).trans e1) rfl, e2, e3, e4⟩
theorem isnot_ff {p : EX} {f : Fr} {s s' : Sto} (h : p f s = .ok (.bl false) s') : tVal (eBin cmpIsNot p (eC (.bl false))) f s = .ok false s' := tVal_b ((eBin_ok h rfl).trans rfl)
theorem s4_ok (k : Nat) (hk : 14 ≤ k) {s : Sto} {sc t d : D} {o3 o4 o6 o7 : Option D} {n : Nat} (hn : n ≤ 4) (hb : Bad s n d) : ∃ s', S4 k (fr sc t o3 o4 (some d) o6 o7) s = .next (fr sc t o3 o4 (some d) o6 o7) s' ∧ Ext s s' := by
  obtain ⟨j, rfl⟩ : ∃ j, k = j + 1 := ⟨k - 1, by omega⟩
  obtain ⟨p, O⟩ := odd_of hb hn
  obtain ⟨s1, e1, x1⟩ := bad_lis hb (j + 1) (by omega) s (Ext.refl s)
  obtain ⟨s2, e2, x2⟩ := O.is4 j s1 (by omega) x1
  have e17 : F (j + 1) 17 [d] s1 = .ok (.bl false) s2 := by rw [r17]; exact fnRes_ret (sRet_ok ((eCall1 (eVar_ok rfl)).trans e2))
  obtain ⟨s3, e3, x3⟩ := parts_odd (j + 1) (by omega) (O.ext (x1.trans x2))
  exact ⟨s3, sIf_skip ((tOr_f (tVal_b ((eCall1 (eVar_ok rfl)).trans e1))).trans ((tOr_f (isnot_ff ((eCall1 (eVar_ok rfl)).trans e17))).trans (isnot_ff ((eCall1 (eTup_ok (aCons_ok (eVar_ok rfl) aNil_ok) (by show (1 : Nat) ≤ 16777216; omega))).trans e3)))), (x1.trans x2).trans x3⟩
theorem allO_rep {α β : Type} {f : α → Option β} {t : β} : ∀ {xs : List α}, (∀ x ∈ xs, f x = some t) → allO f xs = some (List.replicate xs.length t)
  | [], _ => rfl
  | x :: xs, h => by
    unfold allO
    rw [h x (by simp), allO_rep fun y hy => h y (List.mem_cons_of_mem _ hy)]
    rfl
theorem six_ok (k : Nat) (hk : 16 ≤ k) {s : Sto} {sc t d : D} {o3 o4 o6 o7 : Option D} {p : PyData} (h : Odd s d p) : ∃ s' ys, eLc [8] (iSeq (eTup (aCons (eC (.int 0)) (aCons (eC (.int 1)) (aCons (eC (.int 2)) (aCons (eC (.int 3)) (aCons (eC (.int 4)) (aCons (eC (.int 6)) aNil)))))))) (gVar 8) tTrue (eCall (F k) 36 (aApp (aCons (eVar 8) (aCons (eVar 5) (aCons (eC (.int 7)) aNil))) aNil)) (fr sc t o3 o4 (some d) o6 o7) s = .ok (.ref s'.length) (s' ++ [.lst ys]) ∧ Ext s s' ∧ ys.length = 6 ∧ ∀ y ∈ ys, toPD s' 13 y = some (.tuple [pS (wrd 2), p]) := by
  obtain ⟨s', ys, e, x, hl, hy⟩ := eLc_run (own := [8]) (it := iSeq (eTup (aCons (eC (.int 0)) (aCons (eC (.int 1)) (aCons (eC (.int 2)) (aCons (eC (.int 3)) (aCons (eC (.int 4)) (aCons (eC (.int 6)) aNil)))))))) (gx := gVar 8) (t := tTrue) (e := eCall (F k) 36 (aApp (aCons (eVar 8) (aCons (eVar 5) (aCons (eC (.int 7)) aNil))) aNil)) (f := fr sc t o3 o4 (some d) o6 o7) (f0 := fr sc t o3 o4 (some d) o6 o7) (s := s) (s1 := s) (x := .tup [.int 0, .int 1, .int 2, .int 3, .int 4, .int 6]) [.int 0, .int 1, .int 2, .int 3, .int 4, .int 6]
    (fun i s' acc => Ext s s' ∧ acc.length = i ∧ ∀ y ∈ acc, toPD s' 13 y = some (.tuple [pS (wrd 2), p])) (by kernel_rfl) rfl (fun i s' acc _ => rfl)
    (fun i e s1 acc hx hp => by
      obtain ⟨x1, h1, h2⟩ := hp
      obtain ⟨kd, hkd, rfl⟩ : ∃ kd : Nat, kd ∈ [0, 1, 2, 3, 4, 6] ∧ e = .int kd := by
        match i, hx with
        | 0, hx => cases hx; exact ⟨0, by simp, rfl⟩
        | 1, hx => cases hx; exact ⟨1, by simp, rfl⟩
        | 2, hx => cases hx; exact ⟨2, by simp, rfl⟩
        | 3, hx => cases hx; exact ⟨3, by simp, rfl⟩
        | 4, hx => cases hx; exact ⟨4, by simp, rfl⟩
        | 5, hx => cases hx; exact ⟨6, by simp, rfl⟩
        | i + 6, hx => simp at hx
      obtain ⟨v, s2, e2, x2, q2⟩ := ask_odd k hk (h.ext x1) kd hkd
      have hi := (List.getElem?_eq_some_iff.mp hx).1
      refine ⟨[some sc, some (.ref 1), some t, o3, o4, some d, o6, o7, some (.int kd)], rfl, .inr ⟨s1, .tup [.str (wrd 2), v], s2, rfl, (eCall3 (s3 := s1) (eVar_ok rfl) (eVar_ok rfl) rfl).trans e2, by have hi' : i < 6 := hi; omega, x1.trans x2, by simp [h1], fun y hy => ?_⟩⟩
      rcases List.mem_append.mp hy with hy | hy
      · exact toPD_ext x2 _ _ _ (h2 y hy)
      · rw [List.mem_singleton.mp hy]
        exact tup2_pd (toPD_str s2 12 (by decide)) q2) ⟨Ext.refl s, rfl, fun y hy => by cases hy⟩ (by simp)
  exact ⟨s', ys, e, x, hl, hy⟩
theorem s5_ok (k : Nat) (hk : 16 ≤ k) {s : Sto} {sc t d : D} {o3 o4 o6 o7 : Option D} {p : PyData} (h : Odd s d p) : ∃ s', S5 k (fr sc t o3 o4 (some d) o6 o7) s = .next (fr sc t o3 o4 (some d) o6 o7) s' ∧ Ext s s' := by
  obtain ⟨s1, ys, e1, x1, hl, hy⟩ := six_ok k hk (sc := sc) (t := t) (o3 := o3) (o4 := o4) (o6 := o6) (o7 := o7) h
  have x2 : Ext s1 ((s1 ++ [MO.lst ys]) ++ [.lst [.tup [.str (wrd 2), d]]]) := (Ext.push _ _).trans (Ext.push _ _)
  have M : eBin opMul (eLst (aCons (eTup (aCons (eC (.str [115, 97, 121, 105, 110, 103])) (aCons (eVar 5) aNil))) aNil)) (eC (.int 6)) (fr sc t o3 o4 (some d) o6 o7) (s1 ++ [.lst ys]) = .ok (.ref ((s1 ++ [MO.lst ys]) ++ [MO.lst [.tup [.str (wrd 2), d]]]).length) (((s1 ++ [MO.lst ys]) ++ [.lst [.tup [.str (wrd 2), d]]]) ++ [.lst (List.replicate 6 (.tup [.str (wrd 2), d]))]) := by
    refine (eBin_ok (eLst_ok (aCons_ok (eTup_ok (aCons_ok (s1 := s1 ++ [.lst ys]) rfl (aCons_ok (eVar_ok rfl) aNil_ok)) (by show (2 : Nat) ≤ 16777216; omega)) aNil_ok) (by show (1 : Nat) ≤ 16777216; omega)) rfl).trans ?_
    unfold opMul
    simp only [get_new]
    exact if_pos ⟨by omega, by omega, by show (1 : Nat) ≤ 1000; omega⟩
  have y0 : Ext s1 (((s1 ++ [MO.lst ys]) ++ [.lst [.tup [.str (wrd 2), d]]]) ++ [.lst (List.replicate 6 (.tup [.str (wrd 2), d]))]) := x2.trans (Ext.push _ _)
  have g1 : (((s1 ++ [MO.lst ys]) ++ [MO.lst [.tup [.str (wrd 2), d]]]) ++ [MO.lst (List.replicate 6 (.tup [.str (wrd 2), d]))])[s1.length]? = some (.lst ys) := ((Ext.push _ _).trans (Ext.push _ _)).get (get_new _ _)
  have g2 := get_new ((s1 ++ [MO.lst ys]) ++ [MO.lst [.tup [.str (wrd 2), d]]]) (.lst (List.replicate 6 (.tup [.str (wrd 2), d])))
  have p1 := lst_pd (n := 13) g1 (allO_rep (t := .tuple [pS (wrd 2), p]) fun y q => toPD_ext y0 _ _ _ (hy y q))
  have p2 := lst_pd (n := 13) g2 (allO_rep (t := .tuple [pS (wrd 2), p]) fun y q => by
    rw [List.eq_of_mem_replicate q]
    exact tup2_pd (toPD_str _ 12 (by decide)) (toPD_ext (x1.trans y0) _ _ _ h.pd))
  rw [hl] at p1
  rw [List.length_replicate] at p2
  refine ⟨_, sIf_skip (tVal_b ((eBin_ok e1 M).trans (ne_same (toPD_le 14 60 _ _ (by omega) p1) (toPD_le 14 60 _ _ (by omega) p2)))), x1.trans y0⟩
/-! ### no names -/
theorem not_str (k : Nat) {s : Sto} {d : D} (h : isinst (subT tab) .str s d = some false) : F (k + 1) 2 [d] s = .ok (.bl false) s ∧ F (k + 1) 32 [d] s = .ok (.bl false) s := by
  rw [r2, r32]
  exact ⟨fnRes_ret (sSeq_r ((sIf_t (tOr_t (tNot_ok (b := false) (tVal_b (eIs_ok (eVar_ok rfl) h))))).trans (sRet_ok rfl))), fnRes_ret (sSeq_r ((sIf_t (tOr_t (tNot_ok (b := false) (tVal_b (eIs_ok (eVar_ok rfl) h))))).trans (sRet_ok rfl)))⟩
theorem nn_of {s : Sto} {d : D} {p : PyData} (h : ∀ s1, Ext s s1 → isinst (subT tab) .str s1 d = some false) (hp : toPD s 12 d = some p) (hs : Sm p 3000) : NoNm s d p :=
  ⟨fun k s1 x => (not_str k (h s1 x)).1, fun k s1 x => ⟨s1, (not_str k (h s1 x)).2, Ext.refl _⟩, hp, hs⟩
def xs6 (w : Cs) (p : Nat) : List D := [.str w, .ref p, .non, .int 4, .tup [.str [112]], .tup [.str [112], .str [113]]]
theorem six_nn {s : Sto} {w : Cs} {q : Nat} (hw : w ∈ words) (hq : s[q]? = some (.lst [.str [112]])) {v : Nat} {d : D} (h : (xs6 w q)[v]? = some d) : (d = .str w ∧ nmB w = true) ∨ ∃ p, NoNm s d p := by
  match v, h with
  | 0, h =>
    cases h
    cases hb : nmB w with
    | true => exact .inl ⟨rfl, rfl⟩
    | false =>
      refine .inr ⟨pS w, fun k s1 x => by rw [nm_ok k s1 w hw, hb], fun k s1 x => ?_, toPD_str s 12 (lnm_nm w hw).2, ?_⟩
      · obtain ⟨s2, e, x2⟩ := lawnm_ok k s1 w hw
        exact ⟨s2, by rw [e, hb], x2⟩
      · have hl : w.length ≤ 1000 := by
          have : (words.all fun w => decide (w.length ≤ 1000)) = true := by decide +kernel
          simpa using List.all_eq_true.mp this w hw
        exact (sm_str (lnm_nm w hw).2 hl).le (by omega)
  | 1, h => cases h; exact .inr ⟨.list [pS [112]], nn_of (fun s1 x => by unfold isinst tyD; simp only [x.get hq]; rfl) (toPD_le 2 12 _ _ (by omega) (lst_pd hq rfl)) ((⟨by decide, by decide, by decide⟩ : Sm (.list [pS [112]]) 10).le (by omega))⟩
  | 2, h => cases h; exact .inr ⟨.none, nn_of (fun s1 x => rfl) rfl (Sm.non.le (by omega))⟩
  | 3, h => cases h; exact .inr ⟨.int 4, nn_of (fun s1 x => rfl) rfl ((Sm.int (by omega)).le (by omega))⟩
  | 4, h => cases h; exact .inr ⟨.tuple [pS [112]], nn_of (fun s1 x => rfl) rfl ((⟨by decide, by decide, by decide⟩ : Sm (.tuple [pS [112]]) 10).le (by omega))⟩
  | 5, h => cases h; exact .inr ⟨.tuple [pS [112], pS [113]], nn_of (fun s1 x => rfl) rfl ((⟨by decide, by decide, by decide⟩ : Sm (.tuple [pS [112], pS [113]]) 10).le (by omega))⟩
  | n + 6, h => simp [xs6] at h
theorem s6_ok (k : Nat) {ns : List Int} {K : Nat} {s : Sto} {sc t : D} {w : Cs} {o4 o5 o6 o7 : Option D} (B : Box ns 0 1 K s) (hK : K < 100000) (hw : w ∈ words) : ∃ d s', S6 (k + 1) (fr sc t (some (.str w)) o4 o5 o6 o7) s = .next (fr sc t (some (.str w)) o4 o5 (some d) o7) s' ∧ ((d = .str w ∧ nmB w = true) ∨ ∃ p, NoNm s' d p) ∧ Box ns 0 1 (K + 1) s' ∧ Chg 1 s s' := by
  have hb := b_lt B
  obtain ⟨v, s', d, e1, e2, e3, e4⟩ := pickOf k 1 (f := fr sc t (some (.str w)) o4 o5 o6 o7) (s := s) (s1 := s ++ [.lst [.str [112]]]) (xs := xs6 w s.length) (ax := aCons (eVar 3) (aCons (eLst (aCons (eC (.str [112])) aNil)) (aCons (eC (.non)) (aCons (eC (.int 4)) (aCons (eTup (aCons (eC (.str [112])) aNil)) (aCons (eTup (aCons (eC (.str [112])) (aCons (eC (.str [113])) aNil))) aNil)))))) (e := eC (.int 6)) (B.ext (Ext.push _ _)) (by omega) rfl (by kernel_rfl) (fun _ => rfl) (by simp [xs6]) (by simp [xs6])
  exact ⟨d, s', sAsg_ok e1 rfl, six_nn hw (e4.2 _ _ (by omega) (get_new _ _)) e2, e3, (Chg.ext (Ext.push _ _)).trans e4⟩
theorem s7_ok (k : Nat) (hk : 18 ≤ k) {s : Sto} {sc t sy : D} {w : Cs} {d od : D} {o7 : Option D} (hw : w ∈ words) (hs : Say 2 sy) (h : (d = .str w ∧ nmB w = true) ∨ ∃ p, NoNm s d p) : ∃ s', S7 k (fr sc t (some (.str w)) (some sy) (some od) (some d) o7) s = .next (fr sc t (some (.str w)) (some sy) (some od) (some d) o7) s' ∧ Ext s s' := by
  obtain ⟨j, rfl⟩ : ∃ j, k = j + 1 := ⟨k - 1, by omega⟩
  rcases h with ⟨rfl, hb⟩ | ⟨p, h⟩
  · obtain ⟨s1, e1, x1⟩ := lawnm_ok j s w hw
    rw [hb] at e1
    exact ⟨s1, sIf_skip (tAnd_f (tNot_ok (b := true) (tVal_b ((eCall1 (eVar_ok rfl)).trans e1)))), x1⟩
  · obtain ⟨s1, e1, x1⟩ := h.l32 j s (Ext.refl s)
    have up : ∀ {s' : Sto}, Ext s s' → NoNm s' d p := fun x => ⟨fun k s1 x' => h.is2 k s1 (x.trans x'), fun k s1 x' => h.l32 k s1 (x.trans x'), toPD_ext x _ _ _ h.pd, h.sm⟩
    obtain ⟨v, s2, e2, x2, q2⟩ := ask5 (j + 1) (by omega) (d2 := od) (up x1)
    obtain ⟨u, s3, e3, x3, q3⟩ := ask4 (j + 1) (by omega) hs (by omega) (up (x1.trans x2))
    obtain ⟨i, rfl⟩ : ∃ i, j = i + 1 := ⟨j - 1, by omega⟩
    have e4 : F (i + 1 + 1) 16 [d] s3 = .ok (.bl false) s3 := by rw [r16]; exact fnRes_ret (sRet_ok ((eCall1 (eVar_ok rfl)).trans ((up ((x1.trans x2).trans x3)).is2 i s3 (Ext.refl _))))
    have c1 := same_pd q2 (toPD_ext (x1.trans x2) _ _ _ h.pd) s2 (Ext.refl _) (wrd 1) (by decide)
    have c2 := same_pd q3 (toPD_ext ((x1.trans x2).trans x3) _ _ _ h.pd) s3 (Ext.refl _) (wrd 1) (by decide)
    have tp : ∀ s, eTup (aCons (eC (.str [110, 97, 109, 101])) (aCons (eVar 6) aNil)) (fr sc t (some (.str w)) (some sy) (some od) (some d) o7) s = .ok (.tup [.str (wrd 1), d]) s := fun s => eTup_ok (aCons_ok (s1 := s) rfl (aCons_ok (eVar_ok rfl) aNil_ok)) (by show (2 : Nat) ≤ 16777216; omega)
    exact ⟨s3, sIf_skip ((tAnd_t (tNot_ok (b := false) (tVal_b ((eCall1 (eVar_ok rfl)).trans e1)))).trans ((tOr_f (tVal_b ((eBin_ok ((eCall3 (s1 := s1) rfl (eVar_ok rfl) (eVar_ok rfl)).trans e2) (tp s2)).trans c1))).trans
      ((tOr_f (tVal_b ((eBin_ok ((eCall3 (s1 := s2) rfl (eVar_ok rfl) (eVar_ok rfl)).trans e3) (tp s3)).trans c2))).trans (isnot_ff ((eCall1 (eVar_ok rfl)).trans e4))))), (x1.trans x2).trans x3⟩
end K01
set_option Elab.async false
set_option linter.all false
set_option maxRecDepth 100000
set_option maxHeartbeats 4000000
namespace K01
open PySem LG
def xs5 (sy od : D) (q b : Nat) : List D := [.tup [sy, od], .ref q, od, .tup (List.replicate 13 sy), .ref b]
theorem wb4 {n : Nat} (h : n ≤ 4) : WB n ≤ 3000 := by
  match n, h with
  | 0, _ => decide
  | 1, _ => decide
  | 2, _ => decide
  | 3, _ => decide
  | 4, _ => decide
/-- a row: no empty tuple -/
theorem row5 {s : Sto} {sy od : D} {q b n : Nat} {kvs : List (D × D)} (hs : Say 2 sy) (hn : n ≤ 4) (ho : Bad s n od) (hq : s[q]? = some (.lst [sy])) (hb : s[b]? = some (.box kvs)) {v : Nat} {d : D} (h : (xs5 sy od q b)[v]? = some d) :
    d = .tup [] ∨ (Row s d ∧ ((∃ x xs, d = .tup (x :: xs)) ∨ isinst (subT tab) .tuple s d = some false)) := by
  obtain ⟨p, p1, p2⟩ := say_pd hs
  obtain ⟨u, u1, u2⟩ := bad_pd ho
  have hw2 : Wt 2 ≤ 100 := by decide
  have hwb := wb4 hn
  match v, h with
  | 0, h =>
    cases h
    refine .inr ⟨row_all (fun i => i == 0) (by simp) rfl (p := .tuple [p, u]) (toPD_le 11 12 _ _ (by omega) (tup2_pd (p1 s 10 (by omega)) (toPD_le _ 10 _ _ (by omega) u1))) (lim_of (Sm.tup (SmL.cons p2 (SmL.cons u2 SmL.nil))) (by omega)) fun k i d hk hd s1 x => ?_, .inl ⟨_, _, rfl⟩⟩
    match i, hd with
    | 0, hd => cases hd; exact say_is hs k (by omega) s1
    | 1, hd => cases hd; exact bad_is ho k (by omega) s1 x
    | i + 2, hd => simp at hd
  | 1, h =>
    cases h
    exact .inr ⟨row_nt (fun s1 x => by unfold isinst tyD; simp only [x.get hq]; rfl) (p := .list [p]) (toPD_le 11 12 _ _ (by omega) (lst_pd (n := 10) hq (by unfold allO; rw [p1 s 10 (by omega)]; rfl))) (lim_of (Sm.list (SmL.cons p2 SmL.nil)) (by omega)), .inr (by unfold isinst tyD; simp only [hq]; rfl)⟩
  | 2, h =>
    cases h
    by_cases z : od = .tup []
    · exact .inl z
    · refine .inr ⟨bad_row ho hn z, ?_⟩
      cases ho with
      | non => exact .inr rfl
      | int => exact .inr rfl
      | bl => exact .inr rfl
      | str => exact .inr rfl
      | lst _ h1 => exact .inr (by unfold isinst tyD; simp only [h1]; rfl)
      | nil => exact absurd rfl z
      | _ => exact .inl ⟨_, _, rfl⟩
  | 3, h =>
    cases h
    have e : allO (toPD s 11) (List.replicate 13 sy) = some (List.replicate 13 p) := by
      have := allO_rep (f := toPD s 11) (t := p) (xs := List.replicate 13 sy) fun x hx => by rw [List.eq_of_mem_replicate hx]; exact p1 s 11 (by omega)
      rw [List.length_replicate] at this
      exact this
    have sm : ∀ m, SmL (List.replicate m p) (101 * m) := fun m => by
      induction m with
      | zero => exact SmL.nil
      | succ m ih => exact (SmL.cons (p2.le hw2) ih).le (by omega)
    exact .inr ⟨row_long (by simp) (tup_pd e) (lim_of (Sm.tup (sm 13)) (by omega)), .inl ⟨_, _, rfl⟩⟩
  | 4, h => cases h; exact .inr ⟨row_box hb, .inr (by unfold isinst tyD; simp only [hb]; rfl)⟩
  | m + 5, h => simp [xs5] at h
abbrev a5 : AX := (aCons (eTup (aCons (eVar 4) (aCons (eVar 5) aNil))) (aCons (eLst (aCons (eVar 4) aNil)) (aCons (eVar 5) (aCons (eBin opMul (eTup (aCons (eVar 4) aNil)) (eC (.int 13))) (aCons (eBox [112] (eVar 4)) aNil)))))
theorem a5_ok (sc t sy od : D) (o3 o6 o7 : Option D) (s : Sto) : a5 (fr sc t o3 (some sy) (some od) o6 o7) s = .ok (xs5 sy od s.length (s ++ [MO.lst [sy]]).length) ((s ++ [.lst [sy]]) ++ [.box [(.str [112], sy)]]) := by kernel_rfl
theorem s8_ok (k : Nat) {ns : List Int} {K : Nat} {s : Sto} {sc t sy od : D} {o3 o6 o7 : Option D} {n : Nat} (B : Box ns 0 1 K s) (hK : K < 100000) (hs : Say 2 sy) (hn : n ≤ 4) (ho : Bad s n od) : ∃ d s', S8 (k + 1) (fr sc t o3 (some sy) (some od) o6 o7) s = .next (fr sc t o3 (some sy) (some od) o6 (some d)) s' ∧ (d = .tup [] ∨ (Row s' d ∧ ((∃ x xs, d = .tup (x :: xs)) ∨ isinst (subT tab) .tuple s' d = some false))) ∧ Box ns 0 1 (K + 1) s' := by
  have hb := b_lt B
  have x : Ext s ((s ++ [MO.lst [sy]]) ++ [.box [(.str [112], sy)]]) := (Ext.push _ _).trans (Ext.push _ _)
  obtain ⟨v, s', d, e1, e2, e3, e4⟩ := pickOf k 1 (f := fr sc t o3 (some sy) (some od) o6 o7) (s := s) (s1 := (s ++ [MO.lst [sy]]) ++ [.box [(.str [112], sy)]]) (xs := xs5 sy od s.length (s ++ [MO.lst [sy]]).length) (ax := a5) (e := eC (.int 5)) (B.ext x) (by omega) rfl (a5_ok _ _ _ _ _ _ _ _) (fun _ => rfl) (by simp [xs5]) (by simp [xs5])
  exact ⟨d, s', sAsg_ok e1 rfl, row5 hs hn (ho.chg ((Chg.ext x).trans e4)) (e4.2 _ _ (by omega) ((Ext.push _ _).get (get_new _ _))) (e4.2 _ _ (by rw [len_snoc]; omega) (get_new _ _)) e2, e3⟩
theorem sSeq_c {a b : SX} {f f' : Fr} {s s' : Sto} (h : a f s = .cont f' s') : sSeq a b f s = .cont f' s' := by unfold sSeq; rw [h]
theorem s9_c (k : Nat) {s : Sto} {sc t : D} {o3 o4 o5 o6 : Option D} : S9 k (fr sc t o3 o4 o5 o6 (some (.tup []))) s = .cont (fr sc t o3 o4 o5 o6 (some (.tup []))) s := by
  exact (sIf_t (s' := s) (by kernel_rfl)).trans rfl
theorem s9_n (k : Nat) {s : Sto} {sc t d : D} {o3 o4 o5 o6 : Option D} (h : (∃ x xs, d = .tup (x :: xs)) ∨ isinst (subT tab) .tuple s d = some false) : S9 k (fr sc t o3 o4 o5 o6 (some d)) s = .next (fr sc t o3 o4 o5 o6 (some d)) s := by
  rcases h with ⟨x, xs, rfl⟩ | h
  · refine sIf_skip ((tAnd_t (tVal_b (eIs_ok (eVar_ok rfl) rfl))).trans ((eq0 0 ((eFn1 (eVar_ok rfl)).trans rfl)).trans ?_))
    rw [decide_eq_false (by simp; omega)]
  · exact sIf_skip (tAnd_f (tVal_b (eIs_ok (eVar_ok rfl) h)))
theorem s10_ok (k : Nat) (hk : 18 ≤ k) {s : Sto} {sc t d : D} {o3 o4 o5 o6 : Option D} (h : Row s d) : ∃ s', S10 k (fr sc t o3 o4 o5 o6 (some d)) s = .next (fr sc t o3 o4 o5 o6 (some d)) s' ∧ Ext s s' := by
  obtain ⟨v, s1, e1, x1, q1⟩ := ask7 k (by omega) h (Ext.refl s)
  obtain ⟨u, s2, e2, x2, q2⟩ := ask8 k (by omega) h x1
  have tp : ∀ s, eTup (aCons (eC (.str [115, 97, 121, 105, 110, 103, 115])) (aCons (eVar 7) aNil)) (fr sc t o3 o4 o5 o6 (some d)) s = .ok (.tup [.str (wrd 3), d]) s := fun s => eTup_ok (aCons_ok (s1 := s) rfl (aCons_ok (eVar_ok rfl) aNil_ok)) (by show (2 : Nat) ≤ 16777216; omega)
  exact ⟨s2, sIf_skip ((tOr_f (tVal_b ((eBin_ok ((eCall3 (s1 := s) (s3 := s) rfl (eVar_ok rfl) rfl).trans e1) (tp s1)).trans (q1 s1 (Ext.refl _) _ (by decide))))).trans (tVal_b ((eBin_ok ((eCall3 (s1 := s1) (s3 := s1) rfl (eVar_ok rfl) rfl).trans e2) (tp s2)).trans (q2 s2 (Ext.refl _) _ (by decide))))), x1.trans x2⟩
theorem turn_ok (k : Nat) (hk : 20 ≤ k) {ns : List Int} {K : Nat} {s : Sto} {sc t : D} {o3 o4 o5 o6 o7 : Option D} (B : Box ns 0 1 K s) (hK : K < 50000) :
    ∃ f' s', (bLaw k (fr sc t o3 o4 o5 o6 o7) s = .next f' s' ∨ bLaw k (fr sc t o3 o4 o5 o6 o7) s = .cont f' s') ∧ (∃ o3 o4 o5 o6 o7, f' = fr sc t o3 o4 o5 o6 o7) ∧ Box ns 0 1 (K + 50) s' := by
  obtain ⟨j, rfl⟩ : ∃ j, k = j + 5 := ⟨k - 5, by omega⟩
  obtain ⟨w, s0, e0, hw, B0⟩ := word_ok (j + 3) B (by omega)
  have a0 : S0 (j + 5) (fr sc t o3 o4 o5 o6 o7) s = .next (fr sc t (some (.str w)) o4 o5 o6 o7) s0 := sAsg_ok ((eCall1 (eVar_ok rfl)).trans e0) rfl
  obtain ⟨s1, a1, x1⟩ := s1_ok (j + 2) (sc := sc) (t := t) (o4 := o4) (o5 := o5) (o6 := o6) (o7 := o7) hw s0
  obtain ⟨sy, s2, a2, hs, B2⟩ := s2_ok j (sc := sc) (t := t) (o3 := some (.str w)) (o4 := o4) (o5 := o5) (o6 := o6) (o7 := o7) (B0.ext x1) (by omega)
  obtain ⟨od, s3, n, a3, hn, ho, B3⟩ := s3_ok (j + 3) (sc := sc) (t := t) (o3 := some (.str w)) (o5 := o5) (o6 := o6) (o7 := o7) B2 (by omega) hs
  obtain ⟨s4, a4, x4⟩ := s4_ok (j + 5) (by omega) (sc := sc) (t := t) (o3 := some (.str w)) (o4 := some sy) (o6 := o6) (o7 := o7) hn ho
  obtain ⟨p, O⟩ := odd_of ho hn
  obtain ⟨s5, a5', x5⟩ := s5_ok (j + 5) (by omega) (sc := sc) (t := t) (o3 := some (.str w)) (o4 := some sy) (o6 := o6) (o7 := o7) (O.ext x4)
  have x35 := x4.trans x5
  obtain ⟨d6, s6, a6, h6, B6, c6⟩ := s6_ok (j + 4) (sc := sc) (t := t) (o4 := some sy) (o5 := some od) (o6 := o6) (o7 := o7) (B3.ext x35) (by omega) hw
  obtain ⟨s7, a7', x7⟩ := s7_ok (j + 5) (by omega) (sc := sc) (t := t) (od := od) (o7 := o7) hw hs h6
  have ho7 : Bad s7 n od := ((ho.chg (Chg.ext x35)).chg c6).chg (Chg.ext x7)
  obtain ⟨d, s8, a8, h8, B8⟩ := s8_ok (j + 4) (sc := sc) (t := t) (o3 := some (.str w)) (o6 := some d6) (o7 := o7) (B6.ext x7) (by omega) hs hn ho7
  have pre : ∀ R : SX, sSeq (S0 (j + 5)) (sSeq (S1 (j + 5)) (sSeq (S2 (j + 5)) (sSeq (S3 (j + 5)) (sSeq (S4 (j + 5)) (sSeq (S5 (j + 5)) (sSeq (S6 (j + 5)) (sSeq (S7 (j + 5)) (sSeq (S8 (j + 5)) R)))))))) (fr sc t o3 o4 o5 o6 o7) s = R (fr sc t (some (.str w)) (some sy) (some od) (some d6) (some d)) s8 := fun R =>
    (sSeq_n a0).trans ((sSeq_n a1).trans ((sSeq_n a2).trans ((sSeq_n a3).trans ((sSeq_n a4).trans ((sSeq_n a5').trans ((sSeq_n a6).trans ((sSeq_n a7').trans (sSeq_n a8))))))))
  rcases h8 with rfl | ⟨hr, ht⟩
  · exact ⟨_, s8, .inr ((pre _).trans (sSeq_c (s9_c (j + 5)))), ⟨_, _, _, _, _, rfl⟩, B8.le (by omega)⟩
  · obtain ⟨s10, a10, x10⟩ := s10_ok (j + 5) (by omega) (sc := sc) (t := t) (o3 := some (.str w)) (o4 := some sy) (o5 := some od) (o6 := some d6) hr
    exact ⟨_, s10, .inl ((pre _).trans ((sSeq_n (s9_n (j + 5) ht)).trans a10)), ⟨_, _, _, _, _, rfl⟩, (B8.ext x10).le (by omega)⟩
end K01
set_option Elab.async false
set_option linter.all false
set_option maxRecDepth 100000
set_option maxHeartbeats 4000000
namespace K01
open PySem LG
abbrev T0 : D := .tup [.str sTru]
abbrev N0 : D := .tup [.str sFal]
/-! ### all_in of some true and one false -/
abbrev wT : TX := tVal (eBin cmpGt (eFn bLen (aCons (eVar 2) aNil)) (eC (.int 0)))
abbrev wB (k : Nat) : SX := sSeq (sAsg (gVar 3) (eMt mPop (eVar 2) aNil)) (sIf (tVal (eBin cmpNotIn (eVar 3) (eVar 1))) (sSeq (sSetI (eVar 1) (eVar 3) (eC (.bl true))) (sExpr (eMt mExtend (eVar 2) (aCons (eCall (F k) 3 (aApp (aCons (eVar 3) aNil) aNil)) aNil)))) sSkip)
def st (s : Sto) (kvs : List (D × D)) (xs : List D) : Sto := (s ++ [.dct kvs]) ++ [.lst xs]
abbrev fw (s : Sto) (d : D) (o : Option D) : Fr := [some d, some (.ref s.length), some (.ref (s.length + 1)), o]
theorem st_d (s : Sto) (kvs : List (D × D)) (xs : List D) : (st s kvs xs)[s.length]? = some (.dct kvs) := (Ext.push _ _).get (get_new _ _)
theorem st_l (s : Sto) (kvs : List (D × D)) (xs : List D) : (st s kvs xs)[s.length + 1]? = some (.lst xs) := by
  have := get_new (s ++ [MO.dct kvs]) (.lst xs)
  rw [len_snoc] at this
  exact this
theorem st_sd (s : Sto) (kvs kvs' : List (D × D)) (xs : List D) : (st s kvs xs).set s.length (.dct kvs') = st s kvs' xs := by
  unfold st
  rw [List.set_append_left _ _ (by rw [len_snoc]; omega), set_new]
theorem st_sl (s : Sto) (kvs : List (D × D)) (xs xs' : List D) : (st s kvs xs).set (s.length + 1) (.lst xs') = st s kvs xs' := by
  have := set_new (s ++ [MO.dct kvs]) (.lst xs) (.lst xs')
  rw [len_snoc] at this
  exact this
theorem inner_0 (k : Nat) (s : Sto) (d : D) (h : d = T0 ∨ d = N0) : F (k + 1) 3 [d] s = .ok (.tup []) s := by
  rw [r3]
  rcases h with rfl | rfl <;> kernel_rfl
theorem pop_ok (s : Sto) (kvs : List (D × D)) (xs : List D) (d y : D) (o : Option D) : sAsg (gVar 3) (eMt mPop (eVar 2) aNil) (fw s d o) (st s kvs (xs ++ [y])) = .next (fw s d (some y)) (st s kvs xs) := by
  refine sAsg_ok (d := y) ?_ rfl
  unfold eMt LG.bnd
  rw [eVar_ok (d := .ref (s.length + 1)) rfl]
  simp only
  have h := st_l s kvs (xs ++ [y])
  have hi : isLst (st s kvs (xs ++ [y])) (.ref (s.length + 1)) = true := by unfold isLst; simp only [h]
  rw [if_pos hi]
  show mPop (.ref (s.length + 1)) [] (st s kvs (xs ++ [y])) = _
  unfold mPop
  simp only [h]
  have e : (xs ++ [y])[(xs ++ [y]).length - 1]? = some y := by simp
  simp only [e, List.dropLast_concat, st_sl]
/-- a turn whose key is new -/
theorem turn_new (k : Nat) (s : Sto) (kvs : List (D × D)) (xs : List D) (d y : D) (o : Option D) {q : NestedKey} (hy : y = T0 ∨ y = N0) (hk : keyT y = some q) (hg : dGet q kvs = none) (hl : kvs.length < 1000) (hx : xs.length ≤ 1000) :
    wB (k + 1) (fw s d o) (st s kvs (xs ++ [y])) = .next (fw s d (some y)) (st s (kvs ++ [(y, .bl true)]) xs) := by
  have c : tVal (eBin cmpNotIn (eVar 3) (eVar 1)) (fw s d (some y)) (st s kvs xs) = .ok true (st s kvs xs) := by
    refine tVal_b ((eBin_ok (eVar_ok rfl) (eVar_ok rfl)).trans ?_)
    unfold cmpNotIn memO
    simp only [st_d, hk, Option.map_some, hg]
    rfl
  have e1 : sSetI (eVar 1) (eVar 3) (eC (.bl true)) (fw s d (some y)) (st s kvs xs) = .next (fw s d (some y)) (st s (kvs ++ [(y, .bl true)]) xs) := by
    refine sSetI_ok (v := .bl true) rfl (eVar_ok rfl) (eVar_ok rfl) ?_
    unfold setI
    simp only [st_d, hk]
    rw [if_pos (by show _ < 16777216; omega), st_sd]
    unfold dPut
    rw [hg]
    rfl
  have e2 : sExpr (eMt mExtend (eVar 2) (aCons (eCall (F (k + 1)) 3 (aApp (aCons (eVar 3) aNil) aNil)) aNil)) (fw s d (some y)) (st s (kvs ++ [(y, .bl true)]) xs) = .next (fw s d (some y)) (st s (kvs ++ [(y, .bl true)]) xs) := by
    refine sExpr_ok (d := .non) ?_
    unfold eMt LG.bnd
    rw [eVar_ok (d := .ref (s.length + 1)) rfl]
    simp only
    have h := st_l s (kvs ++ [(y, .bl true)]) xs
    have hi : isLst (st s (kvs ++ [(y, .bl true)]) xs) (.ref (s.length + 1)) = true := by unfold isLst; simp only [h]
    rw [if_pos hi, aCons_ok ((eCall1 (eVar_ok rfl)).trans (inner_0 k _ y hy)) aNil_ok]
    show mExtend (.ref (s.length + 1)) [.tup []] (st s (kvs ++ [(y, .bl true)]) xs) = _
    unfold mExtend
    simp only [h]
    rw [if_pos (by show xs.length + 0 ≤ 16777216; omega), List.append_nil, st_sl]
  exact (sSeq_n (pop_ok s kvs xs d y o)).trans ((sIf_t c).trans ((sSeq_n e1).trans e2))
/-- a turn whose key is there -/
theorem turn_old (k : Nat) (s : Sto) (kvs : List (D × D)) (xs : List D) (d y v : D) (o : Option D) {q : NestedKey} (hk : keyT y = some q) (hg : dGet q kvs = some v) :
    wB k (fw s d o) (st s kvs (xs ++ [y])) = .next (fw s d (some y)) (st s kvs xs) := by
  have c : tVal (eBin cmpNotIn (eVar 3) (eVar 1)) (fw s d (some y)) (st s kvs xs) = .ok false (st s kvs xs) := by
    refine tVal_b ((eBin_ok (eVar_ok rfl) (eVar_ok rfl)).trans ?_)
    unfold cmpNotIn memO
    simp only [st_d, hk, Option.map_some, hg]
    rfl
  exact (sSeq_n (pop_ok s kvs xs d y o)).trans (sIf_skip c)
theorem wT_ok (s : Sto) (kvs : List (D × D)) (xs : List D) (d : D) (o : Option D) : wT (fw s d o) (st s kvs xs) = .ok (decide ((0 : Int) < xs.length)) (st s kvs xs) := by
  refine tVal_b ((eBin_ok ((eFn1 (eVar_ok rfl)).trans (?_ : _ = Res.ok (D.int xs.length) (st s kvs xs))) rfl).trans rfl)
  unfold bLen lenO
  simp only [st_l]
theorem while_t {t : TX} {b : SX} {n : Nat} {f f2 : Fr} {s s1 s2 : Sto} (ht : t f s = .ok true s1) (hb : b f s1 = .next f2 s2) : whileI t b (n + 1) f s = whileI t b n f2 s2 := by
  show (match t f s with | .ok true s1 => (match b f s1 with | .next f2 s2 => whileI t b n f2 s2 | .cont f2 s2 => whileI t b n f2 s2 | .brk f2 s2 => .next f2 s2 | r => r) | .ok false s1 => .next f s1 | .err c v s1 => .err f c v s1 | .bad => .bad) = _
  rw [ht]
  simp only [hb]
theorem while_f {t : TX} {b : SX} {n : Nat} {f : Fr} {s s1 : Sto} (ht : t f s = .ok false s1) : whileI t b (n + 1) f s = .next f s1 := by
  show (match t f s with | .ok true s1 => (match b f s1 with | .next f2 s2 => whileI t b n f2 s2 | .cont f2 s2 => whileI t b n f2 s2 | .brk f2 s2 => .next f2 s2 | r => r) | .ok false s1 => .next f s1 | .err c v s1 => .err f c v s1 | .bad => .bad) = _
  rw [ht]
abbrev kT : NestedKey := .tup [.text ⟨sTru.toArray⟩]
abbrev kN : NestedKey := .tup [.text ⟨sFal.toArray⟩]
theorem keyT_T : keyT T0 = some kT := by kernel_rfl
theorem keyT_N : keyT N0 = some kN := by kernel_rfl
theorem rep_snoc (m : Nat) : List.replicate (m + 1) T0 = List.replicate m T0 ++ [T0] := List.replicate_succ'
theorem rest_ok (k : Nat) (s : Sto) (d : D) : ∀ (m n : Nat) (o : Option D), m < n → ∃ o', whileI wT (wB (k + 1)) n (fw s d o) (st s [(N0, .bl true), (T0, .bl true)] (List.replicate m T0)) = .next (fw s d o') (st s [(N0, .bl true), (T0, .bl true)] [])
  | 0, n + 1, o, _ => ⟨o, while_f ((wT_ok s _ _ d o).trans rfl)⟩
  | m + 1, n + 1, o, h => by
    obtain ⟨o', e⟩ := rest_ok k s d m n (some T0) (by omega)
    refine ⟨o', ?_⟩
    rw [rep_snoc]
    refine (while_t (s1 := st s [(N0, .bl true), (T0, .bl true)] (List.replicate m T0 ++ [T0])) ?_ (turn_old (k + 1) s _ _ d T0 (.bl true) o keyT_T (by kernel_rfl))).trans e
    rw [wT_ok, decide_eq_true (by simp)]
theorem all_ok (k : Nat) (s : Sto) (d : D) : ∃ o', whileI wT (wB (k + 1)) 100000000 (fw s d none) (st s [] (List.replicate 12 T0 ++ [N0])) = .next (fw s d o') (st s [(N0, .bl true), (T0, .bl true)] []) := by
  obtain ⟨o', e⟩ := rest_ok k s d 11 99999998 (some T0) (by omega)
  refine ⟨o', ?_⟩
  have e1 := turn_new k s [] (List.replicate 12 T0) d N0 none (.inr rfl) keyT_N (by rfl) (by simp) (by simp)
  have e2 := turn_new k s [(N0, .bl true)] (List.replicate 11 T0) d T0 (some N0) (.inl rfl) keyT_T (by kernel_rfl) (by simp) (by simp)
  rw [← rep_snoc 11] at e2
  have w1 : wT (fw s d none) (st s [] (List.replicate 12 T0 ++ [N0])) = .ok true (st s [] (List.replicate 12 T0 ++ [N0])) := by rw [wT_ok, decide_eq_true (by simp)]
  have w2 : wT (fw s d (some N0)) (st s [(N0, .bl true)] (List.replicate 12 T0)) = .ok true (st s [(N0, .bl true)] (List.replicate 12 T0)) := by rw [wT_ok, decide_eq_true (by simp)]
  exact (while_t (n := 99999999) w1 e1).trans ((while_t (n := 99999998) w2 e2).trans e)
theorem all_in_ok (k : Nat) (s : Sto) : ∃ s' ys, F (k + 2) 5 [.tup (List.replicate 12 T0 ++ [N0])] s = .ok (.ref s'.length) (s' ++ [.lst ys]) := by
  obtain ⟨o', e⟩ := all_ok k s (.tup (List.replicate 12 T0 ++ [N0]))
  refine ⟨st s [(N0, .bl true), (T0, .bl true)] [], [N0, T0], ?_⟩
  rw [r5]
  have e1 : sAsg (gVar 1) eDct [some (.tup (List.replicate 12 T0 ++ [N0])), none, none, none] s = .next [some (.tup (List.replicate 12 T0 ++ [N0])), some (.ref s.length), none, none] (s ++ [.dct []]) := sAsg_ok (d := .ref s.length) rfl rfl
  have e2 : sAsg (gVar 2) (eFn bList (aCons (eVar 0) aNil)) [some (.tup (List.replicate 12 T0 ++ [N0])), some (.ref s.length), none, none] (s ++ [.dct []]) = .next (fw s (.tup (List.replicate 12 T0 ++ [N0])) none) (st s [] (List.replicate 12 T0 ++ [N0])) :=
    sAsg_ok (d := .ref (s.length + 1)) ((eFn1 (eVar_ok rfl)).trans (by show Res.ok (D.ref (s ++ [MO.dct []]).length) _ = _; rw [len_snoc]; rfl)) rfl
  have e3 : sWhile wT (wB (k + 1)) (fw s (.tup (List.replicate 12 T0 ++ [N0])) none) (st s [] (List.replicate 12 T0 ++ [N0])) = .next (fw s (.tup (List.replicate 12 T0 ++ [N0])) o') (st s [(N0, .bl true), (T0, .bl true)] []) := e
  have e4 : bSorted [.ref s.length] (st s [(N0, .bl true), (T0, .bl true)] []) = .ok (.ref (st s [(N0, .bl true), (T0, .bl true)] []).length) (st s [(N0, .bl true), (T0, .bl true)] [] ++ [.lst [N0, T0]]) := by
    unfold bSorted
    simp only [st_d]
    have : sortO (st s [(N0, .bl true), (T0, .bl true)] []) [N0, T0] = some [N0, T0] := by kernel_rfl
    show (match sortO (st s [(N0, .bl true), (T0, .bl true)] []) [N0, T0] with | some ys => LG.alloc (.lst ys) _ | none => .bad) = _
    rw [this]
    rfl
  exact fnRes_ret ((sSeq_n e1).trans ((sSeq_n e2).trans ((sSeq_n e3).trans (sRet_ok ((eFn1 (eVar_ok rfl)).trans e4)))))
theorem parts_ok (k : Nat) (s : Sto) : ∃ d s', F (k + 3) 6 [.tup (List.replicate 12 T0)] s = .ok d s' := by
  obtain ⟨s', ys, e⟩ := all_in_ok k s
  refine ⟨.tup ys, s' ++ [.lst ys], ?_⟩
  rw [r6]
  refine fnRes_ret (sRet_ok ((eFn1 ((eCall1 (x := .tup (List.replicate 12 T0 ++ [N0])) (s1 := s) (by kernel_rfl)).trans e)).trans ?_))
  unfold bTuple
  simp only [get_new]
theorem told7 (k : Nat) (hk : 20 ≤ k) (s : Sto) : ∃ s', F k 36 [.int 7, .tup (List.replicate 12 T0), .non] s = .ok (.tup [.str [116, 111, 108, 100], .non]) s' := by
  obtain ⟨j, rfl⟩ : ∃ j, k = j + 5 := ⟨k - 5, by omega⟩
  obtain ⟨s1, e1, x1⟩ := all_is (j + 2) 2 (xs := List.replicate 12 T0) (v := fun _ => true) (f := [some (.tup (List.replicate 12 T0)), some (.bl true), none]) (s := s) rfl rfl (by omega) (by simp) (fun i d hd s1 _ => by
    have : d = T0 := List.eq_of_mem_replicate (List.mem_of_getElem? hd)
    subst this
    exact say_is (Say.t 0) (j + 2) (by omega) s1)
  have e15 : F (j + 3) 15 [.tup (List.replicate 12 T0)] s = .ok .non s1 := by
    rw [r15]
    exact fnRes_next ((sSeq_n (sAsg_ok (d := .bl true) (s' := s) (by kernel_rfl) rfl)).trans (sIf_skip ((tOr_f (tNot_ok (b := true) (tVal_b (eVar_ok rfl)))).trans (tNot_ok (b := true) (tVal_b (e1.trans rfl))))))
  obtain ⟨d, s2, e6⟩ := parts_ok j s1
  have e23 : F (j + 4) 23 [.tup (List.replicate 12 T0)] s = .ok d s2 := by
    rw [r23]
    exact fnRes_ret ((sSeq_n (sExpr_ok ((eCall1 (eVar_ok rfl)).trans e15))).trans (sRet_ok ((eCall1 (eVar_ok rfl)).trans e6)))
  exact ⟨s2, ask_told (j + 4) ((ch7 _ _ _ _).trans (sExpr_ok ((eCall1 (eVar_ok rfl)).trans e23)))⟩
theorem put_T (k : Nat) (s : Sto) : F (k + 2) 12 [T0, .str [112], T0] s = .ok T0 (s ++ [.lst []]) := by
  obtain ⟨s', ys, e, hs1, hy1⟩ := eLc_run (own := [3]) (it := iSeq (eCall (F (k + 1)) 3 (aApp (aCons (eVar 0) aNil) aNil))) (gx := gVar 3) (t := tTrue) (e := eCall (F (k + 1)) 12 (aApp (aCons (eVar 3) (aCons (eVar 1) (aCons (eVar 2) aNil))) aNil)) (f := [some T0, some (.str [112]), some T0, none]) (f0 := [some T0, some (.str [112]), some T0, none]) (s := s) (s1 := s) (x := .tup []) []
    (fun i s' acc => s' = s ∧ acc = []) (by unfold iSeq LG.bnd; rw [(eCall1 (eVar_ok rfl)).trans (inner_0 k s T0 (.inl rfl))]) rfl (fun i s' acc _ => rfl) (fun i d s1 acc hx _ => by simp at hx) ⟨rfl, rfl⟩ (by simp)
  rw [hs1, hy1] at e
  rw [r12]
  refine fnRes_ret ((sSeq_n (sIf_skip (s' := s) (by kernel_rfl))).trans (sRet_ok ((eBin_ok (x := T0) (s1 := s) (by kernel_rfl) ((eFn1 e).trans (?_ : _ = Res.ok (D.tup []) (s ++ [.lst []])))).trans rfl)))
  unfold bTuple
  simp only [get_new]
theorem told5 (k : Nat) (hk : 20 ≤ k) (s : Sto) : ∃ s', F k 36 [.int 5, .str [112], T0] s = .ok (.tup [.str [116, 111, 108, 100], .non]) s' := by
  obtain ⟨j, rfl⟩ : ∃ j, k = j + 6 := ⟨k - 6, by omega⟩
  obtain ⟨s1, e1, x1⟩ := nsay_ok (j + 3) (Say.t 0) (by omega) s
  have e2 := nname_ok (j + 2) word_p.1 word_p.2 s1
  obtain ⟨s3, e3, x3⟩ := nsay_ok (j + 3) (Say.t 0) (by omega) s1
  have e22 : F (j + 5) 22 [T0, .str [112], T0] s = .ok T0 (s3 ++ [.lst []]) := by
    rw [r22]
    exact fnRes_ret ((sSeq_n (sExpr_ok ((eCall1 (eVar_ok rfl)).trans e1))).trans ((sSeq_n (sExpr_ok ((eCall1 (eVar_ok rfl)).trans e2))).trans ((sSeq_n (sExpr_ok ((eCall1 (eVar_ok rfl)).trans e3))).trans (sRet_ok ((eCall3 (eVar_ok rfl) (eVar_ok rfl) (eVar_ok rfl)).trans (put_T (j + 2) s3))))))
  exact ⟨_, ask_told (j + 5) ((ch5 _ _ _ _).trans (sExpr_ok ((eCall3 (s1 := s) (by kernel_rfl) (eVar_ok rfl) (eVar_ok rfl)).trans e22)))⟩
theorem box_ok (k : Nat) (ns : List Int) : F (k + 1) 26 [.kl (ns.map .int)] [] = .ok (.ref 1) [.lst (ns.map .int), .lst [.ref 0, .int 0, .int 0]] := by
  rw [r26]
  kernel_rfl
theorem law_ok (ns : List Int) : ∃ s', F 60 37 [.kl (ns.map .int)] [] = .ok (.bl true) s' := by
  have B0 : Box ns 0 1 0 [.lst (ns.map .int), .lst [.ref 0, .int 0, .int 0]] := ⟨⟨0, 0, rfl, Nat.le_refl _⟩, rfl, by omega⟩
  obtain ⟨f', s1, e1, ⟨o2, o3, o4, o5, o6, o7, rfl⟩, _⟩ := sFor_run (it := iRng1 (eC (.int 8))) (gx := gVar 2) (b := bLaw 59) (f := [some (.kl (ns.map .int)), some (.ref 1), none, none, none, none, none, none, none]) (s := [.lst (ns.map .int), .lst [.ref 0, .int 0, .int 0]]) (s1 := [.lst (ns.map .int), .lst [.ref 0, .int 0, .int 0]]) (x := .rng 0 1 8) (rngL 0 8)
    (fun i f' s' => (∃ o2 o3 o4 o5 o6 o7, f' = [some (.kl (ns.map .int)), some (.ref 1), o2, o3, o4, o5, o6, o7, none]) ∧ Box ns 0 1 (50 * i) s')
    (iRng1_ok (j := 8) rfl rfl) (fun i f s' _ => rng_next s' 0 8 i)
    (fun i d f s1 hx hp => by
      obtain ⟨hi, rfl⟩ := rngL_get hx
      obtain ⟨⟨o2, o3, o4, o5, o6, o7, rfl⟩, B⟩ := hp
      obtain ⟨f2, s2, q1, ⟨p3, p4, p5, p6, p7, rfl⟩, q3⟩ := turn_ok 59 (by omega) (sc := .kl (ns.map .int)) (t := .int (0 + (i : Int))) (o3 := o3) (o4 := o4) (o5 := o5) (o6 := o6) (o7 := o7) B (by omega)
      exact ⟨_, rfl, _, s2, q1, ⟨_, _, _, _, _, _, rfl⟩, q3.le (by omega)⟩)
    ⟨⟨_, _, _, _, _, _, rfl⟩, B0⟩ (by rw [rngL_len]; omega)
  obtain ⟨s2, e2⟩ := told7 59 (by omega) s1
  obtain ⟨s3, e3⟩ := told5 59 (by omega) s2
  have tp : ∀ (f : Fr) s, eTup (aCons (eC (.str [116, 111, 108, 100])) (aCons (eC (.non)) aNil)) f s = .ok (.tup [.str [116, 111, 108, 100], .non]) s := fun f s => eTup_ok (aCons_ok (s1 := s) rfl (aCons_ok (s1 := s) rfl aNil_ok)) (by show (2 : Nat) ≤ 16777216; omega)
  have eq : ∀ s, cmpEq (.tup [.str [116, 111, 108, 100], .non]) (.tup [.str [116, 111, 108, 100], .non]) s = .ok (.bl true) s := fun s => eq_same (p := .tuple [pS [116, 111, 108, 100], .none]) rfl rfl
  refine ⟨s3, ?_⟩
  rw [r37]
  refine fnRes_ret ((sSeq_n (sAsg_ok ((eCall1 (eVar_ok rfl)).trans (box_ok 58 ns)) rfl)).trans ((sSeq_n e1).trans (sRet_ok ((eAnd_t (x := .bl true) (s' := s2) ((eBin_ok ((eCall3 (s1 := s1) (s2 := s1) (s3 := s1) (x := .int 7) (y := .tup (List.replicate 12 T0)) (z := .non) rfl (by kernel_rfl) rfl).trans e2) (tp _ s2)).trans (eq s2)) rfl).trans ((eBin_ok ((eCall3 (s1 := s2) (s2 := s2) (s3 := s2) (x := .int 5) (y := .str [112]) (z := T0) rfl rfl (by kernel_rfl)).trans e3) (tp _ s3)).trans (eq s3))))))
end K01
open PySem PySem.W PyProof.Rows
set_option maxHeartbeats 0 in
theorem PySem.Challenge.cw_lettersgone_k01_what_is_no_name_no_sayin_holds : PySem.Challenge.rw_lettersgone_k01_what_is_no_name_no_sayin.Holds := by
  w_on; o_law; k_head; (case hw => w_witness2)
  k_fill
  refine LG.walk_G (l := PySem.Challenge.rw_lettersgone_k01_what_is_no_name_no_sayin) (n := 63) (k := 60) (g := K01.g) (ds := K01.ds) (iL := 37) (dL := K01.d37) rfl (by decide) rfl ⟨rfl, by decide, by decide⟩ (fun w h Y => PySem.W.kIn_of Y) rfl rfl ?F (fun ns hn => K01.law_ok ns)
  case F =>
    intro w mg fa h KX G hmg
    refine' K01.mk KX G hmg ?yy_a0 ?yy_l0 ?yy_c0 ?yy_k0 ?yy_a1 ?yy_l1 ?yy_c1 ?yy_k1 ?yy_a2 ?yy_l2 ?yy_c2 ?yy_k2 ?yy_a3 ?yy_l3 ?yy_c3 ?yy_k3 ?yy_a4 ?yy_l4 ?yy_c4 ?yy_k4 ?yy_a5 ?yy_l5 ?yy_c5 ?yy_k5 ?yy_a6 ?yy_l6 ?yy_c6 ?yy_k6 ?yy_a7 ?yy_l7 ?yy_c7 ?yy_k7 ?yy_a8 ?yy_l8 ?yy_c8 ?yy_k8 ?yy_a9 ?yy_l9 ?yy_c9 ?yy_k9 ?yy_a10 ?yy_l10 ?yy_c10 ?yy_k10 ?yy_a11 ?yy_l11 ?yy_c11 ?yy_k11 ?yy_a12 ?yy_l12 ?yy_c12 ?yy_k12 ?yy_a13 ?yy_l13 ?yy_c13 ?yy_k13 ?yy_a14 ?yy_l14 ?yy_c14 ?yy_k14 ?yy_a15 ?yy_l15 ?yy_c15 ?yy_k15 ?yy_a16 ?yy_l16 ?yy_c16 ?yy_k16 ?yy_a17 ?yy_l17 ?yy_c17 ?yy_k17 ?yy_a18 ?yy_l18 ?yy_c18 ?yy_k18 ?yy_a19 ?yy_l19 ?yy_c19 ?yy_k19 ?yy_a20 ?yy_l20 ?yy_c20 ?yy_k20 ?yy_a21 ?yy_l21 ?yy_c21 ?yy_k21 ?yy_a22 ?yy_l22 ?yy_c22 ?yy_k22 ?yy_a23 ?yy_l23 ?yy_c23 ?yy_k23 ?yy_a24 ?yy_l24 ?yy_c24 ?yy_k24 ?yy_a25 ?yy_l25 ?yy_c25 ?yy_k25 ?yy_a26 ?yy_l26 ?yy_c26 ?yy_k26 ?yy_a27 ?yy_l27 ?yy_c27 ?yy_k27 ?yy_a28 ?yy_l28 ?yy_c28 ?yy_k28 ?yy_a29 ?yy_l29 ?yy_c29 ?yy_k29 ?yy_a30 ?yy_l30 ?yy_c30 ?yy_k30 ?yy_a31 ?yy_l31 ?yy_c31 ?yy_k31 ?yy_a32 ?yy_l32 ?yy_c32 ?yy_k32 ?yy_a33 ?yy_l33 ?yy_c33 ?yy_k33 ?yy_a34 ?yy_l34 ?yy_c34 ?yy_k34 ?yy_a35 ?yy_l35 ?yy_c35 ?yy_k35 ?yy_a36 ?yy_l36 ?yy_c36 ?yy_k36 ?yy_a37 ?yy_l37 ?yy_c37 ?yy_k37 ?yy_z0 ?yy_z1 ?yy_z2 ?yy_z3 ?yy_z4 ?yy_z5 ?yy_z6 ?yy_zt6 ?yy_z7 ?yy_z8 ?yy_z9 ?yy_b0 ?yy_b1 ?yy_b2 ?yy_b3 ?yy_b4 ?yy_b5 ?yy_b6 ?yy_b7 ?yy_b8 ?yy_b9 ?yy_b10 ?yy_b11 ?yy_b12 ?yy_b13 ?yy_b14 ?yy_b15 ?yy_b16 ?yy_b17 ?yy_b18 ?yy_bs ?yy_op ?yy_g0 ?yy_g1 ?yy_g2 ?yy_g3 ?yy_x0 ?yy_sa0 ?yy_ga0 ?yy_gg0 ?yy_nv0 ?yy_in0 ?yy_kc0 ?yy_eb0 ?yy_ev0 ?yy_ty0 ?yy_hd0 ?yy_mo0 ?yy_mr0 ?yy_ca0 ?yy_s0_0 ?yy_s0_1 ?yy_s0_2 ?yy_s0_3 ?yy_x1 ?yy_sa1 ?yy_ga1 ?yy_gg1 ?yy_nv1 ?yy_in1 ?yy_kc1 ?yy_eb1 ?yy_ev1 ?yy_ty1 ?yy_hd1 ?yy_mo1 ?yy_mr1 ?yy_ca1 ?yy_s1_0 ?yy_s1_1 ?yy_s1_2 ?yy_s1_3 ?yy_x2 ?yy_sa2 ?yy_ga2 ?yy_gg2 ?yy_nv2 ?yy_in2 ?yy_kc2 ?yy_eb2 ?yy_ev2 ?yy_ty2 ?yy_hd2 ?yy_mo2 ?yy_mr2 ?yy_ca2 ?yy_s2_0 ?yy_s2_1 ?yy_s2_2 ?yy_s2_3 ?yy_x3 ?yy_sa3 ?yy_ga3 ?yy_gg3 ?yy_nv3 ?yy_in3 ?yy_kc3 ?yy_eb3 ?yy_ev3 ?yy_ty3 ?yy_hd3 ?yy_mo3 ?yy_mr3 ?yy_ca3 ?yy_s3_0 ?yy_s3_1 ?yy_s3_2 ?yy_s3_3 ?yy_tI ?yy_sg ?yy_tk ?yy_lI ?yy_cI ?yy_lc ?yy_lv ?yy_lf ?yy_lx
    (case yy_a0 => k_is)
    (case yy_l0 => k_is)
    (case yy_c0 => k_is)
    (case yy_k0 => k_is)
    (case yy_a1 => k_is)
    (case yy_l1 => k_is)
    (case yy_c1 => k_is)
    (case yy_k1 => k_is)
    (case yy_a2 => k_is)
    (case yy_l2 => k_is)
    (case yy_c2 => k_is)
    (case yy_k2 => k_is)
    (case yy_a3 => k_is)
    (case yy_l3 => k_is)
    (case yy_c3 => k_is)
    (case yy_k3 => k_is)
    (case yy_a4 => k_is)
    (case yy_l4 => k_is)
    (case yy_c4 => k_is)
    (case yy_k4 => k_is)
    (case yy_a5 => k_is)
    (case yy_l5 => k_is)
    (case yy_c5 => k_is)
    (case yy_k5 => k_is)
    (case yy_a6 => k_is)
    (case yy_l6 => k_is)
    (case yy_c6 => k_is)
    (case yy_k6 => k_is)
    (case yy_a7 => k_is)
    (case yy_l7 => k_is)
    (case yy_c7 => k_is)
    (case yy_k7 => k_is)
    (case yy_a8 => k_is)
    (case yy_l8 => k_is)
    (case yy_c8 => k_is)
    (case yy_k8 => k_is)
    (case yy_a9 => k_is)
    (case yy_l9 => k_is)
    (case yy_c9 => k_is)
    (case yy_k9 => k_is)
    (case yy_a10 => k_is)
    (case yy_l10 => k_is)
    (case yy_c10 => k_is)
    (case yy_k10 => k_is)
    (case yy_a11 => k_is)
    (case yy_l11 => k_is)
    (case yy_c11 => k_is)
    (case yy_k11 => k_is)
    (case yy_a12 => k_is)
    (case yy_l12 => k_is)
    (case yy_c12 => k_is)
    (case yy_k12 => k_is)
    (case yy_a13 => k_is)
    (case yy_l13 => k_is)
    (case yy_c13 => k_is)
    (case yy_k13 => k_is)
    (case yy_a14 => k_is)
    (case yy_l14 => k_is)
    (case yy_c14 => k_is)
    (case yy_k14 => k_is)
    (case yy_a15 => k_is)
    (case yy_l15 => k_is)
    (case yy_c15 => k_is)
    (case yy_k15 => k_is)
    (case yy_a16 => k_is)
    (case yy_l16 => k_is)
    (case yy_c16 => k_is)
    (case yy_k16 => k_is)
    (case yy_a17 => k_is)
    (case yy_l17 => k_is)
    (case yy_c17 => k_is)
    (case yy_k17 => k_is)
    (case yy_a18 => k_is)
    (case yy_l18 => k_is)
    (case yy_c18 => k_is)
    (case yy_k18 => k_is)
    (case yy_a19 => k_is)
    (case yy_l19 => k_is)
    (case yy_c19 => k_is)
    (case yy_k19 => k_is)
    (case yy_a20 => k_is)
    (case yy_l20 => k_is)
    (case yy_c20 => k_is)
    (case yy_k20 => k_is)
    (case yy_a21 => k_is)
    (case yy_l21 => k_is)
    (case yy_c21 => k_is)
    (case yy_k21 => k_is)
    (case yy_a22 => k_is)
    (case yy_l22 => k_is)
    (case yy_c22 => k_is)
    (case yy_k22 => k_is)
    (case yy_a23 => k_is)
    (case yy_l23 => k_is)
    (case yy_c23 => k_is)
    (case yy_k23 => k_is)
    (case yy_a24 => k_is)
    (case yy_l24 => k_is)
    (case yy_c24 => k_is)
    (case yy_k24 => k_is)
    (case yy_a25 => k_is)
    (case yy_l25 => k_is)
    (case yy_c25 => k_is)
    (case yy_k25 => k_is)
    (case yy_a26 => k_is)
    (case yy_l26 => k_is)
    (case yy_c26 => k_is)
    (case yy_k26 => k_is)
    (case yy_a27 => k_is)
    (case yy_l27 => k_is)
    (case yy_c27 => k_is)
    (case yy_k27 => k_is)
    (case yy_a28 => k_is)
    (case yy_l28 => k_is)
    (case yy_c28 => k_is)
    (case yy_k28 => k_is)
    (case yy_a29 => k_is)
    (case yy_l29 => k_is)
    (case yy_c29 => k_is)
    (case yy_k29 => k_is)
    (case yy_a30 => k_is)
    (case yy_l30 => k_is)
    (case yy_c30 => k_is)
    (case yy_k30 => k_is)
    (case yy_a31 => k_is)
    (case yy_l31 => k_is)
    (case yy_c31 => k_is)
    (case yy_k31 => k_is)
    (case yy_a32 => k_is)
    (case yy_l32 => k_is)
    (case yy_c32 => k_is)
    (case yy_k32 => k_is)
    (case yy_a33 => k_is)
    (case yy_l33 => k_is)
    (case yy_c33 => k_is)
    (case yy_k33 => k_is)
    (case yy_a34 => k_is)
    (case yy_l34 => k_is)
    (case yy_c34 => k_is)
    (case yy_k34 => k_is)
    (case yy_a35 => k_is)
    (case yy_l35 => k_is)
    (case yy_c35 => k_is)
    (case yy_k35 => k_is)
    (case yy_a36 => k_is)
    (case yy_l36 => k_is)
    (case yy_c36 => k_is)
    (case yy_k36 => k_is)
    (case yy_a37 => k_is)
    (case yy_l37 => k_is)
    (case yy_c37 => k_is)
    (case yy_k37 => k_is)
    (case yy_z0 => k_is)
    (case yy_z1 => k_is)
    (case yy_z2 => k_is)
    (case yy_z3 => k_is)
    (case yy_z4 => k_is)
    (case yy_z5 => k_is)
    (case yy_z6 => k_is)
    (case yy_zt6 => k_is)
    (case yy_z7 => k_is)
    (case yy_z8 => k_is)
    (case yy_z9 => k_is)
    (case yy_b0 => k_is)
    (case yy_b1 => k_is)
    (case yy_b2 => k_is)
    (case yy_b3 => k_is)
    (case yy_b4 => k_is)
    (case yy_b5 => k_is)
    (case yy_b6 => k_is)
    (case yy_b7 => k_is)
    (case yy_b8 => k_is)
    (case yy_b9 => k_is)
    (case yy_b10 => k_is)
    (case yy_b11 => k_is)
    (case yy_b12 => k_is)
    (case yy_b13 => k_is)
    (case yy_b14 => k_is)
    (case yy_b15 => k_is)
    (case yy_b16 => k_is)
    (case yy_b17 => k_is)
    (case yy_b18 => k_is)
    (case yy_bs => k_is)
    (case yy_op => k_is)
    (case yy_g0 => k_is)
    (case yy_g1 => k_is)
    (case yy_g2 => k_is)
    (case yy_g3 => k_is)
    (case yy_x0 => k_is)
    (case yy_sa0 => k_is)
    (case yy_ga0 => k_is)
    (case yy_gg0 => k_is)
    (case yy_nv0 => k_is)
    (case yy_in0 => k_is)
    (case yy_kc0 => k_is)
    (case yy_eb0 => k_is)
    (case yy_ev0 => k_is)
    (case yy_ty0 => k_is)
    (case yy_hd0 => k_is)
    (case yy_mo0 => k_is)
    (case yy_mr0 => k_is)
    (case yy_ca0 => k_is)
    (case yy_s0_0 => k_is)
    (case yy_s0_1 => k_is)
    (case yy_s0_2 => k_is)
    (case yy_s0_3 => k_is)
    (case yy_x1 => k_is)
    (case yy_sa1 => k_is)
    (case yy_ga1 => k_is)
    (case yy_gg1 => k_is)
    (case yy_nv1 => k_is)
    (case yy_in1 => k_is)
    (case yy_kc1 => k_is)
    (case yy_eb1 => k_is)
    (case yy_ev1 => k_is)
    (case yy_ty1 => k_is)
    (case yy_hd1 => k_is)
    (case yy_mo1 => k_is)
    (case yy_mr1 => k_is)
    (case yy_ca1 => k_is)
    (case yy_s1_0 => k_is)
    (case yy_s1_1 => k_is)
    (case yy_s1_2 => k_is)
    (case yy_s1_3 => k_is)
    (case yy_x2 => k_is)
    (case yy_sa2 => k_is)
    (case yy_ga2 => k_is)
    (case yy_gg2 => k_is)
    (case yy_nv2 => k_is)
    (case yy_in2 => k_is)
    (case yy_kc2 => k_is)
    (case yy_eb2 => k_is)
    (case yy_ev2 => k_is)
    (case yy_ty2 => k_is)
    (case yy_hd2 => k_is)
    (case yy_mo2 => k_is)
    (case yy_mr2 => k_is)
    (case yy_ca2 => k_is)
    (case yy_s2_0 => k_is)
    (case yy_s2_1 => k_is)
    (case yy_s2_2 => k_is)
    (case yy_s2_3 => k_is)
    (case yy_x3 => k_is)
    (case yy_sa3 => k_is)
    (case yy_ga3 => k_is)
    (case yy_gg3 => k_is)
    (case yy_nv3 => k_is)
    (case yy_in3 => k_is)
    (case yy_kc3 => k_is)
    (case yy_eb3 => k_is)
    (case yy_ev3 => k_is)
    (case yy_ty3 => k_is)
    (case yy_hd3 => k_is)
    (case yy_mo3 => k_is)
    (case yy_mr3 => k_is)
    (case yy_ca3 => k_is)
    (case yy_s3_0 => k_is)
    (case yy_s3_1 => k_is)
    (case yy_s3_2 => k_is)
    (case yy_s3_3 => k_is)
    (case yy_tI => k_is)
    (case yy_sg => k_is)
    (case yy_tk => k_is)
    (case yy_lI => k_is)
    (case yy_cI => k_is)
    (case yy_lc => k_is)
    (case yy_lv => first | rfl | k_is)
    (case yy_lf => first | decide +kernel | k_is)
    (case yy_lx => k_is)
