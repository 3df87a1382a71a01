import PyProof.Rows.All
import HandS.ForMost
import HandS.Exc
import HandS.Lambda
import HandS.Deep
import HandS.TupAny
import HandS.WideBits
import HandS.IsInst
import HandS.RaiseMore
import HandS.Gcd
import HandS.Steps
import PyProof.P3In
import PyProof.EqLayable
import HandS.Style
import KE.KExcIs
import PyProof.ReprLen
import PyProof.ReprRoads
import PyProof.FitsInt
import HandS.ExcInit
import KE.KExcSuper
import HandS.Small
import HandS.Rev
import HandS.ExcField
import HandS.Defaults
import HandS.EndTab
import HandS.NestedK
import HandS.HeadHook4
import PySem.Challenge.RW_shufflebook_k88_values_written
import Wide.All
import OpenK.AllK
import Wide.FinOn
import KE.KStateDown
import HandS.Head0
import HandS.Head1
import HandS.Head2
import HandS.Codes
import KE.IntTextLaws
set_option Elab.async false
set_option linter.all false
set_option maxRecDepth 100000
set_option maxHeartbeats 4000000
/-! Vi0: the values, the state and the combinators of the interpreter; no program in sight. -/
namespace Vi
open PySem

/-- values: trees; lst, dct, rc are frozen (nobody writes them); adr is a place in the state -/
inductive W where
  | non
  | bl (b : Bool)
  | int (i : Int)
  | str (x : Str)
  | tup (l : List W)
  | lst (l : List W)
  | dct (l : List (W × W))
  | rc (c : Nat) (l : List W)
  | adr (n : Nat)
  | fn (g : Nat)
  | clo (i : Nat) (l : List W)
  | exc (c : Nat) (l : List W)
  deriving Inhabited

def eqS (x y : Str) : Bool := x.cps.toList == y.cps.toList

mutual
/-- Python's == of data without objects (dicts not here) -/
def eqW : W → W → Bool
  | .non, .non => true
  | .bl a, .bl b => a == b
  | .bl a, .int j => (if a then 1 else 0) == j
  | .int i, .bl b => i == (if b then 1 else 0)
  | .int i, .int j => i == j
  | .str x, .str y => eqS x y
  | .tup l, .tup m => eqWs l m
  | .lst l, .lst m => eqWs l m
  | _, _ => false
def eqWs : List W → List W → Bool
  | [], [] => true
  | x :: xs, y :: ys => eqW x y && eqWs xs ys
  | _, _ => false
end
mutual
/-- plain data of depth at most n -/
def plainW : Nat → W → Bool
  | _, .non => true
  | _, .bl _ => true
  | _, .int _ => true
  | _, .str x => PyData.strOk x
  | n + 1, .tup l => plainWs n l
  | n + 1, .lst l => plainWs n l
  | _, _ => false
def plainWs : Nat → List W → Bool
  | _, [] => true
  | n, x :: xs => plainW n x && plainWs n xs
end
mutual
/-- every place in it lies below n -/
def belowW (n : Nat) : W → Bool
  | .tup l => belowWs n l
  | .lst l => belowWs n l
  | .dct l => belowKs n l
  | .rc _ l => belowWs n l
  | .adr m => decide (m < n)
  | .clo _ l => belowWs n l
  | .exc _ l => belowWs n l
  | _ => true
def belowWs (n : Nat) : List W → Bool
  | [] => true
  | x :: xs => belowW n x && belowWs n xs
def belowKs (n : Nat) : List (W × W) → Bool
  | [] => true
  | (k, v) :: xs => belowW n k && belowW n v && belowKs n xs
end
/-- no closure -/
def isD : W → Bool
  | .clo _ _ => false
  | _ => true

/-! ### the state -/
inductive O where
  | lst (l : List W)
  | dct (l : List (W × W))
  | ins (c : Nat) (l : List (Option W))
structure S where
  objs : List O
  keep : List Nat
inductive Res (α : Type) where
  | ok (a : α) (s : S)
  | exc (x : W) (s : S)
  | bad
namespace Res
def bind {α β : Type} (r : Res α) (f : α → S → Res β) : Res β := match r with
  | .ok a s => f a s
  | .exc x s => .exc x s
  | .bad => .bad
/-- f's answer, or bad -/
def opt {α : Type} (o : Option α) (s : S) : Res α := match o with
  | some a => .ok a s
  | none => .bad
end Res
def sizeMax : Nat := 16777216
/-- w is put into the object at n: what may be let go at a call's end -/
def S.held (s : S) (n : Nat) (w : W) : S := { s with keep := s.keep.map fun k => if decide (n < k) && !belowW k w then s.objs.length else k }
def S.put (s : S) (n : Nat) (o : O) : S := { s with objs := s.objs.set n o }
def S.new (s : S) (o : O) : S := { s with objs := s.objs ++ [o] }
def itemsOf (s : S) : W → Option (List W)
  | .lst l => some l
  | .tup l => some l
  | .adr n => match s.objs[n]? with
    | some (.lst l) => some l
    | _ => none
  | _ => none
def listOf (s : S) : W → Option (List W)
  | .lst l => some l
  | .adr n => match s.objs[n]? with
    | some (.lst l) => some l
    | _ => none
  | _ => none
def pairsOf (s : S) : W → Option (List (W × W))
  | .dct l => some l
  | .adr n => match s.objs[n]? with
    | some (.dct l) => some l
    | _ => none
  | _ => none

/-- where an expression stands: the calls of the level below, the while loops' fuel -/
structure Ct where
  call : W → List W → S → Res W
  fuel : Nat
  /-- class c is class d or below it -/
  sub : Nat → Nat → Bool
abbrev Env := List (Option W)
abbrev DE := Ct → Env → S → Res W
abbrev DA := Ct → Env → S → Res (List W)
abbrev DT := Ct → Env → S → Res Bool
inductive Flow where
  | nx (e : Env)
  | rt (w : W)
  | bk (e : Env)
  | ct (e : Env)
abbrev DS := Ct → Env → S → Res Flow
/-- what a for walks: the items, or a list of the state -/
abbrev DI := Ct → Env → S → Res (List W ⊕ Nat)
/-- a target -/
abbrev DG := W → Env → S → Option Env

/-! ### expressions -/
def dV (i : Nat) : DE := fun _ env s => match env[i]? with
  | some (some w) => .ok w s
  | _ => .bad
def dC (w : W) : DE := fun _ _ s => .ok w s
def d1 (f : S → W → Option W) (a : DE) : DE := fun c env s => (a c env s).bind fun x s => Res.opt (f s x) s
def d1R (f : S → W → Res W) (a : DE) : DE := fun c env s => (a c env s).bind fun x s => f s x
def d2 (f : S → W → W → Option W) (a b : DE) : DE := fun c env s => (a c env s).bind fun x s => (b c env s).bind fun y s => Res.opt (f s x y) s
def daNil : DA := fun _ _ s => .ok [] s
def daCons (a : DE) (r : DA) : DA := fun c env s => (a c env s).bind fun x s => (r c env s).bind fun xs s => .ok (x :: xs) s
def allD (l : List W) : Bool := l.all isD
def dTup (a : DA) : DE := fun c env s => (a c env s).bind fun l s => if allD l && decide (l.length ≤ sizeMax) then .ok (.tup l) s else .bad
/-- a list display: frozen, or a new object -/
def dLst (a : DA) : DE := fun c env s => (a c env s).bind fun l s => if allD l && decide (l.length ≤ sizeMax) then .ok (.lst l) s else .bad
/-- a fresh frozen list as a new object of the state -/
def newL (l : List W) (s : S) : Res W := .ok (.adr s.objs.length) (s.new (.lst l))
def newD (l : List (W × W)) (s : S) : Res W := .ok (.adr s.objs.length) (s.new (.dct l))
def dLstN (a : DA) : DE := fun c env s => (a c env s).bind fun l s => if allD l && decide (l.length ≤ sizeMax) then newL l s else .bad
/-- a dict display: the new dict stands first -/
def dpAll : List (DE × DE) → Ct → Env → S → Res (List (W × W))
  | [], _, _, s => .ok [] s
  | (k, v) :: r, c, env, s => (k c env s).bind fun x s => (v c env s).bind fun y s => (dpAll r c env s).bind fun l s => .ok ((x, y) :: l) s
/-- value and, or -/
def dAnd (a b : DE) : DE := fun c env s => (a c env s).bind fun x s => match x with
  | .bl true => b c env s
  | .bl false => .ok (.bl false) s
  | _ => .bad
def dOr (a b : DE) : DE := fun c env s => (a c env s).bind fun x s => match x with
  | .bl false => b c env s
  | .bl true => .ok (.bl true) s
  | _ => .bad
def dIf (t : DT) (a b : DE) : DE := fun c env s => (t c env s).bind fun k s => if k then a c env s else b c env s
def dOfT (t : DT) : DE := fun c env s => (t c env s).bind fun k s => .ok (.bl k) s
/-- a op b op' c -/
def dChain (f g : S → W → W → Option W) (a b e : DE) : DE := fun c env s => (a c env s).bind fun x s => (b c env s).bind fun y s => match f s x y with
  | some (.bl true) => (e c env s).bind fun z s => Res.opt (g s y z) s
  | some (.bl false) => .ok (.bl false) s
  | _ => .bad

/-! ### tests -/
def tE (e : DE) : DT := fun c env s => (e c env s).bind fun w s => match w with
  | .bl b => .ok b s
  | _ => .bad
def tAnd (a b : DT) : DT := fun c env s => (a c env s).bind fun k s => if k then b c env s else .ok false s
def tOr (a b : DT) : DT := fun c env s => (a c env s).bind fun k s => if k then .ok true s else b c env s
def tNot (a : DT) : DT := fun c env s => (a c env s).bind fun k s => .ok (!k) s

/-! ### operators -/
def okMul (i j : Int) : Bool := decide (i.natAbs.log2 + j.natAbs.log2 < 134000000)
def okDiv (j : Int) : Bool := decide (j ≠ 0) && decide (j.natAbs.log2 < 9000)
def okLen (n : Nat) : Bool := decide (n ≤ sizeMax)
def strCat (x y : Str) : Str := x ++ y
def opAdd (s : S) : W → W → Option W
  | .int i, .int j => some (.int (i + j))
  | .str x, .str y => if okLen (x.length + y.length) then some (.str (x ++ y)) else none
  | .tup l, .tup m => if okLen (l.length + m.length) then some (.tup (l ++ m)) else none
  | .lst l, .lst m => if okLen (l.length + m.length) then some (.lst (l ++ m)) else none
  | _, _ => none
def opSub (_ : S) : W → W → Option W
  | .int i, .int j => some (.int (i - j))
  | _, _ => none
def strRep (x : Str) (n : Nat) : Str := ⟨((List.replicate n x.cps.toList).flatten).toArray⟩
/-- text * int -/
def mulS (x : Str) (n : Int) : Str := if n < 1 then Str.empty else if (n == 1 || x.length == 0) = true then x else ⟨(List.replicate n.toNat x.cps).foldl (· ++ ·) #[]⟩
def opMulI (_ : S) : W → W → Option W
  | .int i, .int j => if okMul i j then some (.int (i * j)) else none
  | _, _ => none
def okMulS (x : Str) (n : Int) : Bool := decide (-4611686018427387904 ≤ n) && decide (n ≤ 16777216) && decide (x.length ≤ 16777216) && decide (x.length * n.toNat ≤ 16777216)
def opMul (s : S) : W → W → Option W
  | .str x, .int n => if okMulS x n then some (.str (mulS x n)) else none
  | x, y => opMulI s x y
def opFdiv (_ : S) : W → W → Option W
  | .int i, .int j => if okDiv j then some (.int (i.fdiv j)) else none
  | _, _ => none
def opMod (_ : S) : W → W → Option W
  | .int i, .int j => if j = 0 then none else some (.int (i.fmod j))
  | _, _ => none
def opPow (_ : S) : W → W → Option W
  | .int i, .int j => if decide (0 ≤ j) && decide (j ≤ 1000000) && decide (i.natAbs < 18446744073709551616) then some (.int (i ^ j.toNat)) else none
  | _, _ => none
def opNeg (_ : S) : W → Option W
  | .int i => some (.int (-i))
  | _ => none
def okEq (x y : W) : Bool := plainW 64 x && plainW 64 y
/-- a list of the state, as it is now -/
def seeW (s : S) : W → W
  | .adr n => (match s.objs[n]? with
    | some (.lst l) => .lst l
    | _ => .adr n)
  | w => w
/-- two lists of unlike lengths -/
def lenNe : W → W → Bool
  | .lst l, .lst m => l.length != m.length
  | _, _ => false
def opEq (s : S) (x y : W) : Option W := if okEq (seeW s x) (seeW s y) then some (.bl (eqW (seeW s x) (seeW s y))) else if lenNe (seeW s x) (seeW s y) then some (.bl false) else none
def opNe (s : S) (x y : W) : Option W := if okEq (seeW s x) (seeW s y) then some (.bl (!eqW (seeW s x) (seeW s y))) else if lenNe (seeW s x) (seeW s y) then some (.bl true) else none
def opLt (_ : S) : W → W → Option W
  | .int i, .int j => some (.bl (decide (i < j)))
  | _, _ => none
def opLe (_ : S) : W → W → Option W
  | .int i, .int j => some (.bl (decide (i ≤ j)))
  | _, _ => none
def opGt (_ : S) : W → W → Option W
  | .int i, .int j => some (.bl (decide (j < i)))
  | _, _ => none
def opGe (_ : S) : W → W → Option W
  | .int i, .int j => some (.bl (decide (j ≤ i)))
  | _, _ => none
def isNon : W → Bool
  | .non => true
  | _ => false
def opIsN (_ : S) (x : W) : Option W := some (.bl (isNon x))
def opNotN (_ : S) (x : W) : Option W := some (.bl (!isNon x))
/-- text in text -/
def hasSub (x y : Str) : Bool := !(Builtin.Str.occurrences y x 0 y.length 1).isEmpty
def opIn (s : S) (x y : W) : Option W := match x, y with
  | .str a, .str b => some (.bl (hasSub a b))
  | _, _ => match itemsOf s y with
    | some l => if plainW 63 x && plainWs 63 l then some (.bl (l.any fun z => eqW z x)) else none
    | none => none
def opNotIn (s : S) (x y : W) : Option W := match opIn s x y with
  | some (.bl b) => some (.bl (!b))
  | _ => none

/-! ### subscripts, slices -/
def strAt (x : Str) (k : Nat) : Option W := match x.cps[k]? with
  | some c => some (.str ⟨#[c]⟩)
  | none => none
def keyEq : W → W → Bool
  | .str x, .str y => eqS x y
  | .int i, .int j => i == j
  | .tup l, .tup m => eqWs l m
  | _, _ => false
def look (k : W) : List (W × W) → Option W
  | [] => none
  | (a, v) :: r => if keyEq a k then some v else look k r
def opIx (s : S) (x y : W) : Option W := match x, y with
  | .str a, .int i => if okLen a.length then (match L2.ixN a.length i with
    | some k => strAt a k
    | none => none) else none
  | _, .int i => match itemsOf s x with
    | some l => (match L2.ixN l.length i with
      | some k => l[k]?
      | none => none)
    | none => (match pairsOf s x with
      | some l => look y l
      | none => none)
  | _, _ => match pairsOf s x with
    | some l => look y l
    | none => none
/-- a slice -/
def cutL {α : Type} (l : List α) (lo hi : Option Int) : List α := (l.drop (HT.sIx l.length 0 lo)).take (HT.sIx l.length l.length hi - HT.sIx l.length 0 lo)
def sliceOf (s : S) (x : W) (a b : Option Int) : Option W := match x with
  | .str z => if okLen z.length then some (.str ⟨(cutL z.cps.toList a b).toArray⟩) else none
  | .tup l => some (.tup (cutL l a b))
  | _ => match listOf s x with
    | some l => some (.lst (cutL l a b))
    | none => none
def dEnd : Option DE → Ct → Env → S → Res (Option Int)
  | none, _, _, s => .ok none s
  | some d, c, env, s => (d c env s).bind fun y s => match y with
    | .int i => .ok (some i) s
    | _ => .bad
def dSlice (a : DE) (lo hi : Option DE) : DE := fun c env s => (a c env s).bind fun x s => (dEnd lo c env s).bind fun l s => (dEnd hi c env s).bind fun h s => Res.opt (sliceOf s x l h) s
/-- xs[::-1] of a list -/
def opRev (s : S) (x : W) : Option W := (listOf s x).map fun l => .lst l.reverse

/-! ### built-in functions -/
def bLen (s : S) (x : W) : Option W := match x with
  | .str a => if okLen a.length then some (.int a.length) else none
  | _ => match itemsOf s x with
    | some l => some (.int l.length)
    | none => none
def bAbs (_ : S) : W → Option W
  | .int i => some (.int (if i < 0 then -i else i))
  | _ => none
def boolsOf : List W → Option (List Bool)
  | [] => some []
  | .bl b :: r => (boolsOf r).map (b :: ·)
  | _ => none
def intsOf : List W → Option (List Int)
  | [] => some []
  | .int b :: r => (intsOf r).map (b :: ·)
  | _ => none
def strsOf : List W → Option (List Str)
  | [] => some []
  | .str b :: r => (strsOf r).map (b :: ·)
  | _ => none
def bAll (s : S) (x : W) : Option W := match listOf s x with
  | some l => (boolsOf l).map fun bs => .bl (bs.all id)
  | none => none
def bAny (s : S) (x : W) : Option W := match listOf s x with
  | some l => (boolsOf l).map fun bs => .bl (bs.any id)
  | none => none
def bSum (s : S) (x : W) : Option W := match listOf s x with
  | some l => (intsOf l).map fun bs => .int bs.sum
  | none => none
def bTuple (s : S) (x : W) : Option W := match x with
  | .tup l => some (.tup l)
  | _ => (listOf s x).map .tup
def bList (s : S) (x : W) : Option W := (itemsOf s x).map .lst
def bListN (s : S) (x : W) : Res W := match itemsOf s x with
  | some l => newL l s
  | none => .bad
def bMin2 (_ : S) : W → W → Option W
  | .int i, .int j => some (.int (if j < i then j else i))
  | _, _ => none
def bMax2 (_ : S) : W → W → Option W
  | .int i, .int j => some (.int (if j > i then j else i))
  | _, _ => none
def bInt (_ : S) : W → Option W
  | .int i => some (.int i)
  | .bl k => some (.int (if k then 1 else 0))
  | .str x => if decide (x.length ≤ 640) then (intText? x).map .int else none
  | _ => none
def bStr (_ : S) : W → Option W
  | .int i => if decide (i.natAbs.log2 < 1920) then some (.str (toString i)) else none
  | .str x => some (.str x)
  | _ => none
def bGcd (_ : S) : W → W → Option W
  | .int i, .int j => some (.int (Nat.gcd i.natAbs j.natAbs : Nat))
  | _, _ => none
/-- sep.join(list of texts) -/
def bJoin (s : S) (x y : W) : Option W := match x with
  | .str a => (match itemsOf s y with
    | some l => (match strsOf l with
      | some ys => if decide ((ys.map (·.length)).sum + ys.length * a.length ≤ sizeMax) then some (.str (Txt.join a ys)) else none
      | none => none)
    | none => none)
  | _ => none

/-! ### isinstance -/
inductive Ty where
  | str | int | bool | tup | lst | dct | cls (c : Nat)
/-- what a value is -/
inductive Kd where
  | non | bool | int | str | tup | lst | dct | cls (c : Nat)
def kdOf (s : S) : W → Option Kd
  | .non => some .non
  | .bl _ => some .bool
  | .int _ => some .int
  | .str _ => some .str
  | .tup _ => some .tup
  | .lst _ => some .lst
  | .dct _ => some .dct
  | .exc c _ => some (.cls c)
  | .rc c _ => some (.cls c)
  | .adr n => (match s.objs[n]? with
    | some (.lst _) => some .lst
    | some (.dct _) => some .dct
    | some (.ins c _) => some (.cls c)
    | none => none)
  | _ => none
def isTy (sub : Nat → Nat → Bool) : Kd → Ty → Bool
  | .bool, .bool => true
  | .bool, .int => true
  | .int, .int => true
  | .str, .str => true
  | .tup, .tup => true
  | .lst, .lst => true
  | .dct, .dct => true
  | .cls c, .cls d => sub c d
  | _, _ => false
def dIsi (a : DE) (ts : List Ty) : DE := fun c env s => (a c env s).bind fun x s => match kdOf s x with
  | some k => .ok (.bl (ts.any (isTy c.sub k))) s
  | none => .bad

/-! ### repr(a) == repr(b) of the same data -/
mutual
def sameW : W → W → Bool
  | .non, .non => true
  | .bl a, .bl b => a == b
  | .int i, .int j => i == j
  | .str x, .str y => eqS x y
  | .tup l, .tup m => sameWs l m
  | .lst l, .lst m => sameWs l m
  | _, _ => false
def sameWs : List W → List W → Bool
  | [], [] => true
  | x :: xs, y :: ys => sameW x y && sameWs xs ys
  | _, _ => false
end

mutual
/-- ints of at most n + 1 bits -/
def bitsW (n : Nat) : W → Bool
  | .int i => decide (i.natAbs.log2 < n)
  | .tup l => bitsWs n l
  | .lst l => bitsWs n l
  | _ => true
def bitsWs (n : Nat) : List W → Bool
  | [] => true
  | x :: xs => bitsW n x && bitsWs n xs
end
mutual
def wtW : W → Nat
  | .str x => x.cps.size
  | .int i => if i == 0 then 0 else i.natAbs.log2 + 1
  | .tup l => wtWs l
  | .lst l => wtWs l
  | _ => 0
def wtWs : List W → Nat
  | [] => 0
  | x :: xs => wtW x + 1 + wtWs xs
end
/-- what repr writes out -/
def repOk (w : W) : Bool := plainW 64 w && ((bitsW 40 w && decide (43 * wtW w + 41 ≤ sizeMax)) || (bitsW 1919 w && decide (1922 * wtW w + 1920 ≤ sizeMax)))
def dRepEq (a b : DE) : DE := fun c env s => (a c env s).bind fun x s => if repOk (seeW s x) then (b c env s).bind fun y s' => if repOk (seeW s' y) && sameW (seeW s x) (seeW s' y) then .ok (.bl true) s' else .bad else .bad

/-! ### calls -/
/-- the parameters' values: an argument, or a default -/
def pickW (l : List W) : List (Nat ⊕ W) → Option (List W)
  | [] => some []
  | .inl i :: r => (match l[i]?, pickW l r with
    | some w, some m => some (w :: m)
    | _, _ => none)
  | .inr w :: r => (pickW l r).map (w :: ·)
def daApp (a b : DA) : DA := fun c env s => (a c env s).bind fun l s => (b c env s).bind fun m s => .ok (l ++ m) s
def callP (c : Ct) (g : Nat) (pick : List (Nat ⊕ W)) (l : List W) (s : S) : Res W := match pickW l pick with
  | some m => c.call (.fn g) m s
  | none => .bad
def dCall (g : Nat) (pick : List (Nat ⊕ W)) (a : DA) : DE := fun c env s => (a c env s).bind fun l s => callP c g pick l s
def dCallV (i : Nat) (a : DA) : DE := fun c env s => match env[i]? with
  | some (some (.clo j cs)) => (a c env s).bind fun l s => if allD l then (c.call (.clo j cs) l s).bind fun w s => if isD w then .ok w s else .bad else .bad
  | _ => .bad
/-- g(args, lambda): the lambda's captured values are read behind the other arguments -/
def grab (env : Env) : List Nat → Option (List W)
  | [] => some []
  | i :: r => match env[i]? with
    | some (some w) => (grab env r).map (w :: ·)
    | _ => none
def dCallLam (g : Nat) (pick : List (Nat ⊕ W)) (a : DA) (j : Nat) (cap : List Nat) : DE := fun c env s => (a c env s).bind fun l s => match grab env cap with
  | some cs => (callP c g pick (l ++ [.clo j cs]) s).bind fun w s => if isD w then .ok w s else .bad
  | none => .bad
/-- a frozen record: C(args), its __init__ storing them one by one -/
def dRec (k : Nat) (a : DA) : DE := fun c env s => (a c env s).bind fun l s => if allD l then .ok (.rc k l) s else .bad
/-- a field; tab: at which place each class keeps it -/
def opFld (tab : List (Nat × Nat)) (s : S) : W → Option W
  | .rc c l => (tab.lookup c).bind fun i => l[i]?
  | .exc c l => (tab.lookup c).bind fun i => l[i]?
  | .adr n => (match s.objs[n]? with
    | some (.ins c l) => (tab.lookup c).bind fun i => (match l[i]? with
      | some (some w) => some w
      | _ => none)
    | _ => none)
  | _ => none
def opFldX (tab : List (Nat × Nat)) (s : S) : W → Option W
  | .exc c l => (tab.lookup c).bind fun i => l[i]?
  | _ => none
/-! ### methods of lists and dicts that write -/
def mAppend (s : S) (x y : W) : Res W := match x with
  | .adr n => (match s.objs[n]? with
    | some (.lst l) => if isD y && decide (l.length < sizeMax) then .ok .non ((s.held n y).put n (.lst (l ++ [y]))) else .bad
    | _ => .bad)
  | _ => .bad
def mExtend (s : S) (x y : W) : Res W := match x with
  | .adr n => (match s.objs[n]? with
    | some (.lst l) => (match itemsOf s y with
      | some m => if decide (l.length + m.length ≤ sizeMax) then .ok .non ((s.held n (.lst m)).put n (.lst (l ++ m))) else .bad
      | none => .bad)
    | _ => .bad)
  | _ => .bad
def mPop (s : S) (x : W) : Res W := match x with
  | .adr n => (match s.objs[n]? with
    | some (.lst l) => (match l.getLast? with
      | some y => .ok y (s.put n (.lst l.dropLast))
      | none => .bad)
    | _ => .bad)
  | _ => .bad
def mPopAt (s : S) (x i : W) : Res W := match x, i with
  | .adr n, .int i => (match s.objs[n]? with
    | some (.lst l) => (match L2.ixN l.length i with
      | some k => (match l[k]? with
        | some y => .ok y (s.put n (.lst (l.eraseIdx k)))
        | none => .bad)
      | none => .bad)
    | _ => .bad)
  | _, _ => .bad
/-- what a method's receiver is -/
inductive MK where
  | lst | dct | str
def isMK (s : S) : MK → W → Bool
  | .lst, w => (listOf s w).isSome
  | .dct, w => (pairsOf s w).isSome
  | .str, .str _ => true
  | .str, _ => false
def dM1 (k : MK) (f : S → W → Res W) (a : DE) : DE := fun c env s => (a c env s).bind fun x s => if isMK s k x then f s x else .bad
def dM2 (k : MK) (f : S → W → W → Res W) (a b : DE) : DE := fun c env s => (a c env s).bind fun x s => if isMK s k x then (b c env s).bind fun y s => f s x y else .bad
def pureM (f : S → W → W → Option W) : S → W → W → Res W := fun s x y => Res.opt (f s x y) s
def keyOk : W → Bool
  | .str _ => true
  | .int _ => true
  | _ => false
def putK (k v : W) (l : List (W × W)) : List (W × W) := if l.any (fun p => keyEq p.1 k) then l.map (fun p => if keyEq p.1 k then (p.1, v) else p) else l ++ [(k, v)]
def dDisp (ps : List (DE × DE)) : DE := fun c env s => (dpAll ps c env (s.new (.dct []))).bind fun l s2 => match s2.objs[s.objs.length]? with
  | some (.dct []) => if l.all (fun p => keyOk p.1 && isD p.2) && decide (l.length ≤ 15) then .ok (.adr s.objs.length) ((s2.held s.objs.length (.lst (l.map (·.2)))).put s.objs.length (.dct (l.foldl (fun m p => putK p.1 p.2 m) []))) else .bad
  | _ => .bad
/-! ### what a for walks -/
def signs (x : Str) : List W := x.cps.toList.map fun c => .str ⟨#[c]⟩
def diE (a : DE) : DI := fun c env s => (a c env s).bind fun x s => match x with
  | .tup l => .ok (.inl l) s
  | .lst l => .ok (.inl l) s
  | .str x => .ok (.inl (signs x)) s
  | .adr n => (match s.objs[n]? with
    | some (.lst _) => .ok (.inr n) s
    | _ => .bad)
  | _ => .bad
def diStr (a : DE) : DI := fun c env s => (a c env s).bind fun x s => match x with
  | .str x => .ok (.inl (signs x)) s
  | _ => .bad
def upto (n : Nat) : List W := (List.range n).map fun i => .int (i : Nat)
def diRange (a : DE) : DI := fun c env s => (a c env s).bind fun x s => match x with
  | .int n => if decide (-4611686018427387904 ≤ n) && decide (n ≤ sizeMax) then .ok (.inl (upto n.toNat)) s else .bad
  | _ => .bad
def numbered : Nat → List W → List W
  | _, [] => []
  | n, x :: r => .tup [.int (n : Nat), x] :: numbered (n + 1) r
/-- enumerate(reversed(t)), t a tuple -/
def diEnumRev (a : DE) : DI := fun c env s => (a c env s).bind fun x s => match x with
  | .tup l => .ok (.inl (numbered 0 l.reverse)) s
  | _ => .bad
/-! ### targets -/
def dgName (i : Nat) : DG := fun w env _ => some (env.set i (some w))
def dgNil : List W → Env → S → Option Env := fun l env _ => match l with
  | [] => some env
  | _ => none
def dgCons (g : DG) (r : List W → Env → S → Option Env) : List W → Env → S → Option Env := fun l env s => match l with
  | x :: xs => (match g x env s with
    | some env => r xs env s
    | none => none)
  | [] => none
def dgTup (n : Nat) (r : List W → Env → S → Option Env) : DG := fun w env s => match w with
  | .tup l => if l.length = n then r l env s else none
  | _ => none

/-! ### comprehensions: no exception leaves them -/
/-- one turn of a comprehension, then the others -/
def lcOne (g : DG) (t : DT) (e : DE) (c : Ct) (env : Env) (x : W) (s : S) (go : S → Res (List W)) : Res (List W) :=
  match g x env s with
    | none => .bad
    | some env' => (match t c env' s with
      | .ok k s => if k then (match e c env' s with
          | .ok y s => if isD y then (match go s with
              | .ok ys s => .ok (y :: ys) s
              | _ => .bad) else .bad
          | _ => .bad) else go s
      | _ => .bad)
def lcLoop (g : DG) (t : DT) (e : DE) (c : Ct) (env : Env) : List W → S → Res (List W)
  | [], s => .ok [] s
  | x :: xs, s => lcOne g t e c env x s fun s => lcLoop g t e c env xs s
/-- over a list of the state, as it is at each turn -/
def lcLoopN (g : DG) (t : DT) (e : DE) (c : Ct) (env : Env) (n : Nat) : Nat → Nat → S → Res (List W)
  | 0, _, _ => .bad
  | k + 1, i, s => match s.objs[n]? with
    | some (.lst l) => (match l[i]? with
      | some x => lcOne g t e c env x s fun s => lcLoopN g t e c env n k (i + 1) s
      | none => .ok [] s)
    | _ => .bad
def wipeE (env : Env) : List Nat → Env
  | [] => env
  | v :: vs => (wipeE env vs).set v none
def lcAll (vs : List Nat) (i : DI) (g : DG) (t : DT) (e : DE) : DA := fun c env s => (i c env s).bind fun l s => match (match l with
  | .inl l => lcLoop g t e c (wipeE env vs) l s
  | .inr n => lcLoopN g t e c (wipeE env vs) n c.fuel 0 s) with
  | .ok ys s => if decide (ys.length ≤ sizeMax) then .ok ys s else .bad
  | _ => .bad
def tYes : DT := fun _ _ s => .ok true s
def dLc (vs : List Nat) (i : DI) (g : DG) (t : DT) (e : DE) : DE := fun c env s => (lcAll vs i g t e c env s).bind fun ys s => .ok (.lst ys) s
def dLcN (vs : List Nat) (i : DI) (g : DG) (t : DT) (e : DE) : DE := fun c env s => (lcAll vs i g t e c env s).bind fun ys s => newL ys s

/-! ### statements -/
def sBad : DS := fun _ _ _ => .bad
def dBad : DE := fun _ _ _ => .bad
def tBad : DT := fun _ _ _ => .bad
def diBad : DI := fun _ _ _ => .bad
def sRetN : DS := fun _ env s => .ok (.rt .non) s
def sPass : DS := fun _ env s => .ok (.nx env) s
def sBrk : DS := fun _ env s => .ok (.bk env) s
def sCnt : DS := fun _ env s => .ok (.ct env) s
def sExpr (e : DE) : DS := fun c env s => (e c env s).bind fun _ s => .ok (.nx env) s
def sRet (e : DE) : DS := fun c env s => (e c env s).bind fun w s => .ok (.rt w) s
def sSet (e : DE) (g : DG) : DS := fun c env s => (e c env s).bind fun w s => match g w env s with
  | some env => .ok (.nx env) s
  | none => .bad
/-- x, y = a, b: both sides written -/
def sPar (is : List Nat) (a : DA) : DS := fun c env s => (a c env s).bind fun l s => if l.length = is.length then .ok (.nx ((is.zip l).foldl (fun env p => env.set p.1 (some p.2)) env)) s else .bad
def sAug (i : Nat) (f : S → W → W → Option W) (e : DE) : DS := fun c env s => match env[i]? with
  | some (some x) => (e c env s).bind fun y s => match f s x y with
    | some z => .ok (.nx (env.set i (some z))) s
    | none => .bad
  | _ => .bad
def opAddI (_ : S) : W → W → Option W
  | .int i, .int j => some (.int (i + j))
  | _, _ => none
/-- d[k] = e -/
def sPutK (e d k : DE) : DS := fun c env s => (e c env s).bind fun v s => (d c env s).bind fun x s => (k c env s).bind fun y s => match x with
  | .adr n => (match s.objs[n]? with
    | some (.dct l) => if isD v && keyOk y && decide (l.length < sizeMax) then .ok (.nx env) ((s.held n v).put n (.dct (putK y v l))) else .bad
    | _ => .bad)
  | _ => .bad
def sSeq (a b : DS) : DS := fun c env s => (a c env s).bind fun f s => match f with
  | .nx env => b c env s
  | f => .ok f s
def sIf (t : DT) (a b : DS) : DS := fun c env s => (t c env s).bind fun k s => if k then a c env s else b c env s
/-- one turn of a for, then the others -/
def forOne (g : DG) (b : DS) (c : Ct) (x : W) (env : Env) (s : S) (go : Env → S → Res Flow) : Res Flow := match g x env s with
    | none => .bad
    | some env => (b c env s).bind fun f s => match f with
      | .nx env => go env s
      | .ct env => go env s
      | .bk env => .ok (.nx env) s
      | .rt w => .ok (.rt w) s
def forLoop (g : DG) (b : DS) (c : Ct) : List W → Env → S → Res Flow
  | [], env, s => .ok (.nx env) s
  | x :: xs, env, s => forOne g b c x env s fun env s => forLoop g b c xs env s
def forLoopN (g : DG) (b : DS) (c : Ct) (n : Nat) : Nat → Nat → Env → S → Res Flow
  | 0, _, _, _ => .bad
  | k + 1, i, env, s => match s.objs[n]? with
    | some (.lst l) => (match l[i]? with
      | some x => forOne g b c x env s fun env s => forLoopN g b c n k (i + 1) env s
      | none => .ok (.nx env) s)
    | _ => .bad
def sFor (i : DI) (g : DG) (b : DS) : DS := fun c env s => (i c env s).bind fun l s => match l with
  | .inl l => forLoop g b c l env s
  | .inr n => forLoopN g b c n c.fuel 0 env s
def whileLoop (t : DT) (b : DS) (c : Ct) : Nat → Env → S → Res Flow
  | 0, _, _ => .bad
  | n + 1, env, s => (t c env s).bind fun k s => if k then (b c env s).bind fun f s => (match f with
      | .nx env => whileLoop t b c n env s
      | .ct env => whileLoop t b c n env s
      | .bk env => .ok (.nx env) s
      | .rt w => .ok (.rt w) s) else .ok (.nx env) s
def sWhile (t : DT) (b : DS) : DS := fun c env s => whileLoop t b c c.fuel env s
/-- raise C(text, v): the arguments, then which of them C keeps -/
def sRaise (k : Nat) (pick : List (Nat ⊕ W)) (a : DA) : DS := fun c env s => (a c env s).bind fun l s => match pickW l pick with
  | some m => if allD m && decide (l.length ≤ 1000) then .exc (.exc k m) s else .bad
  | none => .bad
/-- try: f() / except D as e: m.append(e) -/
def sTryApp (d : Nat) (e : DE) (m : Nat) (n : Nat) : DS := fun c env s => match e c env s with
  | .ok _ s => .ok (.nx env) s
  | .bad => .bad
  | .exc x s => (match x with
    | .exc k l => if c.sub k d then (match env[m]? with
        | some (some y) => (match mAppend s y (.exc k l) with
          | .ok _ s => .ok (.nx (env.set n none)) s
          | _ => .bad)
        | _ => .bad) else .exc x s
    | _ => .bad)

/-! ### calls of defs -/
mutual
/-- the value with no place from n on, what stood there frozen -/
def freezeW (objs : List O) (n : Nat) : Nat → W → Option W
  | 0, _ => none
  | k + 1, .adr m => if m < n then some (.adr m) else (match objs[m]? with
    | some (.lst l) => (freezeWs objs n k l).map .lst
    | some (.dct l) => (freezeKs objs n k l).map .dct
    | _ => none)
  | k + 1, .tup l => (freezeWs objs n k l).map .tup
  | k + 1, .lst l => (freezeWs objs n k l).map .lst
  | k + 1, .dct l => (freezeKs objs n k l).map .dct
  | k + 1, .rc c l => (freezeWs objs n k l).map (.rc c)
  | k + 1, .exc c l => (freezeWs objs n k l).map (.exc c)
  | _, .clo _ _ => none
  | _, w => some w
def freezeWs (objs : List O) (n : Nat) : Nat → List W → Option (List W)
  | _, [] => some []
  | 0, _ => none
  | k + 1, x :: xs => match freezeW objs n k x, freezeWs objs n k xs with
    | some y, some ys => some (y :: ys)
    | _, _ => none
def freezeKs (objs : List O) (n : Nat) : Nat → List (W × W) → Option (List (W × W))
  | _, [] => some []
  | 0, _ => none
  | k + 1, (a, b) :: xs => match freezeW objs n k a, freezeW objs n k b, freezeKs objs n k xs with
    | some y, some z, some ys => some ((y, z) :: ys)
    | _, _, _ => none
end
def S.enter (s : S) : S := { s with keep := s.objs.length :: s.keep }
/-- the keeps of the callers, behind a call that let go what it made -/
def keptBy (s0 : S) (t : List Nat) : List Nat := if t = s0.keep then s0.keep else t.map fun k => min k s0.objs.length
def S.back (s0 s : S) (t : List Nat) : S := ⟨s.objs.take s0.objs.length, keptBy s0 t⟩
/-- behind a call that came back with w: the objects that it made are let go, or all is kept -/
def leaveOk (fz : Bool) (s0 : S) (w : W) (s : S) : Res W := match s.keep with
  | [] => .bad
  | k :: t => if isD w then (if fz = true ∧ k = s0.objs.length then (if belowW k w then .ok w (S.back s0 s t) else match freezeW s.objs k 1000000 w with
      | some w' => .ok w' (S.back s0 s t)
      | none => .ok w ⟨s.objs, t⟩) else .ok w ⟨s.objs, t⟩) else .bad
def leaveExc (s0 : S) (x : W) (s : S) : Res W := match s.keep with
  | [] => .bad
  | k :: t => if k = s0.objs.length && belowW k x then .exc x (S.back s0 s t) else .exc x ⟨s.objs, t⟩
def leave (fz : Bool) (s0 : S) : Res Flow → Res W
  | .ok (.rt w) s => leaveOk fz s0 w s
  | .ok (.nx _) s => leaveOk fz s0 .non s
  | .ok _ _ => .bad
  | .exc x s => leaveExc s0 x s
  | .bad => .bad
/-- a def: how many parameters, how many slots, its body -/
structure FD where
  np : Nat
  ns : Nat
  /-- what it made is frozen when it comes back -/
  fz : Bool
  body : DS
/-- a lambda: how many captured names, parameters; its body -/
structure LD where
  nc : Nat
  np : Nat
  body : DE
structure Pg where
  defs : List FD
  lams : List LD
  sub : Nat → Nat → Bool
  fuel : Nat
def retOf (r : Res W) : Res Flow := match r with
  | .ok w s => .ok (.rt w) s
  | .exc x s => .exc x s
  | .bad => .bad
def startEnv (ns : Nat) (l : List W) : Env := l.map some ++ List.replicate (ns - l.length) none
def callAt (p : Pg) : Nat → W → List W → S → Res W
  | 0, _, _, _ => .bad
  | k + 1, f, l, s => match f with
    | .fn g => (match p.defs[g]? with
      | some d => if l.length = d.np then leave d.fz s (d.body ⟨callAt p k, p.fuel, p.sub⟩ (startEnv d.ns l) s.enter) else .bad
      | none => .bad)
    | .clo j cs => (match p.lams[j]? with
      | some d => if l.length = d.np ∧ cs.length = d.nc then leave true s (retOf (d.body ⟨callAt p k, p.fuel, p.sub⟩ ((cs ++ l).map some) s.enter)) else .bad
      | none => .bad)
    | _ => .bad
end Vi
set_option Elab.async false
set_option linter.all false
set_option maxRecDepth 100000
set_option maxHeartbeats 4000000
/-! Vi1: how the interpreter's values and state stand in the abstract heap. -/
namespace Vi
open PySem PySem.Spec PyProof.Rows L2

/-- a lambda of the text -/
structure LT where
  params : Arguments
  body : Expr
  scope : Scope
  cap : List Str
/-- where the program's things stand -/
structure GI where
  K : PySem.W.Frag
  fnA : Nat → Option Addr
  clA : Nat → Option Addr
  flds : Nat → List Str
  lamT : Nat → Option LT
  T : List (Addr × Str)
  gh : List Addr
/-- with lists that are being built -/
def GI.g (G : GI) (gh : List Addr) : GI := { G with gh := gh }
/-- an object that is known whole -/
def XO (o : Obj) : HO := .frz o (.ext fun _ => True)
/-- an exception that was caught -/
def EO (a C : Addr) (d : Option Addr) : HO := .ext fun h => ∃ (oe : Obj) (vs : Array Value), h.get? a = some oe ∧ oe.cls = .ref C ∧ oe.dict = d ∧ oe.data = .fields vs
def xdP (H : Hp) : Option Addr → List (Str × V) → Prop
  | none, fs => fs = []
  | some d, fs => H d = some (.xd fs)

/-- what is told of a class whose instances are made -/
structure ClF (K : PySem.W.Frag) (C : Addr) : Prop where
  cl : Cls K C
  ha : PySem.W.findIn K (.ref C) "__class__" = some (some (.builtin "object.__class__"))
  hn : PySem.W.specialIn K (.builtin "object.__class__") "__get__" = some (some (.builtin "getset_descriptor.__get__"))
  htk : PySem.W.takesIn K (.builtin "object.__class__") = some true
  hm : PySem.W.mroIn K C (.type "object") = some true
/-- what is told of a class of exceptions -/
structure ExF (K : PySem.W.Frag) (C : Addr) : Prop where
  hcl : (PySem.W.clsIn K C).isSome = true
  hga : PySem.W.findIn K (.ref C) "__getattribute__" = some (some (.builtin "BaseException.__getattribute__"))
  hgt : ∃ gt, PySem.W.findIn K (.ref C) "__getattr__" = some gt
  hsub : PySem.W.subIn K (.ref C) (.type "BaseException") = some true
  ha : PySem.W.findIn K (.ref C) "__class__" = some (some (.builtin "object.__class__"))
  hn : PySem.W.specialIn K (.builtin "object.__class__") "__get__" = some (some (.builtin "getset_descriptor.__get__"))
  htk : PySem.W.takesIn K (.builtin "object.__class__") = some true
  hm : PySem.W.mroIn K C (.type "object") = some true
mutual
inductive RD (G : GI) (as : List Addr) (H : Hp) : W → V → Prop
  | non : RD G as H .non .non
  | bl (b : Bool) : RD G as H (.bl b) (.bl b)
  | int (i : Int) : RD G as H (.int i) (.int i)
  | str (x : Str) : RD G as H (.str x) (.str x)
  | tup {ws : List W} {a : Addr} {xs : List V} : SqT G.K H a xs → RDs G as H ws xs → RD G as H (.tup ws) (.ref a)
  | lst {ws : List W} {a : Addr} {xs : List V} : Rd H a (.lst xs) → a ∉ as ∧ a ∉ G.gh → RDs G as H ws xs → RD G as H (.lst ws) (.ref a)
  | dct {kvs : List (W × W)} {a : Addr} {es : List (Key × V)} : H a = some (.dK es) → a ∉ as ∧ a ∉ G.gh → RDk G as H kvs es → RD G as H (.dct kvs) (.ref a)
  | rc {c : Nat} {C : Addr} {ws : List W} {a dx : Addr} {fs : List (Str × V)} {xs : List V} : G.clA c = some C ∧ ClF G.K C → H a = some (.ins C dx fs) → a ∉ as ∧ a ∉ G.gh → (G.flds c).map (fun f => fs.lookup f) = xs.map some → RDs G as H ws xs → RD G as H (.rc c ws) (.ref a)
  | adr {n : Nat} {a : Addr} : as[n]? = some a → RD G as H (.adr n) (.ref a)
  | fn {g : Nat} {f : Addr} : G.fnA g = some f → RD G as H (.fn g) (.ref f)
  | exc {c : Nat} {C : Addr} {ws : List W} {a : Addr} {d : Option Addr} {fs : List (Str × V)} {xs : List V} : G.clA c = some C ∧ ExF G.K C → H a = some (EO a C d) → xdP H d fs → (G.flds c).map (fun f => fs.lookup f) = xs.map some → RDs G as H ws xs → RD G as H (.exc c ws) (.ref a)
inductive RDs (G : GI) (as : List Addr) (H : Hp) : List W → List V → Prop
  | nil : RDs G as H [] []
  | cons {w : W} {v : V} {ws : List W} {vs : List V} : RD G as H w v → RDs G as H ws vs → RDs G as H (w :: ws) (v :: vs)
inductive RDk (G : GI) (as : List Addr) (H : Hp) : List (W × W) → List (Key × V) → Prop
  | nil : RDk G as H [] []
  | cons {k w : W} {q : Key} {v : V} {ws : List (W × W)} {vs : List (Key × V)} : RD G as H k (kV q) → RD G as H w v → RDk G as H ws vs → RDk G as H ((k, w) :: ws) ((q, v) :: vs)
end
def hideC (H : Hp) (cells : List (Str × Addr)) : Hp := fun b => if b ∈ cells.map (·.2) then none else H b
/-- a value: data, or a lambda with what it captured -/
inductive RW (G : GI) (as : List Addr) : Hp → W → V → Prop
  | d {H : Hp} {w : W} {v : V} : RD G as H w v → RW G as H w v
  | clo {H : Hp} {j : Nat} {cs : List W} {L : LT} {f c' : Addr} {q : Str} {cells : List (Str × Addr)} {pm ctv : Value} (ca : Nat → Addr) (oc : Nat → Obj) (u : Nat → Value) (v : Nat → V) :
      G.lamT j = some L → H f = some (XO (PySem.W.kla_obj "<lambda>" q L.params L.body L.scope cells pm c' ctv)) → H c' = some (LamX.CodeO c' q) → cs.length = L.cap.length →
      (∀ p ∈ cells, ∃ o ov, H p.2 = some (XO o) ∧ o.data = .cell ov) ∧ (∀ x y c, cells.lookup x = some c → cells.lookup y = some c → x = y) ∧ (∀ y ∈ L.scope.names, y.2 = .free → ∃ c, cells.lookup y.1 = some c) →
      (∀ (i : Nat) (x : Str), L.cap[i]? = some x → cells.lookup x = some (ca i) ∧ H (ca i) = some (XO (oc i)) ∧ (oc i).data = .cell (some (u i)) ∧ RelV (v i) (u i)) →
      (∀ (i : Nat) (w : W), cs[i]? = some w → RW G as (hideC H cells) w (v i)) → RW G as H (.clo j cs) (.ref f)
inductive RWs (G : GI) (as : List Addr) (H : Hp) : List W → List V → Prop
  | nil : RWs G as H [] []
  | cons {w : W} {v : V} {ws : List W} {vs : List V} : RW G as H w v → RWs G as H ws vs → RWs G as H (w :: ws) (v :: vs)

def immO : HO → Prop
  | .tup _ => True
  | .frz _ _ => True
  | .own _ => True
  | .ext _ => True
  | .xd _ => True
  | _ => False
def nTb (o : HO) : Prop := ∀ ps, o ≠ .tbl ps
/-- the later heap, the later places -/
structure Ext (as : List Addr) (H : Hp) (as' : List Addr) (H' : Hp) : Prop where
  pre : as <+: as'
  fr : ∀ b ∈ as', b ∉ as → ∀ o, H b = some o → ¬ nTb o
  im : ∀ b o, H b = some o → immO o → H' b = some o
  kp : ∀ b o, H b = some o → b ∉ as → nTb o → H' b = some o
theorem Ext.refl (as : List Addr) (H : Hp) : Ext as H as H := ⟨List.prefix_refl _, fun b h n => absurd h n, fun _ _ h _ => h, fun _ _ h _ _ => h⟩
theorem Ext.out {as as' : List Addr} {H H' : Hp} (e : Ext as H as' H') {b : Addr} {o : HO} (h : H b = some o) (n : b ∉ as) (t : nTb o) : b ∉ as' := fun m => e.fr b m n o h t
theorem Ext.trans {as as1 as2 : List Addr} {H H1 H2 : Hp} (e : Ext as H as1 H1) (f : Ext as1 H1 as2 H2) : Ext as H as2 H2 := by
  refine ⟨e.pre.trans f.pre, fun b h n o q t => ?_, fun b o h i => f.im b o (e.im b o h i) i, fun b o h n t => f.kp b o (e.kp b o h n t) (e.out h n t) t⟩
  by_cases h1 : b ∈ as1
  · exact e.fr b h1 n o q t
  · exact f.fr b h h1 o (e.kp b o q n t) t
theorem Ext.kept {as : List Addr} {H H' : Hp} (k : ∀ b o, H b = some o → nTb o → H' b = some o) : Ext as H as H' := ⟨List.prefix_refl _, fun b h n => absurd h n, fun b o h i => k b o h fun ps z => by
  rw [z] at i
  exact i, fun b o h _ t => k b o h t⟩

/-- the same, but for the lists that are being built -/
structure Ex0 (gh as : List Addr) (H : Hp) (as' : List Addr) (H' : Hp) : Prop where
  pre : as <+: as'
  fr : ∀ b ∈ as', b ∉ as → ∀ o, H b = some o → ¬ nTb o
  im : ∀ b o, H b = some o → immO o → H' b = some o
  kp : ∀ b o, H b = some o → b ∉ as → b ∉ gh → nTb o → H' b = some o
theorem Ext.to0 {as as' : List Addr} {H H' : Hp} (e : Ext as H as' H') (gh : List Addr) : Ex0 gh as H as' H' := ⟨e.pre, e.fr, e.im, fun b o h1 h2 _ h3 => e.kp b o h1 h2 h3⟩
theorem Ex0.out {gh as as' : List Addr} {H H' : Hp} (e : Ex0 gh as H as' H') {b : Addr} {o : HO} (h : H b = some o) (n : b ∉ as) (t : nTb o) : b ∉ as' := fun m => e.fr b m n o h t
theorem SqT.mono {K : PySem.W.Frag} {gh as as' : List Addr} {H H' : Hp} (e : Ex0 gh as H as' H') {a : Addr} {xs : List V} (h : SqT K H a xs) : SqT K H' a xs := by
  rcases h with (h | ⟨o, h⟩) | h
  · exact .inl (.inl (e.im a _ h True.intro))
  · exact .inl (.inr ⟨o, e.im a _ h True.intro⟩)
  · exact .inr h
theorem Rd.mono {gh as as' : List Addr} {H H' : Hp} (e : Ex0 gh as H as' H') {a : Addr} {xs : List V} (h : Rd H a (.lst xs)) (n : a ∉ as ∧ a ∉ gh) : Rd H' a (.lst xs) ∧ a ∉ as' ∧ a ∉ gh := by
  rcases h with h | ⟨o, h⟩
  · exact ⟨.inl (e.kp a _ h n.1 n.2 fun _ z => by cases z), e.out h n.1 (fun _ z => by cases z), n.2⟩
  · exact ⟨.inr ⟨o, e.im a _ h True.intro⟩, e.out h n.1 (fun _ z => by cases z), n.2⟩
theorem xdP.mono {gh as as' : List Addr} {H H' : Hp} (e : Ex0 gh as H as' H') : ∀ {d : Option Addr} {fs : List (Str × V)}, xdP H d fs → xdP H' d fs
  | none, _, h => h
  | some d, _, h => e.im d _ h True.intro
mutual
theorem RD.mono0 {G : GI} {as as' : List Addr} {H H' : Hp} (e : Ex0 G.gh as H as' H') : ∀ (w : W) (v : V), RD G as H w v → RD G as' H' w v
  | .non, _, h => by cases h; exact .non
  | .bl b, _, h => by cases h; exact .bl b
  | .int b, _, h => by cases h; exact .int b
  | .str b, _, h => by cases h; exact .str b
  | .tup ws, _, h => by
    cases h with
    | tup h1 h2 => exact .tup (SqT.mono e h1) (RDs.mono0 e ws _ h2)
  | .lst ws, _, h => by
    cases h with
    | lst h1 h2 h3 =>
      obtain ⟨k1, k2⟩ := Rd.mono e h1 h2
      exact .lst k1 k2 (RDs.mono0 e ws _ h3)
  | .dct ws, _, h => by
    cases h with
    | dct h1 h2 h3 => exact .dct (e.kp _ _ h1 h2.1 h2.2 fun _ z => by cases z) ⟨e.out h1 h2.1 (fun _ z => by cases z), h2.2⟩ (RDk.mono0 e ws _ h3)
  | .rc c ws, _, h => by
    cases h with
    | rc h0 h1 h2 h3 h4 => exact .rc h0 (e.kp _ _ h1 h2.1 h2.2 fun _ z => by cases z) ⟨e.out h1 h2.1 (fun _ z => by cases z), h2.2⟩ h3 (RDs.mono0 e ws _ h4)
  | .adr n, _, h => by
    cases h with
    | adr h0 =>
      obtain ⟨r, q⟩ := e.pre
      exact .adr (by rw [← q, List.getElem?_append_left (List.getElem?_eq_some_iff.mp h0).1]; exact h0)
  | .fn g, _, h => by
    cases h with
    | fn h0 => exact .fn h0
  | .clo _ _, _, h => by cases h
  | .exc c ws, _, h => by
    cases h with
    | exc h0 h1 h2 h3 h4 => exact .exc h0 (e.im _ _ h1 True.intro) (xdP.mono e h2) h3 (RDs.mono0 e ws _ h4)
theorem RDs.mono0 {G : GI} {as as' : List Addr} {H H' : Hp} (e : Ex0 G.gh as H as' H') : ∀ (ws : List W) (vs : List V), RDs G as H ws vs → RDs G as' H' ws vs
  | [], _, h => by cases h; exact .nil
  | w :: ws, _, h => by
    cases h with
    | cons h1 h2 => exact .cons (RD.mono0 e w _ h1) (RDs.mono0 e ws _ h2)
theorem RDk.mono0 {G : GI} {as as' : List Addr} {H H' : Hp} (e : Ex0 G.gh as H as' H') : ∀ (ws : List (W × W)) (vs : List (Key × V)), RDk G as H ws vs → RDk G as' H' ws vs
  | [], _, h => by cases h; exact .nil
  | (k, w) :: ws, _, h => by
    cases h with
    | cons h0 h1 h2 => exact .cons (RD.mono0 e k _ h0) (RD.mono0 e w _ h1) (RDk.mono0 e ws _ h2)
end

theorem RD.mono {G : GI} {as as' : List Addr} {H H' : Hp} (e : Ext as H as' H') (w : W) (v : V) (h : RD G as H w v) : RD G as' H' w v := RD.mono0 (e.to0 _) w v h
theorem RDs.mono {G : GI} {as as' : List Addr} {H H' : Hp} (e : Ext as H as' H') (w : List W) (v : List V) (h : RDs G as H w v) : RDs G as' H' w v := RDs.mono0 (e.to0 _) w v h
theorem RDk.mono {G : GI} {as as' : List Addr} {H H' : Hp} (e : Ext as H as' H') (w : List (W × W)) (v : List (Key × V)) (h : RDk G as H w v) : RDk G as' H' w v := RDk.mono0 (e.to0 _) w v h
theorem Ext.hide {as as' : List Addr} {H H' : Hp} (e : Ext as H as' H') (cells : List (Str × Addr)) : Ext as (hideC H cells) as' (hideC H' cells) := by
  have un : ∀ b o, hideC H cells b = some o → ¬ b ∈ cells.map (·.2) ∧ H b = some o := fun b o h => by
    unfold hideC at h
    split at h
    · cases h
    · rename_i n
      exact ⟨n, h⟩
  have to : ∀ b o, ¬ b ∈ cells.map (·.2) → H' b = some o → hideC H' cells b = some o := fun b o n h => by
    unfold hideC
    rw [if_neg n]
    exact h
  refine ⟨e.pre, fun b h n o q => e.fr b h n o (un b o q).2, fun b o h i => ?_, fun b o h n t => ?_⟩
  · obtain ⟨q, z⟩ := un b o h
    exact to b o q (e.im b o z i)
  · obtain ⟨q, z⟩ := un b o h
    exact to b o q (e.kp b o z n t)
theorem RW.mono {G : GI} {as : List Addr} {H : Hp} {w : W} {v : V} (h : RW G as H w v) : ∀ {as' : List Addr} {H' : Hp}, Ext as H as' H' → RW G as' H' w v := by
  induction h with
  | d h => exact fun e => .d (RD.mono e _ _ h)
  | clo ca oc u v h1 h2 h3 h4 h7 h5 h6 ih =>
    intro as' H' e
    refine .clo ca oc u v h1 (e.im _ _ h2 True.intro) (e.im _ _ h3 True.intro) h4 ⟨fun p hp => ?_, h7.2⟩ (fun i x hx => ?_) fun i w hw => ih i w hw (e.hide _)
    · obtain ⟨o, ov, q1, q2⟩ := h7.1 p hp
      exact ⟨o, ov, e.im _ _ q1 True.intro, q2⟩
    obtain ⟨a, b, c, d⟩ := h5 i x hx
    exact ⟨a, e.im _ _ b True.intro, c, d⟩
theorem RWs.mono {G : GI} {as as' : List Addr} {H H' : Hp} (e : Ext as H as' H') : ∀ {ws : List W} {vs : List V}, RWs G as H ws vs → RWs G as' H' ws vs
  | _, _, .nil => .nil
  | _, _, .cons h1 h2 => .cons (h1.mono e) (RWs.mono e h2)
theorem RWs.length {G : GI} {as : List Addr} {H : Hp} : ∀ {ws : List W} {vs : List V}, RWs G as H ws vs → ws.length = vs.length
  | _, _, .nil => rfl
  | _, _, .cons _ h2 => congrArg (· + 1) (RWs.length h2)
theorem RDs.length {G : GI} {as : List Addr} {H : Hp} : ∀ {ws : List W} {vs : List V}, RDs G as H ws vs → ws.length = vs.length
  | [], _, h => by cases h; rfl
  | _ :: ws, _, h => by
    cases h with
    | cons h1 h2 => exact congrArg (· + 1) (RDs.length h2)
theorem RDs.append {G : GI} {as : List Addr} {H : Hp} : ∀ {ws ws' : List W} {vs vs' : List V}, RDs G as H ws vs → RDs G as H ws' vs' → RDs G as H (ws ++ ws') (vs ++ vs')
  | [], _, _, _, h, k => by cases h; exact k
  | _ :: ws, _, _, _, h, k => by
    cases h with
    | cons h1 h2 => exact .cons h1 (RDs.append h2 k)
theorem RDs.get {G : GI} {as : List Addr} {H : Hp} : ∀ {ws : List W} {vs : List V} {i : Nat} {w : W}, RDs G as H ws vs → ws[i]? = some w → ∃ v, vs[i]? = some v ∧ RD G as H w v
  | [], _, _, _, h, k => by simp at k
  | x :: ws, _, 0, _, h, k => by
    cases h with
    | cons h1 h2 =>
      simp at k
      subst k
      exact ⟨_, rfl, h1⟩
  | x :: ws, _, i + 1, _, h, k => by
    cases h with
    | cons h1 h2 =>
      obtain ⟨v, q, r⟩ := RDs.get (i := i) h2 (by simpa using k)
      exact ⟨v, by simpa using q, r⟩
theorem RDs.take {G : GI} {as : List Addr} {H : Hp} : ∀ (n : Nat) {ws : List W} {vs : List V}, RDs G as H ws vs → RDs G as H (ws.take n) (vs.take n)
  | 0, _, _, h => by simpa using .nil
  | n + 1, [], _, h => by cases h; exact .nil
  | n + 1, _ :: _, _, h => by
    cases h with
    | cons h1 h2 => exact .cons h1 (RDs.take n h2)
theorem RDs.drop {G : GI} {as : List Addr} {H : Hp} : ∀ (n : Nat) {ws : List W} {vs : List V}, RDs G as H ws vs → RDs G as H (ws.drop n) (vs.drop n)
  | 0, _, _, h => by simpa using h
  | n + 1, [], _, h => by cases h; exact .nil
  | n + 1, _ :: _, _, h => by
    cases h with
    | cons h1 h2 => simpa using RDs.drop n h2
theorem RDs.set {G : GI} {as : List Addr} {H : Hp} {w : W} {v : V} (r : RD G as H w v) : ∀ (n : Nat) {ws : List W} {vs : List V}, RDs G as H ws vs → RDs G as H (ws.set n w) (vs.set n v)
  | _, [], _, h => by cases h; exact .nil
  | 0, _ :: _, _, h => by
    cases h with
    | cons h1 h2 => exact .cons r h2
  | n + 1, _ :: _, _, h => by
    cases h with
    | cons h1 h2 => exact .cons h1 (RDs.set r n h2)
theorem RW.data {G : GI} {as : List Addr} {H : Hp} {w : W} {v : V} (h : RW G as H w v) (k : isD w = true) : RD G as H w v := by
  cases h with
  | d h => exact h
  | clo => cases k
theorem RWs.data {G : GI} {as : List Addr} {H : Hp} : ∀ {ws : List W} {vs : List V}, RWs G as H ws vs → allD ws = true → RDs G as H ws vs
  | _, _, .nil, _ => .nil
  | _, _, .cons h1 h2, k => by
    have k' := k
    unfold allD at k'
    rw [List.all_cons, Bool.and_eq_true] at k'
    exact .cons (h1.data k'.1) (RWs.data h2 k'.2)
theorem RDs.wide {G : GI} {as : List Addr} {H : Hp} : ∀ {ws : List W} {vs : List V}, RDs G as H ws vs → RWs G as H ws vs
  | [], _, h => by cases h; exact .nil
  | _ :: _, _, h => by
    cases h with
    | cons h1 h2 => exact .cons (.d h1) (RDs.wide h2)

/-! ### the state -/
def ROk (G : GI) (as : List Addr) (H : Hp) (a : Addr) : O → Prop
  | .lst ws => ∃ xs, H a = some (.lst xs) ∧ RDs G as H ws xs
  | .dct kvs => ∃ es, H a = some (.dK es) ∧ RDk G as H kvs es
  | .ins c l => ∃ (C dx : Addr) (fs : List (Str × V)), (G.clA c = some C ∧ ClF G.K C) ∧ H a = some (.ins C dx fs) ∧ l.length = (G.flds c).length ∧ (∀ f, f ∉ G.flds c → fs.lookup f = none) ∧
      (∀ (i : Nat) (f : Str) (w : W), (G.flds c)[i]? = some f → l[i]? = some (some w) → ∃ v, fs.lookup f = some v ∧ RD G as H w v) ∧
      ∀ (i : Nat) (f : Str), (G.flds c)[i]? = some f → l[i]? = some none → fs.lookup f = none
def belowO (n : Nat) : O → Bool
  | .lst l => belowWs n l
  | .dct l => belowKs n l
  | .ins _ l => l.all fun o => match o with
    | some w => belowW n w
    | none => true
structure Rep (G : GI) (as : List Addr) (H : Hp) (s : S) : Prop where
  len : as.length = s.objs.length
  nd : as.Nodup
  ob : ∀ (n : Nat) (a : Addr) (o : O), as[n]? = some a → s.objs[n]? = some o → ROk G as H a o
  kp : ∀ k ∈ s.keep, k ≤ s.objs.length
  cl : ∀ k ∈ s.keep, ∀ (n : Nat) (o : O), n < k → s.objs[n]? = some o → belowO k o = true
  tb : LamX.Tabs G.T H
  gk : ∀ b ∈ G.gh, b ∉ as ∧ ∃ xs, H b = some (.lst xs)
def mutO : HO → Prop
  | .lst _ => True
  | .dK _ => True
  | .ins _ _ _ => True
  | _ => False
theorem ROk.kind {G : GI} {as : List Addr} {H : Hp} {a : Addr} : ∀ {o : O}, ROk G as H a o → ∃ u, H a = some u ∧ mutO u
  | .lst _, ⟨_, h, _⟩ => ⟨_, h, True.intro⟩
  | .dct _, ⟨_, h, _⟩ => ⟨_, h, True.intro⟩
  | .ins _ _, ⟨_, _, _, _, h, _⟩ => ⟨_, h, True.intro⟩
theorem Rep.kind {G : GI} {as : List Addr} {H : Hp} {s : S} (R : Rep G as H s) {a : Addr} (h : a ∈ as) : ∃ u, H a = some u ∧ mutO u := by
  obtain ⟨n, hn, e⟩ := List.getElem_of_mem h
  have h1 : as[n]? = some a := by rw [List.getElem?_eq_getElem hn, e]
  have h2 : n < s.objs.length := by rw [← R.len]; exact hn
  exact (R.ob n a _ h1 (List.getElem?_eq_getElem h2)).kind
/-- the same object, seen from the later heap -/
theorem ROk.mono {G : GI} {as as' : List Addr} {H H' : Hp} (e : Ext as H as' H') {a : Addr} (h : ∀ u, H a = some u → H' a = some u) : ∀ {o : O}, ROk G as H a o → ROk G as' H' a o
  | .lst _, ⟨xs, h1, h2⟩ => ⟨xs, h _ h1, RDs.mono e _ _ h2⟩
  | .dct _, ⟨xs, h1, h2⟩ => ⟨xs, h _ h1, RDk.mono e _ _ h2⟩
  | .ins _ _, ⟨C, dx, fs, h0, h1, h2, h3, h4, h5⟩ => ⟨C, dx, fs, h0, h _ h1, h2, h3, fun i f w a b => by
      obtain ⟨v, q, r⟩ := h4 i f w a b
      exact ⟨v, q, RD.mono e _ _ r⟩, h5⟩
/-- something new that nobody writes -/
theorem Ext.laid {as : List Addr} {H : Hp} {p : Addr} {o : HO} (h : H p = none) : Ext as H as (upd H p o) := by
  have k : ∀ b u, H b = some u → upd H p o b = some u := fun b u q => by rw [upd_ne (ne_of_none q h)]; exact q
  exact Ext.kept fun b u q _ => k b u q
theorem Rep.laid {G : GI} {as : List Addr} {H : Hp} {s : S} (R : Rep G as H s) {p : Addr} {o : HO} (h : H p = none) : Rep G as (upd H p o) s := by
  have k : ∀ b u, H b = some u → upd H p o b = some u := fun b u q => by rw [upd_ne (ne_of_none q h)]; exact q
  exact ⟨R.len, R.nd, fun n a ob h1 h2 => (R.ob n a ob h1 h2).mono (Ext.laid h) fun u q => k a u q, R.kp, R.cl, R.tb.ext k, fun b hb => ⟨(R.gk b hb).1, (R.gk b hb).2.imp fun xs q => k b _ q⟩⟩
theorem Ext.new {as : List Addr} {H : Hp} {p : Addr} {o : HO} (h : H p = none) : Ext as H (as ++ [p]) (upd H p o) := by
  have k : ∀ b u, H b = some u → upd H p o b = some u := fun b u q => by rw [upd_ne (ne_of_none q h)]; exact q
  refine ⟨List.prefix_append _ _, fun b hb n o' q => ?_, fun b u q _ => k b u q, fun b u q _ _ => k b u q⟩
  rcases List.mem_append.mp hb with z | z
  · exact absurd z n
  · have e : b = p := by simpa using z
    rw [e, h] at q
    cases q
/-- a new object of the state -/
theorem Rep.new {G : GI} {as : List Addr} {H : Hp} {s : S} (R : Rep G as H s) {p : Addr} {o : HO} {ob : O} (h : H p = none) (hm : ROk G (as ++ [p]) (upd H p o) p ob) : Rep G (as ++ [p]) (upd H p o) (s.new ob) := by
  have k : ∀ b u, H b = some u → upd H p o b = some u := fun b u q => by rw [upd_ne (ne_of_none q h)]; exact q
  have np : p ∉ as := fun z => by
    obtain ⟨u, q, _⟩ := R.kind z
    rw [h] at q
    cases q
  refine ⟨by simp [S.new, R.len], ?_, fun n a o' h1 h2 => ?_, fun kk hkk => ?_, fun kk hkk n o' h1 h2 => ?_, R.tb.ext k, fun b hb => ?_⟩
  · rw [List.nodup_append]
    refine ⟨R.nd, by simp, fun x hx y hy => ?_⟩
    have e : y = p := by simpa using hy
    rw [e]
    exact fun z => np (z ▸ hx)
  · by_cases hn : n < as.length
    · rw [List.getElem?_append_left hn] at h1
      have h2' : s.objs[n]? = some o' := by
        rw [← h2]
        show _ = (s.objs ++ [ob])[n]?
        rw [List.getElem?_append_left (by rw [← R.len]; exact hn)]
      exact (R.ob n a o' h1 h2').mono (Ext.new h) fun u q => k a u q
    · have hl : n < as.length + 1 := by
        have z := (List.getElem?_eq_some_iff.mp h1).1
        simpa using z
      have e : n = as.length := by omega
      subst e
      have e1 : a = p := by
        simp at h1
        exact h1.symm
      have e2 : o' = ob := by
        have z : (s.objs ++ [ob])[as.length]? = some o' := h2
        rw [R.len] at z
        simp at z
        exact z.symm
      rw [e1, e2]
      exact hm
  · show kk ≤ (s.objs ++ [ob]).length
    have z := R.kp kk hkk
    simp
    omega
  · have hk : kk ≤ s.objs.length := R.kp kk hkk
    have h1' : n < kk := h1
    have h2' : s.objs[n]? = some o' := by
      rw [← h2]
      show _ = (s.objs ++ [ob])[n]?
      rw [List.getElem?_append_left (by omega)]
    exact R.cl kk hkk n o' h1' h2'
  · obtain ⟨n1, xs, q⟩ := R.gk b hb
    refine ⟨fun z => ?_, xs, k b _ q⟩
    rcases List.mem_append.mp z with z | z
    · exact n1 z
    · have e : b = p := by simpa using z
      rw [e, h] at q
      cases q
theorem Ext.put {as : List Addr} {H : Hp} {a : Addr} {o u : HO} (hm : a ∈ as) (h : H a = some u) (m : mutO u) : Ext as H as (upd H a o) := by
  have k : ∀ b v, b ≠ a → H b = some v → upd H a o b = some v := fun b v n q => by rw [upd_ne n]; exact q
  refine ⟨List.prefix_refl _, fun b h n => absurd h n, fun b v q i => k b v (fun z => ?_) q, fun b v q n _ => k b v (fun z => n (z ▸ hm)) q⟩
  rw [z, h] at q
  cases q
  cases u <;> first | exact m | exact i
/-- the object at place n is written -/
theorem Rep.put {G : GI} {as : List Addr} {H : Hp} {s : S} (R : Rep G as H s) {n : Nat} {a : Addr} {o : HO} {ob : O} (ha : as[n]? = some a) (hm : ROk G as (upd H a o) a ob) (hc : ∀ k ∈ s.keep, n < k → belowO k ob = true) : Rep G as (upd H a o) (s.put n ob) := by
  have ma : a ∈ as := List.mem_of_getElem? ha
  obtain ⟨u, hu, mu⟩ := R.kind ma
  have hl : n < s.objs.length := by rw [← R.len]; exact (List.getElem?_eq_some_iff.mp ha).1
  refine ⟨by simp [S.put, R.len], R.nd, fun j b o' h1 h2 => ?_, fun kk hkk => by show kk ≤ (s.objs.set n ob).length; rw [List.length_set]; exact R.kp kk hkk, fun kk hkk j o' h1 h2 => ?_, ?_, fun b hb => ⟨(R.gk b hb).1, (R.gk b hb).2.imp fun xs q => by rw [upd_ne (fun z => (R.gk b hb).1 (by rw [z]; exact ma))]; exact q⟩⟩
  · by_cases e : j = n
    · subst e
      have z : (s.objs.set j ob)[j]? = some o' := h2
      rw [List.getElem?_set_self hl] at z
      cases z
      rw [ha] at h1
      cases h1
      exact hm
    · have z : (s.objs.set n ob)[j]? = some o' := h2
      rw [List.getElem?_set_ne (Ne.symm e)] at z
      have nb : b ≠ a := fun q => by
        subst q
        have l1 := (List.getElem?_eq_some_iff.mp h1)
        have l2 := (List.getElem?_eq_some_iff.mp ha)
        exact e ((List.getElem_inj R.nd).mp (l1.2.trans l2.2.symm))
      exact (R.ob j b o' h1 z).mono (Ext.put ma hu mu) fun v q => by rw [upd_ne nb]; exact q
  · by_cases e : j = n
    · subst e
      have z : (s.objs.set j ob)[j]? = some o' := h2
      rw [List.getElem?_set_self hl] at z
      cases z
      exact hc kk hkk h1
    · have z : (s.objs.set n ob)[j]? = some o' := h2
      rw [List.getElem?_set_ne (Ne.symm e)] at z
      exact R.cl kk hkk j o' h1 z
  · refine fun p hp => ?_
    obtain ⟨ps, e1, e2, e3⟩ := R.tb p hp
    have np : p.1 ≠ a := fun z => by
      rw [z, hu] at e1
      cases e1
      exact mu
    refine ⟨ps, by rw [upd_ne np]; exact e1, e2, fun pos cv q => ?_⟩
    obtain ⟨c, r1, r2⟩ := e3 pos cv q
    have nc : c ≠ a := fun z => by
      rw [z, hu] at r2
      cases r2
      exact mu
    exact ⟨c, r1, by rw [upd_ne nc]; exact r2⟩
end Vi
set_option Elab.async false
set_option linter.all false
set_option maxRecDepth 100000
set_option maxHeartbeats 4000000
/-! Vi2: the interpreter's expressions keep what the layer's judgements ask. -/
namespace Vi
open PySem PySem.Spec PyProof.Rows L2

mutual
theorem RD.low {G : GI} {as : List Addr} {H : Hp} : ∀ (w : W) (v : V), RD G as H w v → belowW as.length w = true
  | .non, _, _ => rfl
  | .bl _, _, _ => rfl
  | .int _, _, _ => rfl
  | .str _, _, _ => rfl
  | .tup ws, _, h => by
    cases h with
    | tup h1 h2 => exact RDs.low ws _ h2
  | .lst ws, _, h => by
    cases h with
    | lst h1 h2 h3 => exact RDs.low ws _ h3
  | .dct ws, _, h => by
    cases h with
    | dct h1 h2 h3 => exact RDk.low ws _ h3
  | .rc _ ws, _, h => by
    cases h with
    | rc h0 h1 h2 h3 h4 => exact RDs.low ws _ h4
  | .adr n, _, h => by
    cases h with
    | adr h0 => exact decide_eq_true (List.getElem?_eq_some_iff.mp h0).1
  | .fn _, _, _ => rfl
  | .clo _ _, _, h => by cases h
  | .exc _ ws, _, h => by
    cases h with
    | exc h0 h1 h2 h3 h4 => exact RDs.low ws _ h4
theorem RDs.low {G : GI} {as : List Addr} {H : Hp} : ∀ (ws : List W) (vs : List V), RDs G as H ws vs → belowWs as.length ws = true
  | [], _, _ => rfl
  | w :: ws, _, h => by
    cases h with
    | cons h1 h2 =>
      show (belowW _ w && belowWs _ ws) = true
      rw [RD.low w _ h1, RDs.low ws _ h2]
      rfl
theorem RDk.low {G : GI} {as : List Addr} {H : Hp} : ∀ (ws : List (W × W)) (vs : List (Key × V)), RDk G as H ws vs → belowKs as.length ws = true
  | [], _, _ => rfl
  | (k, w) :: ws, _, h => by
    cases h with
    | cons h0 h1 h2 =>
      show (belowW _ k && belowW _ w && belowKs _ ws) = true
      rw [RD.low k _ h0, RD.low w _ h1, RDk.low ws _ h2]
      rfl
end
theorem ROk.low {G : GI} {as : List Addr} {H : Hp} {a : Addr} : ∀ {o : O}, ROk G as H a o → belowO as.length o = true
  | .lst _, ⟨_, _, h⟩ => RDs.low _ _ h
  | .dct _, ⟨_, _, h⟩ => RDk.low _ _ h
  | .ins c l, ⟨_, _, _, _, _, h2, _, h4, _⟩ => by
    refine List.all_eq_true.mpr fun o ho => ?_
    cases o with
    | none => rfl
    | some w =>
      obtain ⟨i, hi, e⟩ := List.getElem_of_mem ho
      have hi' : i < (G.flds c).length := by rw [← h2]; exact hi
      obtain ⟨v, _, r⟩ := h4 i _ w (List.getElem?_eq_getElem hi') (by rw [List.getElem?_eq_getElem hi, e])
      exact RD.low w v r
theorem Rep.top {G : GI} {as : List Addr} {H : Hp} {s : S} (R : Rep G as H s) {n : Nat} {o : O} (h : s.objs[n]? = some o) : belowO s.objs.length o = true := by
  have hl : n < as.length := by rw [R.len]; exact (List.getElem?_eq_some_iff.mp h).1
  have z := (R.ob n _ o (List.getElem?_eq_getElem hl) h).low
  rw [R.len] at z
  exact z
theorem Rep.keep {G : GI} {as : List Addr} {H : Hp} {s : S} (R : Rep G as H s) {l : List Nat} (h1 : ∀ k ∈ l, k ≤ s.objs.length) (h2 : ∀ k ∈ l, ∀ (n : Nat) (o : O), n < k → s.objs[n]? = some o → belowO k o = true) : Rep G as H { s with keep := l } := ⟨R.len, R.nd, R.ob, h1, h2, R.tb, R.gk⟩
theorem Rep.enter {G : GI} {as : List Addr} {H : Hp} {s : S} (R : Rep G as H s) : Rep G as H s.enter := R.keep (fun k hk => (List.mem_cons.mp hk).elim (fun e => Nat.le_of_eq e) (R.kp k)) fun k hk n o h1 h2 => by
  rcases List.mem_cons.mp hk with e | e
  · rw [e]
    exact R.top h2
  · exact R.cl k e n o h1 h2
theorem Rep.held {G : GI} {as : List Addr} {H : Hp} {s : S} (R : Rep G as H s) (n : Nat) (w : W) : Rep G as H (s.held n w) := by
  refine R.keep (fun k hk => ?_) fun k hk m o h1 h2 => ?_
  · obtain ⟨j, hj, e⟩ := List.mem_map.mp hk
    split at e
    · exact Nat.le_of_eq e.symm
    · rw [← e]
      exact R.kp j hj
  · obtain ⟨j, hj, e⟩ := List.mem_map.mp hk
    split at e
    · rw [← e]
      exact R.top h2
    · rw [← e] at h1 ⊢
      exact R.cl j hj m o h1 h2
theorem held_objs (s : S) (n : Nat) (w : W) : (s.held n w).objs = s.objs := rfl
/-- w goes into the object at n -/
theorem Rep.write {G : GI} {as : List Addr} {H : Hp} {s : S} (R : Rep G as H s) {n : Nat} {a : Addr} {o : HO} {ob : O} {w : W} (ha : as[n]? = some a) (hm : ROk G as (upd H a o) a ob) (hc : ∀ k ∈ s.keep, n < k → belowW k w = true → belowO k ob = true) :
    Rep G as (upd H a o) ((s.held n w).put n ob) := by
  refine (R.held n w).put ha hm fun k hk hn => ?_
  obtain ⟨j, hj, e⟩ := List.mem_map.mp hk
  split at e
  · have z := hm.low
    rw [R.len] at z
    rw [← e]
    exact z
  · rename_i q
    rw [← e] at hn ⊢
    refine hc j hj hn ?_
    simp only [Bool.and_eq_true, decide_eq_true_eq, Bool.not_eq_true', not_and, Bool.not_eq_false] at q
    exact q hn

/-! ### the judgements -/
def RX (G : GI) (as : List Addr) (H : Hp) (x : W) (cls : Value) (dd : Option Addr) : Prop :=
  ∃ (c : Nat) (C : Addr) (ws : List W) (fs : List (Str × V)) (xs : List V), x = .exc c ws ∧ (G.clA c = some C ∧ ExF G.K C) ∧ cls = .ref C ∧ xdP H dd fs ∧ (G.flds c).map (fun f => fs.lookup f) = xs.map some ∧ RDs G as H ws xs
structure EOk (G : GI) (as : List Addr) (H : Hp) (env : Env) (σ : L2.St) : Prop where
  len : env.length = σ.length
  at_ : ∀ (i : Nat) (w : W), env[i]? = some (some w) → ∃ v, σ[i]? = some (some v) ∧ RW G as H w v
theorem EOk.mono {G : GI} {as as' : List Addr} {H H' : Hp} {env : Env} {σ : L2.St} (h : EOk G as H env σ) (e : Ext as H as' H') : EOk G as' H' env σ := ⟨h.len, fun i w q => by
  obtain ⟨v, a, b⟩ := h.at_ i w q
  exact ⟨v, a, b.mono e⟩⟩
theorem EOk.set {G : GI} {as : List Addr} {H : Hp} {env : Env} {σ : L2.St} (h : EOk G as H env σ) {w : W} {v : V} (r : RW G as H w v) (i : Nat) : EOk G as H (env.set i (some w)) (σ.set i (some v)) := by
  refine ⟨by simp [h.len], fun j x q => ?_⟩
  by_cases e : j = i
  · subst e
    have hj : j < env.length := by
      have z := (List.getElem?_eq_some_iff.mp q).1
      simpa using z
    rw [List.getElem?_set_self hj] at q
    cases q
    exact ⟨v, List.getElem?_set_self (by rw [← h.len]; exact hj), r⟩
  · rw [List.getElem?_set_ne (Ne.symm e)] at q
    obtain ⟨u, a, b⟩ := h.at_ j x q
    exact ⟨u, by rw [List.getElem?_set_ne (Ne.symm e)]; exact a, b⟩
theorem EOk.gone {G : GI} {as : List Addr} {H : Hp} {env : Env} {σ : L2.St} (h : EOk G as H env σ) (i : Nat) (o : Option V) : EOk G as H (env.set i none) (σ.set i o) := by
  refine ⟨by simp [h.len], fun j x q => ?_⟩
  by_cases e : j = i
  · subst e
    have hj : j < env.length := by
      have z := (List.getElem?_eq_some_iff.mp q).1
      simpa using z
    rw [List.getElem?_set_self hj] at q
    cases q
  · rw [List.getElem?_set_ne (Ne.symm e)] at q
    obtain ⟨u, a, b⟩ := h.at_ j x q
    exact ⟨u, by rw [List.getElem?_set_ne (Ne.symm e)]; exact a, b⟩

/-- what is asked of an answer -/
def Pst {α : Type} (G : GI) (as : List Addr) (H : Hp) (X : Value → Option Addr → Hp → Prop) (ok : α → S → List Addr → Hp → Prop) : Res α → Prop
  | .ok a s => ∀ as' H', Ext as H as' H' → Rep G as' H' s → ok a s as' H'
  | .exc x s => ∀ as' H' cls dd, Ext as H as' H' → Rep G as' H' s → RX G as' H' x cls dd → X cls dd H'
  | .bad => False
section
variable {α β : Type} {G : GI} {as as' : List Addr} {H H' : Hp} {X : Value → Option Addr → Hp → Prop}
theorem Pst.shift (e : Ext as H as' H') {ok : α → S → List Addr → Hp → Prop} : ∀ {r : Res α}, Pst G as H X ok r → Pst G as' H' X ok r
  | .ok _ _, h => fun _ _ e2 R => h _ _ (e.trans e2) R
  | .exc _ _, h => fun _ _ _ _ e2 R q => h _ _ _ _ (e.trans e2) R q
  | .bad, h => h
theorem Pst.imp {ok ok' : α → S → List Addr → Hp → Prop} (f : ∀ a s as' H', Ext as H as' H' → Rep G as' H' s → ok a s as' H' → ok' a s as' H') : ∀ {r : Res α}, Pst G as H X ok r → Pst G as H X ok' r
  | .ok a s, h => fun as' H' e2 R => f a s as' H' e2 R (h _ _ e2 R)
  | .exc _ _, h => h
  | .bad, h => h
theorem Pst.bind {ok : β → S → List Addr → Hp → Prop} {f : α → S → Res β} : ∀ {r : Res α}, Pst G as H X ok (r.bind f) → Pst G as H X (fun a s as' H' => Pst G as' H' X ok (f a s)) r
  | .ok _ _, h => fun _ _ e2 _ => Pst.shift e2 h
  | .exc _ _, h => h
  | .bad, h => h
theorem Pst.opt {ok : α → S → List Addr → Hp → Prop} {s : S} {o : Option α} (h : Pst G as H X ok (Res.opt o s)) : ∃ a, o = some a ∧ Pst G as H X ok (.ok a s) := by
  cases o with
  | none => exact h.elim
  | some a => exact ⟨a, rfl, h⟩
end
def okE (G : GI) (Q : VK) : W → S → List Addr → Hp → Prop := fun w _ as H => ∀ v, RW G as H w v → Q v H
def okA (G : GI) (Q : List V → Hp → Prop) : List W → S → List Addr → Hp → Prop := fun l _ as H => ∀ vs, RWs G as H l vs → Q vs H
def okT (Q : Bool → Hp → Prop) : Bool → S → List Addr → Hp → Prop := fun b _ _ H => Q b H
def rdE (G : GI) (c : Ct) (Wx : WX) (d : DE) : TE := fun σ H Q => ∃ gh as env s, Rep (G.g gh) as H s ∧ EOk (G.g gh) as H env σ ∧ Pst (G.g gh) as H (fun cls dd H' => Wx cls dd σ H') (okE (G.g gh) Q) (d c env s)
def rdA (G : GI) (c : Ct) (Wx : WX) (d : DA) : TA := fun σ H Q => ∃ gh as env s, Rep (G.g gh) as H s ∧ EOk (G.g gh) as H env σ ∧ Pst (G.g gh) as H (fun cls dd H' => Wx cls dd σ H') (okA (G.g gh) Q) (d c env s)
def rdT (G : GI) (c : Ct) (Wx : WX) (d : DT) : TT := fun σ H Q => ∃ gh as env s, Rep (G.g gh) as H s ∧ EOk (G.g gh) as H env σ ∧ Pst (G.g gh) as H (fun cls dd H' => Wx cls dd σ H') (okT Q) (d c env s)
theorem _root_.L2.PE.imp {X : Cx} {e : Expr} {t t' : TE} (h : PE X e t) (f : ∀ σ H Q, t' σ H Q → t σ H Q) : PE X e t' := ⟨fun pins s σ H Q I q => h.run pins s σ H Q I (f σ H Q q)⟩
theorem _root_.L2.PT.imp {X : Cx} {e : Expr} {t t' : TT} (h : PT X e t) (f : ∀ σ H Q, t' σ H Q → t σ H Q) : PT X e t' := ⟨fun pins s σ H Q I q => h.run pins s σ H Q I (f σ H Q q)⟩
theorem _root_.L2.PW.imp {X : Cx} {e : Expr} {t t' : TT} (h : PW X e t) (f : ∀ σ H Q, t' σ H Q → t σ H Q) : PW X e t' := ⟨fun w pins s σ H Q I q => h.run w pins s σ H Q I (f σ H Q q)⟩
theorem _root_.L2.PA.imp {X : Cx} {e : List Expr} {t t' : TA} (h : PA X e t) (f : ∀ σ H Q, t' σ H Q → t σ H Q) : PA X e t' := ⟨fun pos pins s σ H Q I q => h.run pos pins s σ H Q I (f σ H Q q)⟩
theorem _root_.L2.PS.imp {X : Cx} {e : Stmt} {t t' : TS} (h : PS X e t) (f : ∀ D σ H, t' D σ H → t D σ H) : PS X e t' := ⟨fun pins s σ H D I q => h.run pins s σ H D I (f D σ H q)⟩
theorem _root_.L2.PSs.imp {X : Cx} {e : List Stmt} {t t' : TS} (h : PSs X e t) (f : ∀ D σ H, t' D σ H → t D σ H) : PSs X e t' := ⟨fun pins s σ H D I q => h.run pins s σ H D I (f D σ H q)⟩

section
variable {X : Cx} {G : GI} {c : Ct} {Wx : WX}
/-! ### names, constants -/
theorem ve_var {i : Nat} {x : Str} {pos : Pos} (hN : X.N[i]? = some x) (hv : Vis X.env.scope x) (hd : (x == ("__debug__" : Str)) = false) (hcd : (x == ("__classdict__" : Str)) = false) : PE X (.Name x pos) (rdE G c Wx (dV i)) := by
  refine (pe_var hN hv hd hcd).imp fun σ H Q ⟨gh, as, env, s, R, E, h⟩ => ?_
  unfold dV at h
  split at h
  · rename_i w e
    obtain ⟨v, e1, r⟩ := E.at_ i w e
    exact ⟨v, e1, h as H (Ext.refl _ _) R v r⟩
  · exact h.elim
theorem ve_const {e : Expr} {v : V} {w : W} (h : PE X e (tC v)) (r : ∀ gh as H, RD (G.g gh) as H w v) : PE X e (rdE G c Wx (dC w)) := by
  refine h.imp fun σ H Q ⟨gh, as, env, s, R, E, h⟩ => ?_
  exact h as H (Ext.refl _ _) R v (.d (r gh as H))
/-! ### operators -/
/-- a binary operator's rule, told by the interpreter's function -/
def Op2 (G : GI) (r : V → V → Hp → VK → Prop) (f : S → W → W → Option W) : Prop :=
  ∀ (as : List Addr) (H : Hp) (s : S) (x y z : W) (a b : V) (Q : VK), Rep G as H s → RW G as H x a → RW G as H y b → f s x y = some z →
    (∀ as' H' v, Ext as H as' H' → Rep G as' H' s → RW G as' H' z v → Q v H') → r a b H Q
theorem tOp_of {r : V → V → Hp → VK → Prop} {f : S → W → W → Option W} {da db : DE} (ho : ∀ gh, Op2 (G.g gh) r f) {σ : L2.St} {H : Hp} {Q : VK} (h : rdE G c Wx (d2 f da db) σ H Q) : tOp r (rdE G c Wx da) (rdE G c Wx db) σ H Q := by
  obtain ⟨gh, as, env, s, R, E, h⟩ := h
  refine ⟨gh, as, env, s, R, E, (Pst.bind h).imp fun x s1 as1 H1 e1 R1 h1 v1 r1 => ?_⟩
  refine ⟨gh, as1, env, s1, R1, E.mono e1, (Pst.bind h1).imp fun y s2 as2 H2 e2 R2 h2 v2 r2 => ?_⟩
  obtain ⟨z, ez, h3⟩ := h2.opt
  exact ho gh as2 H2 s2 x y z v1 v2 Q R2 (r1.mono e2) r2 ez fun as' H' v e R' rv => h3 as' H' e R' v rv
end
end Vi
set_option Elab.async false
set_option linter.all false
set_option maxRecDepth 100000
set_option maxHeartbeats 4000000
/-! Vi3: operators. -/
namespace Vi
open PySem PySem.Spec PyProof.Rows L2

/-! ### plain data -/
mutual
def toD : W → PyData
  | .bl b => .bool b
  | .int i => .int i
  | .str x => .str x
  | .tup l => .tuple (toDs l)
  | .lst l => .list (toDs l)
  | _ => .none
def toDs : List W → List PyData
  | [] => []
  | x :: xs => toD x :: toDs xs
end
theorem toDs_eq : ∀ l : List W, toDs l = l.map toD
  | [] => rfl
  | x :: xs => congrArg (toD x :: ·) (toDs_eq xs)
theorem eqS_eq (x y : Str) : eqS x y = (x == y) := by
  obtain ⟨a⟩ := x
  obtain ⟨b⟩ := y
  unfold eqS
  by_cases h : a = b
  · subst h
    simp
  · have h1 : ¬ a.toList = b.toList := fun q => h (by
      have := congrArg List.toArray q
      simpa using this)
    rw [beq_eq_false_iff_ne.mpr h1]
    exact (beq_eq_false_iff_ne.mpr fun q => h (by injection q)).symm
mutual
theorem dp_of {G : GI} {as : List Addr} {H : Hp} : ∀ (n : Nat) (w : W) (v : V), plainW n w = true → RD G as H w v → Dp G.K H v (toD w)
  | _, .non, _, _, h => by cases h; exact .non
  | _, .bl b, _, _, h => by cases h; exact .bl b
  | _, .int i, _, _, h => by cases h; exact .int i
  | _, .str x, _, _, h => by cases h; exact .str x
  | 0, .tup l, _, k, _ => by cases k
  | n + 1, .tup l, _, k, h => by
    cases h with
    | tup h1 h2 => exact .tup h1 (dps_of n l _ k h2)
  | 0, .lst l, _, k, _ => by cases k
  | n + 1, .lst l, _, k, h => by
    cases h with
    | lst h1 h2 h3 => exact .lst (.inl h1) (dps_of n l _ k h3)
  | n, .dct _, _, k, _ => by cases n <;> cases k
  | n, .rc _ _, _, k, _ => by cases n <;> cases k
  | n, .adr _, _, k, _ => by cases n <;> cases k
  | n, .fn _, _, k, _ => by cases n <;> cases k
  | n, .clo _ _, _, k, _ => by cases n <;> cases k
  | n, .exc _ _, _, k, _ => by cases n <;> cases k
theorem dps_of {G : GI} {as : List Addr} {H : Hp} : ∀ (n : Nat) (w : List W) (v : List V), plainWs n w = true → RDs G as H w v → DpAll G.K H v (toDs w)
  | _, [], _, _, h => by cases h; exact .nil
  | n, w :: ws, _, k, h => by
    cases h with
    | cons h1 h2 =>
      have k' : (plainW n w && plainWs n ws) = true := by cases n <;> exact k
      rw [Bool.and_eq_true] at k'
      exact .cons (dp_of n w _ k'.1 h1) (dps_of n ws _ k'.2 h2)
end
mutual
theorem plain_lay : ∀ (n : Nat) (w : W), plainW n w = true → (toD w).canLay0 = true ∧ (toD w).depth ≤ n
  | _, .non, _ => ⟨rfl, Nat.zero_le _⟩
  | _, .bl b, _ => ⟨rfl, Nat.zero_le _⟩
  | _, .int i, _ => ⟨rfl, Nat.zero_le _⟩
  | n, .str x, h => ⟨by cases n <;> exact h, Nat.zero_le _⟩
  | 0, .tup l, k => by cases k
  | n + 1, .tup l, k => by
    obtain ⟨a, b⟩ := plains_lay n l k
    exact ⟨a, Nat.succ_le_succ b⟩
  | 0, .lst l, k => by cases k
  | n + 1, .lst l, k => by
    obtain ⟨a, b⟩ := plains_lay n l k
    exact ⟨a, Nat.succ_le_succ b⟩
  | n, .dct _, k => by cases n <;> cases k
  | n, .rc _ _, k => by cases n <;> cases k
  | n, .adr _, k => by cases n <;> cases k
  | n, .fn _, k => by cases n <;> cases k
  | n, .clo _ _, k => by cases n <;> cases k
  | n, .exc _ _, k => by cases n <;> cases k
theorem plains_lay : ∀ (n : Nat) (w : List W), plainWs n w = true → PyData.canLayAll0 (toDs w) = true ∧ PyData.depthAll (toDs w) ≤ n
  | _, [], _ => ⟨rfl, Nat.zero_le _⟩
  | n, w :: ws, k => by
    have k' : (plainW n w && plainWs n ws) = true := by cases n <;> exact k
    rw [Bool.and_eq_true] at k'
    obtain ⟨a, b⟩ := plain_lay n w k'.1
    obtain ⟨c, d⟩ := plains_lay n ws k'.2
    refine ⟨?_, Nat.max_le.mpr ⟨b, d⟩⟩
    show (PyData.canLay0 (toD w) && PyData.canLayAll0 (toDs ws)) = true
    rw [a, c]
    rfl
end
theorem plain_shaped {n : Nat} {w : W} (h : plainW n w = true) (hn : n ≤ 64) : SeqAt.shaped (toD w) = true := by
  obtain ⟨a, b⟩ := plain_lay n w h
  unfold SeqAt.shaped
  rw [a, decide_eq_true (Nat.le_trans b hn)]
  rfl
mutual
theorem eqW_eqv : ∀ (n m : Nat) (x y : W), plainW n x = true → plainW m y = true → eqW x y = PyData.eqv (toD x) (toD y)
  | n, m, .non, y, _, h => by cases y <;> first | rfl | (cases m <;> cases h) | (simp [eqW, toD, PyData.eqv])
  | n, m, .bl b, y, _, h => by cases y <;> first | rfl | (cases m <;> cases h) | (simp [eqW, toD, PyData.eqv])
  | n, m, .int b, y, _, h => by cases y <;> first | rfl | (cases m <;> cases h) | (simp [eqW, toD, PyData.eqv])
  | n, m, .str b, y, _, h => by cases y <;> first | (simp only [eqW, toD, PyData.eqv]; exact eqS_eq _ _) | rfl | (cases m <;> cases h) | (simp [eqW, toD, PyData.eqv])
  | 0, m, .tup l, y, k, h => by cases k
  | n + 1, 0, .tup l, y, k, h => by cases y <;> first | (simp [eqW, toD, PyData.eqv]; done) | (cases h; done)
  | n + 1, m + 1, .tup l, y, k, h => by
    cases y with
    | tup l' =>
      show eqWs l l' = PyData.eqvAll (toDs l) (toDs l')
      exact eqWs_eqv n m l l' k h
    | _ => first | (simp [eqW, toD, PyData.eqv]; done) | cases h
  | 0, m, .lst l, y, k, h => by cases k
  | n + 1, 0, .lst l, y, k, h => by cases y <;> first | (simp [eqW, toD, PyData.eqv]; done) | (cases h; done)
  | n + 1, m + 1, .lst l, y, k, h => by
    cases y with
    | lst l' =>
      show eqWs l l' = PyData.eqvAll (toDs l) (toDs l')
      exact eqWs_eqv n m l l' k h
    | _ => first | (simp [eqW, toD, PyData.eqv]; done) | cases h
  | n, _, .dct _, _, k, _ => by cases n <;> cases k
  | n, _, .rc _ _, _, k, _ => by cases n <;> cases k
  | n, _, .adr _, _, k, _ => by cases n <;> cases k
  | n, _, .fn _, _, k, _ => by cases n <;> cases k
  | n, _, .clo _ _, _, k, _ => by cases n <;> cases k
  | n, _, .exc _ _, _, k, _ => by cases n <;> cases k
theorem eqWs_eqv : ∀ (n m : Nat) (x y : List W), plainWs n x = true → plainWs m y = true → eqWs x y = PyData.eqvAll (toDs x) (toDs y)
  | _, _, [], [], _, _ => rfl
  | _, _, [], _ :: _, _, _ => rfl
  | _, _, _ :: _, [], _, _ => rfl
  | n, m, x :: xs, y :: ys, h, k => by
    have h' : (plainW n x && plainWs n xs) = true := by cases n <;> exact h
    have k' : (plainW m y && plainWs m ys) = true := by cases m <;> exact k
    rw [Bool.and_eq_true] at h' k'
    show (eqW x y && eqWs xs ys) = (PyData.eqv (toD x) (toD y) && PyData.eqvAll (toDs xs) (toDs ys))
    rw [eqW_eqv n m x y h'.1 k'.1, eqWs_eqv n m xs ys h'.2 k'.2]
end
/-- the list of the state, as it is -/
theorem dp_see {G : GI} {as : List Addr} {H : Hp} {s : S} (R : Rep G as H s) {n : Nat} {w : W} {v : V} (k : plainW n (seeW s w) = true) (r : RD G as H w v) : Dp G.K H v (toD (seeW s w)) := by
  cases w with
  | adr m =>
    cases r with
    | @adr _ a h =>
      have hl : m < s.objs.length := by rw [← R.len]; exact (List.getElem?_eq_some_iff.mp h).1
      cases e : s.objs[m]? with
      | none =>
        rw [List.getElem?_eq_getElem hl] at e
        cases e
      | some o =>
        have ho := R.ob m _ o h e
        cases o with
        | lst l =>
          have z : seeW s (.adr m) = .lst l := by
            show (match s.objs[m]? with
              | some (.lst l) => W.lst l
              | _ => W.adr m) = _
            rw [e]
          rw [z] at k ⊢
          obtain ⟨xs, h1, h2⟩ := ho
          cases n with
          | zero => cases k
          | succ n => exact .lst (.inl (.inl h1)) (dps_of n l _ k h2)
        | dct l =>
          have z : seeW s (.adr m) = .adr m := by
            show (match s.objs[m]? with
              | some (.lst l) => W.lst l
              | _ => W.adr m) = _
            rw [e]
          rw [z] at k
          cases n <;> cases k
        | ins c l =>
          have z : seeW s (.adr m) = .adr m := by
            show (match s.objs[m]? with
              | some (.lst l) => W.lst l
              | _ => W.adr m) = _
            rw [e]
          rw [z] at k
          cases n <;> cases k
  | _ => exact dp_of n _ _ k r

/-! ### the rules -/
section
variable {X : Cx} {G : GI}
theorem see_data {s : S} {n : Nat} {x : W} (h : plainW n (seeW s x) = true) : isD x = true := by
  cases x <;> first | rfl | (cases n <;> cases h)
def rLen (K : PySem.W.Frag) (k : Bool) : R2 := fun x y H Q => ∃ a b xs ys, x = .ref a ∧ y = .ref b ∧ SqL K H a xs ∧ SqL K H b ys ∧ (xs.length != ys.length) = true ∧ Q (.bl k) H
def rEq4 (K : PySem.W.Frag) : R2 := fun x y H Q => rEqD K x y H Q ∨ rLen K false x y H Q
def rNe4 (K : PySem.W.Frag) : R2 := fun x y H Q => rNeD K x y H Q ∨ rLen K true x y H Q
theorem lens_ne {xs ys : List V} {us vs : Array Value} (h1 : Vals xs us.toList) (h2 : Vals ys vs.toList) (h : (xs.length != ys.length) = true) : (us.size != vs.size) = true := by
  rw [h1.length, h2.length] at h
  simpa using h
theorem op_eq4 (hu : X.A.units + 64 < cLine) : OpR X (compareOp .Eq) (rEq4 X.K) := by
  intro pins s σ H x y v u Q I rx ry h
  rcases h with h | ⟨a, b, xs, ys, rfl, rfl, h1, h2, hl, q⟩
  · exact op_eqD hu pins s σ H x y v u Q I rx ry h
  · obtain rfl : v = Value.ref a := rx
    obtain rfl : u = Value.ref b := ry
    obtain ⟨its, rv, ⟨o, n, ho, hc, _, hd⟩, _⟩ := I.list h1
    obtain ⟨its2, rv2, ⟨o2, n2, ho2, hc2, _, hd2⟩, _⟩ := I.list h2
    exact SeqAt.eq_list_lengthsAt ⟨o, ho, hc, n, hd⟩ ⟨o2, ho2, hc2, n2, hd2⟩ (lens_ne (by simpa using rv) (by simpa using rv2) hl) (by omega) ⟨.bl _, H, I, rfl, q⟩
theorem op_ne4 (hu : X.A.units + 64 < cLine) : OpR X (compareOp .NotEq) (rNe4 X.K) := by
  intro pins s σ H x y v u Q I rx ry h
  rcases h with h | ⟨a, b, xs, ys, rfl, rfl, h1, h2, hl, q⟩
  · exact op_neD hu pins s σ H x y v u Q I rx ry h
  · obtain rfl : v = Value.ref a := rx
    obtain rfl : u = Value.ref b := ry
    obtain ⟨its, rv, ⟨o, n, ho, hc, _, hd⟩, _⟩ := I.list h1
    obtain ⟨its2, rv2, ⟨o2, n2, ho2, hc2, _, hd2⟩, _⟩ := I.list h2
    exact SeqAt.RcNeAt.lists_lengths ⟨o, ho, hc, n, hd⟩ ⟨o2, ho2, hc2, n2, hd2⟩ (lens_ne (by simpa using rv) (by simpa using rv2) hl) (by omega) X.prog X.w _ _ ⟨.bl _, H, I, rfl, q⟩
theorem see_list {as : List Addr} {H : Hp} {s : S} {w : W} {v : V} {l : List W} (R : Rep G as H s) (e : seeW s w = .lst l) (r : RW G as H w v) : ∃ a xs, v = .ref a ∧ SqL G.K H a xs ∧ xs.length = l.length := by
  cases w with
  | lst l2 =>
    have e : W.lst l2 = .lst l := e
    cases e
    cases r with
    | d r =>
      cases r with
      | lst h1 h2 h3 => exact ⟨_, _, rfl, .inl h1, h3.length.symm⟩
  | adr m =>
    have e : (match s.objs[m]? with
      | some (.lst l) => W.lst l
      | _ => W.adr m) = .lst l := e
    split at e
    · rename_i l2 q
      cases e
      cases r with
      | d r =>
        cases r with
        | @adr _ a h =>
          obtain ⟨xs, h1, h2⟩ := R.ob m _ _ h q
          exact ⟨a, xs, rfl, .inl (.inl h1), h2.length.symm⟩
    · cases e
  | _ => cases e
theorem len_ne {as : List Addr} {H : Hp} {s : S} {x y : W} {a b : V} (R : Rep G as H s) (e : lenNe (seeW s x) (seeW s y) = true) (ra : RW G as H x a) (rb : RW G as H y b) {k : Bool} {Q : VK} (q : Q (.bl k) H) : rLen G.K k a b H Q := by
  unfold lenNe at e
  split at e
  · rename_i l m e1 e2
    obtain ⟨p, xs, rfl, h1, h2⟩ := see_list R e1 ra
    obtain ⟨p2, ys, rfl, h3, h4⟩ := see_list R e2 rb
    exact ⟨p, p2, xs, ys, rfl, rfl, h1, h3, by rw [h2, h4]; exact e, q⟩
  · cases e
theorem o2_eq : Op2 G (rEq4 G.K) opEq := by
  intro as H s x y z a b Q R ra rb e h
  unfold opEq okEq at e
  split at e
  · rename_i k
    rw [Bool.and_eq_true] at k
    cases e
    refine .inl ⟨_, _, dp_see R k.1 (ra.data (see_data k.1)), dp_see R k.2 (rb.data (see_data k.2)), plain_shaped k.1 (Nat.le_refl _), plain_shaped k.2 (Nat.le_refl _), ?_⟩
    rw [← eqW_eqv _ _ _ _ k.1 k.2]
    exact h as H _ (Ext.refl _ _) R (.d (.bl _))
  · split at e
    · rename_i k
      cases e
      exact .inr (len_ne R k ra rb (h as H _ (Ext.refl _ _) R (.d (.bl _))))
    · cases e
theorem o2_ne : Op2 G (rNe4 G.K) opNe := by
  intro as H s x y z a b Q R ra rb e h
  unfold opNe okEq at e
  split at e
  · rename_i k
    rw [Bool.and_eq_true] at k
    cases e
    refine .inl ⟨_, _, dp_see R k.1 (ra.data (see_data k.1)), dp_see R k.2 (rb.data (see_data k.2)), plain_shaped k.1 (Nat.le_refl _), plain_shaped k.2 (Nat.le_refl _), ?_⟩
    rw [← eqW_eqv _ _ _ _ k.1 k.2]
    exact h as H _ (Ext.refl _ _) R (.d (.bl _))
  · split at e
    · rename_i k
      cases e
      exact .inr (len_ne R k ra rb (h as H _ (Ext.refl _ _) R (.d (.bl _))))
    · cases e

/-! ### arithmetic -/
def IntO (f : S → W → W → Option W) (C : Int → Int → Prop) (g : Int → Int → V) : Prop :=
  ∀ (s : S) (x y z : W), f s x y = some z → ∃ i j, x = .int i ∧ y = .int j ∧ C i j ∧ ((∃ k, z = .int k ∧ g i j = .int k) ∨ ∃ k, z = .bl k ∧ g i j = .bl k)
theorem o2_int {f : S → W → W → Option W} {C : Int → Int → Prop} {g : Int → Int → V} (h : IntO f C g) : Op2 G (fun x y H Q => ∃ i j, x = .int i ∧ y = .int j ∧ C i j ∧ Q (g i j) H) f := by
  intro as H s x y z a b Q R ra rb e q
  obtain ⟨i, j, rfl, rfl, hc, hz⟩ := h s x y z e
  have e1 : a = .int i := by
    cases ra with
    | d r => cases r; rfl
  have e2 : b = .int j := by
    cases rb with
    | d r => cases r; rfl
  subst e1 e2
  refine ⟨i, j, rfl, rfl, hc, ?_⟩
  rcases hz with ⟨k, rfl, ez⟩ | ⟨k, rfl, ez⟩
  · rw [ez]
    exact q as H _ (Ext.refl _ _) R (.d (.int k))
  · rw [ez]
    exact q as H _ (Ext.refl _ _) R (.d (.bl k))
theorem o2_sub : Op2 G (rI0 fun i j => .int (i - j)) opSub := by
  have h : Op2 G (fun x y H Q => ∃ i j, x = .int i ∧ y = .int j ∧ True ∧ Q (.int (i - j)) H) opSub := o2_int (C := fun _ _ => True) fun s x y z e => by
    unfold opSub at e
    split at e <;> first | cases e | skip
    exact ⟨_, _, rfl, rfl, True.intro, .inl ⟨_, rfl, rfl⟩⟩
  intro as H s x y z a b Q R ra rb e q
  obtain ⟨i, j, h1, h2, _, h3⟩ := h as H s x y z a b Q R ra rb e q
  exact ⟨i, j, h1, h2, h3⟩
theorem o2_lt : Op2 G (rI0 fun i j => .bl (decide (i < j))) opLt := by
  have h : Op2 G (fun x y H Q => ∃ i j, x = .int i ∧ y = .int j ∧ True ∧ Q (.bl (decide (i < j))) H) opLt := o2_int (C := fun _ _ => True) fun s x y z e => by
    unfold opLt at e
    split at e <;> first | cases e | skip
    exact ⟨_, _, rfl, rfl, True.intro, .inr ⟨_, rfl, rfl⟩⟩
  intro as H s x y z a b Q R ra rb e q
  obtain ⟨i, j, h1, h2, _, h3⟩ := h as H s x y z a b Q R ra rb e q
  exact ⟨i, j, h1, h2, h3⟩
theorem o2_le : Op2 G (rI0 fun i j => .bl (decide (i ≤ j))) opLe := by
  have h : Op2 G (fun x y H Q => ∃ i j, x = .int i ∧ y = .int j ∧ True ∧ Q (.bl (decide (i ≤ j))) H) opLe := o2_int (C := fun _ _ => True) fun s x y z e => by
    unfold opLe at e
    split at e <;> first | cases e | skip
    exact ⟨_, _, rfl, rfl, True.intro, .inr ⟨_, rfl, rfl⟩⟩
  intro as H s x y z a b Q R ra rb e q
  obtain ⟨i, j, h1, h2, _, h3⟩ := h as H s x y z a b Q R ra rb e q
  exact ⟨i, j, h1, h2, h3⟩
theorem o2_gt : Op2 G (rI0 fun i j => .bl (decide (j < i))) opGt := by
  have h : Op2 G (fun x y H Q => ∃ i j, x = .int i ∧ y = .int j ∧ True ∧ Q (.bl (decide (j < i))) H) opGt := o2_int (C := fun _ _ => True) fun s x y z e => by
    unfold opGt at e
    split at e <;> first | cases e | skip
    exact ⟨_, _, rfl, rfl, True.intro, .inr ⟨_, rfl, rfl⟩⟩
  intro as H s x y z a b Q R ra rb e q
  obtain ⟨i, j, h1, h2, _, h3⟩ := h as H s x y z a b Q R ra rb e q
  exact ⟨i, j, h1, h2, h3⟩
theorem o2_ge : Op2 G (rI0 fun i j => .bl (decide (j ≤ i))) opGe := by
  have h : Op2 G (fun x y H Q => ∃ i j, x = .int i ∧ y = .int j ∧ True ∧ Q (.bl (decide (j ≤ i))) H) opGe := o2_int (C := fun _ _ => True) fun s x y z e => by
    unfold opGe at e
    split at e <;> first | cases e | skip
    exact ⟨_, _, rfl, rfl, True.intro, .inr ⟨_, rfl, rfl⟩⟩
  intro as H s x y z a b Q R ra rb e q
  obtain ⟨i, j, h1, h2, _, h3⟩ := h as H s x y z a b Q R ra rb e q
  exact ⟨i, j, h1, h2, h3⟩
theorem o2_mod : Op2 G (rI (fun _ j => j ≠ 0) fun i j => .int (i.fmod j)) opMod := o2_int fun s x y z e => by
  unfold opMod at e
  split at e
  · split at e
    · cases e
    · rename_i k
      cases e
      exact ⟨_, _, rfl, rfl, k, .inl ⟨_, rfl, rfl⟩⟩
  · cases e
theorem o2_pow : Op2 G (rI CPow fun i j => .int (i ^ j.toNat)) opPow := o2_int fun s x y z e => by
  unfold opPow at e
  split at e
  · split at e
    · rename_i k
      simp only [Bool.and_eq_true, decide_eq_true_eq] at k
      cases e
      exact ⟨_, _, rfl, rfl, ⟨k.1.1, k.1.2, k.2⟩, .inl ⟨_, rfl, rfl⟩⟩
    · cases e
  · cases e
def CMulV (i j : Int) : Prop := i.natAbs.log2 + j.natAbs.log2 < 134000000
theorem CMulV.wide {i j : Int} (h : CMulV i j) : CMulX i j := by
  have b : ∀ x : Int, Builtin.Int.intBits x ≤ x.natAbs.log2 + 1 := fun x => by
    unfold Builtin.Int.intBits
    split <;> omega
  have h1 := b i
  have h2 := b j
  have h3 : i.natAbs.log2 + j.natAbs.log2 < 134000000 := h
  unfold CMulX
  omega
theorem o2_mul : Op2 G (rI CMulX fun i j => .int (i * j)) opMulI := o2_int fun s x y z e => by
  unfold opMulI at e
  split at e
  · split at e
    · rename_i k
      cases e
      exact ⟨_, _, rfl, rfl, CMulV.wide (of_decide_eq_true (p := _ < 134000000) k), .inl ⟨_, rfl, rfl⟩⟩
    · cases e
  · cases e
def CDivV (_ j : Int) : Prop := j ≠ 0 ∧ j.natAbs.log2 < 9000
theorem op_fdivV : OpR X (binaryOp .FloorDiv) (rI CDivV fun i j => .int (i.fdiv j)) := opI fun _ _ _ _ _ _ _ hc q => floordiv_int hc.1 q (.inl (PyProof.noPylong_of_log2 hc.2))
theorem o2_fdiv : Op2 G (rI CDivV fun i j => .int (i.fdiv j)) opFdiv := o2_int fun s x y z e => by
  unfold opFdiv at e
  split at e
  · split at e
    · rename_i k
      unfold okDiv at k
      simp only [Bool.and_eq_true, decide_eq_true_eq] at k
      cases e
      exact ⟨_, _, rfl, rfl, k, .inl ⟨_, rfl, rfl⟩⟩
    · cases e
  · cases e
/-! ### + of ints, texts, tuples, lists -/
theorem sizeMax_line : sizeMax = sizeLine := by rw [sizeLine_eq]; rfl
/-- a list joined with a list, locked or not -/
def rCatR (K : PySem.W.Frag) : R2 := fun x y H Q => ∃ l b xs zs, x = .ref l ∧ y = .ref b ∧ Rd H l (.lst xs) ∧ Rd H b (.lst zs) ∧ xs.length + zs.length ≤ sizeLine ∧ ∀ p, H p = none → Q (.ref p) (upd H p (.lst (xs ++ zs)))
theorem op_catR : OpR X (binaryOp .Add) (rCatR X.K) := by
  intro pins s σ H x y v u Q I rx ry h
  obtain ⟨l, b, xs, zs, rfl, rfl, hH, hB, hz, q⟩ := h
  cases rx
  cases ry
  obtain ⟨z, its, n, r, e⟩ := hH.ok I.hok
  obtain ⟨z2, its2, n2, r2, e2⟩ := hB.ok I.hok
  have l1 := r.length
  have l2 := r2.length
  refine PySem.P.add_list e e2 ?_ (by rw [List.size_toArray, List.size_toArray]; omega)
  rw [show its.toArray ++ its2.toArray = (its ++ its2).toArray by simp]
  exact ⟨.ref _, _, I.lnew (t' := s.toks) (r.append r2) (by rw [List.length_append]; omega), rfl, q _ I.fresh⟩
def rAdd4 (K : PySem.W.Frag) : R2 := fun x y H Q => rI0 (fun i j => .int (i + j)) x y H Q ∨ (∃ i j, x = .str i ∧ y = .str j ∧ i.length + j.length ≤ sizeLine ∧ Q (.str (i ++ j)) H) ∨ rCatA K x y H Q ∨ rCatR K x y H Q
theorem op_add4 : OpR X (binaryOp .Add) (rAdd4 X.K) := op_add.or (op_add_str.or (op_catA.or op_catR))
theorem RD.tupT {as : List Addr} {H : Hp} {ws : List W} {v : V} (h : RD G as H (.tup ws) v) : ∃ a xs, v = .ref a ∧ SqT G.K H a xs ∧ RDs G as H ws xs := by
  cases h with
  | tup h1 h2 => exact ⟨_, _, rfl, h1, h2⟩
theorem RD.lstL {as : List Addr} {H : Hp} {ws : List W} {v : V} (h : RD G as H (.lst ws) v) : ∃ a xs, v = .ref a ∧ Rd H a (.lst xs) ∧ (a ∉ as ∧ a ∉ G.gh) ∧ RDs G as H ws xs := by
  cases h with
  | lst h1 h2 h3 => exact ⟨_, _, rfl, h1, h2, h3⟩
theorem fresh_out {as : List Addr} {H : Hp} {s : S} (R : Rep G as H s) {p : Addr} (h : H p = none) : p ∉ as ∧ p ∉ G.gh := by
  refine ⟨fun z => ?_, fun z => ?_⟩
  · obtain ⟨u, q, _⟩ := R.kind z
    rw [h] at q
    cases q
  · obtain ⟨_, u, q⟩ := R.gk _ z
    rw [h] at q
    cases q
/-- a new frozen list -/
theorem new_lst {as : List Addr} {H : Hp} {s : S} (R : Rep G as H s) {p : Addr} (h : H p = none) {ws : List W} {xs : List V} (r : RDs G as H ws xs) : Ext as H as (upd H p (.lst xs)) ∧ Rep G as (upd H p (.lst xs)) s ∧ RW G as (upd H p (.lst xs)) (.lst ws) (.ref p) :=
  ⟨Ext.laid h, R.laid h, .d (.lst (.inl upd_same) (fresh_out R h) (RDs.mono (Ext.laid h) _ _ r))⟩
theorem new_tup {as : List Addr} {H : Hp} {s : S} (R : Rep G as H s) {p : Addr} (h : H p = none) {ws : List W} {xs : List V} (r : RDs G as H ws xs) : Ext as H as (upd H p (.tup xs)) ∧ Rep G as (upd H p (.tup xs)) s ∧ RW G as (upd H p (.tup xs)) (.tup ws) (.ref p) :=
  ⟨Ext.laid h, R.laid h, .d (.tup (SqT.of upd_same) (RDs.mono (Ext.laid h) _ _ r))⟩
theorem o2_add : Op2 G (rAdd4 G.K) opAdd := by
  intro as H s x y z a b Q R ra rb e q
  unfold opAdd at e
  split at e
  · cases e
    cases ra with
    | d ra => cases rb with
      | d rb =>
        cases ra
        cases rb
        exact .inl ⟨_, _, rfl, rfl, q as H _ (Ext.refl _ _) R (.d (.int _))⟩
  · split at e
    · rename_i k
      cases e
      cases ra with
      | d ra => cases rb with
        | d rb =>
          cases ra
          cases rb
          exact .inr (.inl ⟨_, _, rfl, rfl, by rw [← sizeMax_line]; exact of_decide_eq_true k, q as H _ (Ext.refl _ _) R (.d (.str _))⟩)
    · cases e
  · split at e
    · rename_i k
      cases e
      obtain ⟨a1, xs, rfl, h1, r1⟩ := (ra.data rfl).tupT
      obtain ⟨a2, ys, rfl, h2, r2⟩ := (rb.data rfl).tupT
      have k' := of_decide_eq_true k
      rw [r1.length, r2.length, sizeMax_line] at k'
      refine .inr (.inr (.inl ⟨a1, a2, xs, ys, rfl, rfl, h1, h2, k', fun e => ?_, fun _ e => ?_, fun _ _ p hp => ?_⟩))
      · subst e
        have z := r1.length
        rw [List.length_nil, List.length_eq_zero_iff] at z
        subst z
        exact q as H _ (Ext.refl _ _) R rb
      · subst e
        have z := r2.length
        rw [List.length_nil, List.length_eq_zero_iff] at z
        subst z
        rw [List.append_nil] at q
        exact q as H _ (Ext.refl _ _) R ra
      · obtain ⟨e1, R1, w1⟩ := new_tup R hp (r1.append r2)
        exact q as _ _ e1 R1 w1
    · cases e
  · split at e
    · rename_i k
      cases e
      obtain ⟨a1, xs, rfl, h1, _, r1⟩ := (ra.data rfl).lstL
      obtain ⟨a2, ys, rfl, h2, _, r2⟩ := (rb.data rfl).lstL
      have k' := of_decide_eq_true k
      rw [r1.length, r2.length, sizeMax_line] at k'
      refine .inr (.inr (.inr ⟨a1, a2, xs, ys, rfl, rfl, h1, h2, k', fun p hp => ?_⟩))
      obtain ⟨e1, R1, w1⟩ := new_lst R hp (r1.append r2)
      exact q as _ _ e1 R1 w1
    · cases e
  · cases e

/-! ### in -/
def rInT (K : PySem.W.Frag) : R2 := fun x y H Q => ∃ d ds, Dp K H x d ∧ (Dp K H y (.list ds) ∨ Dp K H y (.tuple ds)) ∧ SeqAt.shaped d = true ∧ PyData.canLayAll0 ds = true ∧ Q (.bl (ds.any fun z => PyData.eqv z d)) H
theorem op_inT (hu : X.A.units + 65 < cLine) : OpR X (compareOp .In) (rInT X.K) := by
  intro pins s σ H x y v u Q I rx ry h
  obtain ⟨d, ds, hd, he, sd, se, q⟩ := h
  obtain ⟨as, r1⟩ := Dp.reads I d x v hd rx
  rcases he with he | he
  · obtain ⟨bs, r2⟩ := Dp.reads I (.list ds) y u he ry
    exact SeqAt.in_list_reads r2 r1 se (SeqAt.canLay_of_shaped sd) (room_in_shaped sd hu) ⟨.bl _, H, I, rfl, q⟩
  · obtain ⟨bs, r2⟩ := Dp.reads I (.tuple ds) y u he ry
    exact SeqAt.in_tuple_reads r2 r1 se (SeqAt.canLay_of_shaped sd) (room_in_shaped sd hu) ⟨.bl _, H, I, rfl, q⟩
theorem op_notInT (hu : X.A.units + 65 < cLine) : OpR X (compareOp .NotIn) (fun x y H Q => rInT X.K x y H fun v H' => ∃ b, v = .bl b ∧ Q (.bl (!b)) H') := by
  intro pins s σ H x y v u Q I rx ry h
  obtain ⟨d, ds, hd, he, sd, se, b, eb, q⟩ := h
  cases eb
  obtain ⟨as, r1⟩ := Dp.reads I d x v hd rx
  rcases he with he | he
  · obtain ⟨bs, r2⟩ := Dp.reads I (.list ds) y u he ry
    exact SeqAt.notIn_list_reads r2 r1 se (SeqAt.canLay_of_shaped sd) (room_in_shaped sd hu) ⟨.bl _, H, I, rfl, q⟩
  · obtain ⟨bs, r2⟩ := Dp.reads I (.tuple ds) y u he ry
    exact SeqAt.notIn_tuple_reads r2 r1 se (SeqAt.canLay_of_shaped sd) (room_in_shaped sd hu) ⟨.bl _, H, I, rfl, q⟩
def rInD4 : R2 := fun x y H Q => ∃ a o, y = .ref a ∧ DGet H a x o ∧ Q (.bl o.isSome) H
theorem op_inD4 (hu : X.A.units + 1 < cLine) : OpR X (compareOp .In) rInD4 := by
  intro pins s σ H x y v u Q I rx ry h
  obtain ⟨a, o, rfl, g, q⟩ := h
  obtain rfl : u = Value.ref a := ry
  exact d_in hu I g rx fun s3 I3 => ⟨.bl o.isSome, H, I3, rfl, q⟩
theorem op_notInD4 (hu : X.A.units + 1 < cLine) : OpR X (compareOp .NotIn) (fun x y H Q => rInD4 x y H fun v H' => ∃ b, v = .bl b ∧ Q (.bl (!b)) H') := by
  intro pins s σ H x y v u Q I rx ry h
  obtain ⟨a, o, rfl, g, b, eb, q⟩ := h
  cases eb
  obtain rfl : u = Value.ref a := ry
  exact d_notIn hu I g rx fun s3 I3 => ⟨.bl (!o.isSome), H, I3, rfl, q⟩
def rInS4 : R2 := fun x y H Q => ∃ i j, x = .str i ∧ y = .str j ∧ Q (.bl (!(Builtin.Str.occurrences j i 0 j.length 1).isEmpty)) H
theorem op_notInS4 : OpR X (compareOp .NotIn) (fun x y H Q => rInS4 x y H fun v H' => ∃ b, v = .bl b ∧ Q (.bl (!b)) H') := by
  intro pins s σ H x y v u Q I rx ry h
  obtain ⟨i, j, rfl, rfl, b, eb, q⟩ := h
  cases eb
  exact op_notIn_str pins s σ H _ _ v u Q I rx ry ⟨i, j, rfl, rfl, q⟩
def rIn3 (K : PySem.W.Frag) : R2 := fun x y H Q => rInS4 x y H Q ∨ rInT K x y H Q ∨ rInD4 x y H Q
theorem op_in3 (hu : X.A.units + 65 < cLine) : OpR X (compareOp .In) (rIn3 X.K) := op_in_str.or ((op_inT hu).or (op_inD4 (by omega)))
theorem op_notIn3 (hu : X.A.units + 65 < cLine) : OpR X (compareOp .NotIn) (fun x y H Q => rIn3 X.K x y H fun v H' => ∃ b, v = .bl b ∧ Q (.bl (!b)) H') := op_notInS4.or ((op_notInT hu).or (op_notInD4 (by omega)))
/-- the items of a list or tuple, wherever it stands -/
theorem items_of {as : List Addr} {H : Hp} {s : S} (R : Rep G as H s) {w : W} {v : V} {l : List W} (k : itemsOf s w = some l) (r : RW G as H w v) :
    ∃ a xs, v = .ref a ∧ RDs G as H l xs ∧ ((Rd H a (.lst xs) ∧ (w = .lst l ∨ ∃ n, w = .adr n)) ∨ (SqT G.K H a xs ∧ w = .tup l)) := by
  unfold itemsOf at k
  split at k
  · cases k
    obtain ⟨a, xs, rfl, h1, _, r1⟩ := (r.data rfl).lstL
    exact ⟨a, xs, rfl, r1, .inl ⟨h1, .inl rfl⟩⟩
  · cases k
    obtain ⟨a, xs, rfl, h1, r1⟩ := (r.data rfl).tupT
    exact ⟨a, xs, rfl, r1, .inr ⟨h1, rfl⟩⟩
  · rename_i n
    split at k
    · rename_i l' e
      cases k
      cases r with
      | d r =>
        cases r with
        | adr h =>
          obtain ⟨xs, h1, h2⟩ := R.ob n _ _ h e
          exact ⟨_, xs, rfl, h2, .inl ⟨.inl h1, .inr ⟨n, rfl⟩⟩⟩
    · cases k
  · cases k
theorem any_eqv (n m : Nat) (x : W) (hx : plainW n x = true) : ∀ l : List W, plainWs m l = true → (l.any fun z => eqW z x) = (toDs l).any fun z => PyData.eqv z (toD x)
  | [], _ => rfl
  | y :: ys, k => by
    have k' : (plainW m y && plainWs m ys) = true := by cases m <;> exact k
    rw [Bool.and_eq_true] at k'
    show (eqW y x || ys.any _) = (PyData.eqv (toD y) (toD x) || (toDs ys).any _)
    rw [eqW_eqv m n y x k'.1 hx, any_eqv n m x hx ys k'.2]
theorem in_rule {as : List Addr} {H : Hp} {s : S} {x y z : W} {a b : V} {Q : VK} (R : Rep G as H s) (ra : RW G as H x a) (rb : RW G as H y b) (e : opIn s x y = some z) (q : ∀ k, z = .bl k → Q (.bl k) H) : rIn3 G.K a b H Q := by
  unfold opIn at e
  split at e
  · cases e
    cases ra with
    | d ra => cases rb with
      | d rb =>
        cases ra
        cases rb
        exact .inl ⟨_, _, rfl, rfl, q _ rfl⟩
  · split at e
    · rename_i l k
      split at e
      · rename_i p
        rw [Bool.and_eq_true] at p
        cases e
        obtain ⟨c, xs, rfl, r1, h⟩ := items_of R k rb
        have hd : isD x = true := by
          have z := p.1
          cases x <;> first | rfl | cases z
        refine .inr (.inl ⟨toD x, toDs l, dp_of _ _ _ p.1 (ra.data hd), ?_, plain_shaped p.1 (by decide), (plains_lay _ _ p.2).1, ?_⟩)
        · rcases h with ⟨h, _⟩ | ⟨h, _⟩
          · exact .inl (.lst (.inl h) (dps_of _ _ _ p.2 r1))
          · exact .inr (.tup h (dps_of _ _ _ p.2 r1))
        · rw [← any_eqv _ _ x p.1 l p.2]
          exact q _ rfl
      · cases e
    · cases e
theorem o2_in : Op2 G (rIn3 G.K) opIn := by
  intro as H s x y z a b Q R ra rb e q
  refine in_rule R ra rb e fun k ez => ?_
  subst ez
  exact q as H _ (Ext.refl _ _) R (.d (.bl _))
theorem o2_notIn : Op2 G (fun x y H Q => rIn3 G.K x y H fun v H' => ∃ b, v = .bl b ∧ Q (.bl (!b)) H') opNotIn := by
  intro as H s x y z a b Q R ra rb e q
  unfold opNotIn at e
  split at e
  · rename_i k hk
    cases e
    refine in_rule R ra rb hk fun k' ez => ⟨k', rfl, ?_⟩
    cases ez
    exact q as H _ (Ext.refl _ _) R (.d (.bl _))
  · cases e
/-! ### is None -/
theorem isNon_eq {as : List Addr} {H : Hp} {x : W} {a : V} (r : RW G as H x a) : isNon x = decide (a = .non) := by
  cases r with
  | d r => cases r <;> first | rfl | exact (decide_eq_false (fun z => by cases z)).symm
  | clo => exact (decide_eq_false (fun z => by cases z)).symm
/-- one argument -/
def Op1 (G : GI) (r : V → Hp → VK → Prop) (f : S → W → Option W) : Prop :=
  ∀ (as : List Addr) (H : Hp) (s : S) (x z : W) (a : V) (Q : VK), Rep G as H s → RW G as H x a → f s x = some z → (∀ as' H' v, Ext as H as' H' → Rep G as' H' s → RW G as' H' z v → Q v H') → r a H Q
theorem tUn_of {c : Ct} {Wx : WX} {r : V → Hp → VK → Prop} {f : S → W → Option W} {da : DE} (ho : ∀ gh, Op1 (G.g gh) r f) {σ : L2.St} {H : Hp} {Q : VK} (h : rdE G c Wx (d1 f da) σ H Q) : rdE G c Wx da σ H (fun x H1 => r x H1 Q) := by
  obtain ⟨gh, as, env, s, R, E, h⟩ := h
  refine ⟨gh, as, env, s, R, E, (Pst.bind h).imp fun x s1 as1 H1 e1 R1 h1 v1 r1 => ?_⟩
  obtain ⟨z, ez, h3⟩ := h1.opt
  exact ho gh as1 H1 s1 x z v1 Q R1 r1 ez fun as' H' v e R' rv => h3 as' H' e R' v rv
theorem o1_isN : Op1 G (fun x H Q => Q (.bl (decide (x = .non))) H) opIsN := by
  intro as H s x z a Q R ra e q
  cases e
  rw [← isNon_eq ra]
  exact q as H _ (Ext.refl _ _) R (.d (.bl _))
theorem o1_notN : Op1 G (fun x H Q => Q (.bl (!decide (x = .non))) H) opNotN := by
  intro as H s x z a Q R ra e q
  cases e
  rw [← isNon_eq ra]
  exact q as H _ (Ext.refl _ _) R (.d (.bl _))
theorem o1_neg : Op1 G (rU fun i => .int (-i)) opNeg := by
  intro as H s x z a Q R ra e q
  unfold opNeg at e
  split at e
  · cases e
    cases ra with
    | d ra =>
      cases ra
      exact ⟨_, rfl, q as H _ (Ext.refl _ _) R (.d (.int _))⟩
  · cases e
end
end Vi
set_option Elab.async false
set_option linter.all false
set_option maxRecDepth 100000
set_option maxHeartbeats 4000000
/-! Vi4: subscripts, slices, built-in functions, displays, methods. -/
namespace Vi
open PySem PySem.Spec PyProof.Rows L2

/-! ### forms of syntax -/
def plainRecv : Expr → Bool
  | .Call (.Name _ _) [] [] _ => false
  | _ => true
theorem base_of {o : Expr} (h : plainRecv o = true) (name : Str) (env : PySem.Env) (w : Sem Value) : attributeBase o name env w = w := by
  unfold attributeBase
  split
  · cases h
  · rfl
def noSlice : Expr → Bool
  | .Slice _ _ _ _ => false
  | _ => true
theorem plainIx_of {i : Expr} (h : noSlice i = true) : PlainIx i := fun a b => by
  unfold subscripted
  split
  · cases h
  · contradiction
  · rfl
def noStar : Expr → Bool
  | .Starred _ _ => false
  | _ => true
theorem star_of {e : Expr} (h : noStar e = true) (es : List Expr) (env : PySem.Env) : starEach (e :: es) env = (false, eval e env) :: starEach es env := by
  cases e <;> first | rfl | cases h
theorem star_any {es : List Expr} (h : es.all noStar = true) (env : PySem.Env) : (starEach es env).any (·.1) = false := by
  induction es with
  | nil => rfl
  | cons e es ih =>
    rw [List.all_cons, Bool.and_eq_true] at h
    rw [star_of h.1, List.any_cons, ih h.2]
    rfl
theorem back_any (pos : Pos) (l : List (Bool × Sem Value)) : (backTo pos l).any (·.1) = l.any (·.1) := by
  unfold backTo
  rw [List.any_map]
  rfl
theorem plain_args {es : List Expr} (h : es.all noStar = true) (pos : Pos) (env : PySem.Env) : (backTo pos (starEach es env)).any (·.1) = false := by
  rw [back_any, star_any h]
theorem few_args {es : List Expr} (h : es.all noStar = true) (pos : Pos) (env : PySem.Env) (hl : es.length < 29) :
    ((backTo pos (starEach es env)).all (fun x => !x.1) && (backToKw pos (keywordEach [] env)).all (fun x => x.1.isSome) && decide (es.length + ([] : List Keyword).length + (if ([] : List Keyword).isEmpty then 0 else 1) < 30)) = true := by
  have h1 : (backTo pos (starEach es env)).all (fun x => !x.1) = true := by
    rw [List.all_eq_not_any_not]
    have z := plain_args h pos env
    simpa using z
  rw [h1]
  show (true && true && decide (es.length + 0 + 0 < 30)) = true
  rw [decide_eq_true (by omega)]
  rfl

section
variable {X : Cx} {G : GI} {c : Ct} {Wx : WX}
/-! ### argument lists -/
theorem va_nil : PA X [] (rdA G c Wx daNil) := pa_nil.imp fun σ H Q ⟨gh, as, env, s, R, E, h⟩ => h as H (Ext.refl _ _) R [] .nil
theorem va_cons {e : Expr} {es : List Expr} {d : DE} {r : DA} (he : PE X e (rdE G c Wx d)) (hr : PA X es (rdA G c Wx r)) (hs : noStar e = true) : PA X (e :: es) (rdA G c Wx (daCons d r)) := by
  refine (pa_cons he hr (star_of hs es X.env)).imp fun σ H Q ⟨gh, as, env, s, R, E, h⟩ => ?_
  refine ⟨gh, as, env, s, R, E, (Pst.bind h).imp fun x s1 as1 H1 e1 R1 h1 v1 r1 => ?_⟩
  refine ⟨gh, as1, env, s1, R1, E.mono e1, (Pst.bind h1).imp fun l s2 as2 H2 e2 R2 h2 vs r2 => ?_⟩
  exact h2 as2 H2 (Ext.refl _ _) R2 (v1 :: vs) (.cons (r1.mono e2) r2)
/-! ### displays -/
theorem ve_tup {es : List Expr} {x1 : Nat} {pos : Pos} {d : DA} (ha : PA X es (rdA G c Wx d)) : PE X (.Tuple es x1 pos) (rdE G c Wx (dTup d)) := by
  refine (pe_tup ha).imp fun σ H Q ⟨gh, as, env, s, R, E, h⟩ => ⟨gh, as, env, s, R, E, (Pst.bind h).imp fun l s1 as1 H1 e1 R1 h1 vs r1 => ?_⟩
  split at h1
  · rename_i k
    rw [Bool.and_eq_true, decide_eq_true_eq] at k
    have rd := r1.data k.1
    refine ⟨by rw [← r1.length, ← sizeMax_line]; exact k.2, fun p hp => ?_⟩
    obtain ⟨e2, R2, w2⟩ := new_tup R1 hp rd
    exact h1 as1 _ e2 R2 _ w2
  · exact h1.elim
theorem ve_lst {es : List Expr} {pos : Pos} {d : DA} (ha : PA X es (rdA G c Wx d)) : PE X (.List es pos) (rdE G c Wx (dLst d)) := by
  refine (pe_lst ha).imp fun σ H Q ⟨gh, as, env, s, R, E, h⟩ => ⟨gh, as, env, s, R, E, (Pst.bind h).imp fun l s1 as1 H1 e1 R1 h1 vs r1 => ?_⟩
  split at h1
  · rename_i k
    rw [Bool.and_eq_true, decide_eq_true_eq] at k
    have rd := r1.data k.1
    refine ⟨by rw [← r1.length, ← sizeMax_line]; exact k.2, fun p hp => ?_⟩
    obtain ⟨e2, R2, w2⟩ := new_lst R1 hp rd
    exact h1 as1 _ e2 R2 _ w2
  · exact h1.elim
/-- a new list of the state -/
theorem new_obL {as : List Addr} {H : Hp} {s : S} (R : Rep G as H s) {p : Addr} (h : H p = none) {ws : List W} {xs : List V} (r : RDs G as H ws xs) :
    Ext as H (as ++ [p]) (upd H p (.lst xs)) ∧ Rep G (as ++ [p]) (upd H p (.lst xs)) (s.new (.lst ws)) ∧ RW G (as ++ [p]) (upd H p (.lst xs)) (.adr s.objs.length) (.ref p) := by
  refine ⟨Ext.new h, R.new h ⟨xs, upd_same, RDs.mono (Ext.new h) _ _ r⟩, .d (.adr ?_)⟩
  rw [← R.len]
  simp
theorem ve_lstN {es : List Expr} {pos : Pos} {d : DA} (ha : PA X es (rdA G c Wx d)) : PE X (.List es pos) (rdE G c Wx (dLstN d)) := by
  refine (pe_lst ha).imp fun σ H Q ⟨gh, as, env, s, R, E, h⟩ => ⟨gh, as, env, s, R, E, (Pst.bind h).imp fun l s1 as1 H1 e1 R1 h1 vs r1 => ?_⟩
  split at h1
  · rename_i k
    rw [Bool.and_eq_true, decide_eq_true_eq] at k
    have rd := r1.data k.1
    refine ⟨by rw [← r1.length, ← sizeMax_line]; exact k.2, fun p hp => ?_⟩
    obtain ⟨e2, R2, w2⟩ := new_obL R1 hp rd
    exact h1 _ _ e2 R2 _ w2
  · exact h1.elim
/-! ### operators in expressions -/
theorem ve_op {a b : Expr} {op : Operator} {pos : Pos} {da db : DE} {r : V → V → Hp → VK → Prop} {f : S → W → W → Option W} (ho : OpR X (binaryOp op) r) (hs : ∀ gh, Op2 (G.g gh) r f) (ha : PE X a (rdE G c Wx da)) (hb : PE X b (rdE G c Wx db)) :
    PE X (.BinOp a op b pos) (rdE G c Wx (d2 f da db)) := (pe_op ho ha hb).imp fun _ _ _ h => tOp_of hs h
theorem ve_cmp {a b : Expr} {op : CmpOp} {pos : Pos} {da db : DE} {r : V → V → Hp → VK → Prop} {f : S → W → W → Option W} (ho : OpR X (compareOp op) r) (hs : ∀ gh, Op2 (G.g gh) r f) (ha : PE X a (rdE G c Wx da)) (hb : PE X b (rdE G c Wx db)) (hm : behindInMarks op b = false) :
    PE X (.Compare a [op] [b] pos) (rdE G c Wx (d2 f da db)) := (pe_cmpR ho ha hb hm).imp fun _ _ _ h => tOp_of hs h
theorem ve_un {a : Expr} {op : UnaryOp} {pos : Pos} {da : DE} {r : V → Hp → VK → Prop} {f : S → W → Option W} (ho : UnR X (unaryOp op) r) (hs : ∀ gh, Op1 (G.g gh) r f) (ha : PE X a (rdE G c Wx da)) : PE X (.UnaryOp op a pos) (rdE G c Wx (d1 f da)) :=
  (pe_un ho ha).imp fun _ _ _ h => tUn_of hs h
/-- a op b op' e -/
theorem ve_chain {a b e : Expr} {op op' : CmpOp} {pos : Pos} {da db de : DE} {r r' : V → V → Hp → VK → Prop} {f f' : S → W → W → Option W} (ho : OpR X (compareOp op) r) (hs : ∀ gh, Op2 (G.g gh) r f) (ho' : OpR X (compareOp op') r') (hs' : ∀ gh, Op2 (G.g gh) r' f')
    (ha : PE X a (rdE G c Wx da)) (hb : PE X b (rdE G c Wx db)) (he : PE X e (rdE G c Wx de)) (hm : lastMarks [op, op'] [b, e] = false) : PE X (.Compare a [op, op'] [b, e] pos) (rdE G c Wx (dChain f f' da db de)) := by
  refine (pe_chain ho ho' ha hb he hm).imp fun σ H Q ⟨gh, as, env, s, R, E, h⟩ => ?_
  refine ⟨gh, as, env, s, R, E, (Pst.bind h).imp fun x s1 as1 H1 e1 R1 h1 v1 r1 => ?_⟩
  refine ⟨gh, as1, env, s1, R1, E.mono e1, (Pst.bind h1).imp fun y s2 as2 H2 e2 R2 h2 v2 r2 => ?_⟩
  split at h2
  · rename_i ez
    refine hs gh as2 H2 s2 x y _ v1 v2 _ R2 (r1.mono e2) r2 ez fun as3 H3 v e3 R3 rv => ?_
    cases rv with
    | d rv =>
      cases rv
      refine ⟨true, rfl, ?_⟩
      rw [if_pos rfl]
      refine ⟨gh, as3, env, s2, R3, (E.mono e1).mono (e2.trans e3), (Pst.bind (Pst.shift e3 h2)).imp fun z s4 as4 H4 e4 R4 h4 v4 r4 => ?_⟩
      obtain ⟨q, eq, h5⟩ := h4.opt
      exact hs' gh as4 H4 s4 y z q v2 v4 Q R4 (r2.mono (e3.trans e4)) r4 eq fun as' H' v e R' rv => h5 as' H' e R' v rv
  · rename_i ez
    refine hs gh as2 H2 s2 x y _ v1 v2 _ R2 (r1.mono e2) r2 ez fun as3 H3 v e3 R3 rv => ?_
    cases rv with
    | d rv =>
      cases rv
      refine ⟨false, rfl, ?_⟩
      rw [if_neg (by decide)]
      exact h2 as3 H3 e3 R3 _ (.d (.bl false))
  · exact h2.elim
/-! ### tests -/
theorem vt_of {e : Expr} {d : DE} (he : PE X e (rdE G c Wx d)) (h : ∀ t, PE X e t → PT X e (tB t)) : PT X e (rdT G c Wx (tE d)) := by
  refine (h _ he).imp fun σ H Q ⟨gh, as, env, s, R, E, h⟩ => ⟨gh, as, env, s, R, E, (Pst.bind h).imp fun x s1 as1 H1 e1 R1 h1 v1 r1 => ?_⟩
  split at h1
  · cases r1 with
    | d r =>
      cases r
      exact ⟨_, rfl, h1 as1 H1 (Ext.refl _ _) R1⟩
  · exact h1.elim
theorem vw_and {a b : Expr} {rest : List Expr} {pos : Pos} {ta tb : DT} (ha : PT X a (rdT G c Wx ta)) (hb : PW X (.BoolOp .And (b :: rest) pos) (rdT G c Wx tb)) : PW X (.BoolOp .And (a :: b :: rest) pos) (rdT G c Wx (tAnd ta tb)) := by
  refine (pw_and ha hb).imp fun σ H Q ⟨gh, as, env, s, R, E, h⟩ => ⟨gh, as, env, s, R, E, (Pst.bind h).imp fun k s1 as1 H1 e1 R1 h1 => ?_⟩
  show if k = true then _ else _
  cases k with
  | true =>
    rw [if_pos rfl] at h1 ⊢
    exact ⟨gh, as1, env, s1, R1, E.mono e1, h1⟩
  | false =>
    rw [if_neg (by decide)] at h1 ⊢
    exact h1 as1 H1 (Ext.refl _ _) R1
theorem vw_or {a b : Expr} {rest : List Expr} {pos : Pos} {ta tb : DT} (ha : PT X a (rdT G c Wx ta)) (hb : PW X (.BoolOp .Or (b :: rest) pos) (rdT G c Wx tb)) : PW X (.BoolOp .Or (a :: b :: rest) pos) (rdT G c Wx (tOr ta tb)) := by
  refine (pw_or ha hb).imp fun σ H Q ⟨gh, as, env, s, R, E, h⟩ => ⟨gh, as, env, s, R, E, (Pst.bind h).imp fun k s1 as1 H1 e1 R1 h1 => ?_⟩
  show if k = true then _ else _
  cases k with
  | true =>
    rw [if_pos rfl] at h1 ⊢
    exact h1 as1 H1 (Ext.refl _ _) R1
  | false =>
    rw [if_neg (by decide)] at h1 ⊢
    exact ⟨gh, as1, env, s1, R1, E.mono e1, h1⟩
theorem vt_not {a : Expr} {pos : Pos} {ta : DT} (ha : PT X a (rdT G c Wx ta)) : PT X (.UnaryOp .Not a pos) (rdT G c Wx (tNot ta)) := by
  refine (pt_not ha).imp fun σ H Q ⟨gh, as, env, s, R, E, h⟩ => ⟨gh, as, env, s, R, E, (Pst.bind h).imp fun k s1 as1 H1 e1 R1 h1 => ?_⟩
  exact h1 as1 H1 (Ext.refl _ _) R1
theorem ve_and {a b : Expr} {rest : List Expr} {pos : Pos} {da db : DE} (ha : PE X a (rdE G c Wx da)) (hb : PE X (.BoolOp .And (b :: rest) pos) (rdE G c Wx db)) : PE X (.BoolOp .And (a :: b :: rest) pos) (rdE G c Wx (dAnd da db)) := by
  refine (pe_and ha hb).imp fun σ H Q ⟨gh, as, env, s, R, E, h⟩ => ⟨gh, as, env, s, R, E, (Pst.bind h).imp fun x s1 as1 H1 e1 R1 h1 v1 r1 => ?_⟩
  split at h1
  · cases r1 with
    | d r =>
      cases r
      refine ⟨true, rfl, ?_⟩
      rw [if_pos rfl]
      exact ⟨gh, as1, env, s1, R1, E.mono e1, h1⟩
  · cases r1 with
    | d r =>
      cases r
      refine ⟨false, rfl, ?_⟩
      rw [if_neg (by decide)]
      exact h1 as1 H1 (Ext.refl _ _) R1 _ (.d (.bl false))
  · exact h1.elim
theorem ve_or {a b : Expr} {rest : List Expr} {pos : Pos} {da db : DE} (ha : PE X a (rdE G c Wx da)) (hb : PE X (.BoolOp .Or (b :: rest) pos) (rdE G c Wx db)) : PE X (.BoolOp .Or (a :: b :: rest) pos) (rdE G c Wx (dOr da db)) := by
  refine (pe_or ha hb).imp fun σ H Q ⟨gh, as, env, s, R, E, h⟩ => ⟨gh, as, env, s, R, E, (Pst.bind h).imp fun x s1 as1 H1 e1 R1 h1 v1 r1 => ?_⟩
  split at h1
  · cases r1 with
    | d r =>
      cases r
      refine ⟨false, rfl, ?_⟩
      rw [if_neg (by decide)]
      exact ⟨gh, as1, env, s1, R1, E.mono e1, h1⟩
  · cases r1 with
    | d r =>
      cases r
      refine ⟨true, rfl, ?_⟩
      rw [if_pos rfl]
      exact h1 as1 H1 (Ext.refl _ _) R1 _ (.d (.bl true))
  · exact h1.elim
theorem ve_if {t a b : Expr} {pos : Pos} {dt : DT} {da db : DE} (ht : PT X t (rdT G c Wx dt)) (ha : PE X a (rdE G c Wx da)) (hb : PE X b (rdE G c Wx db)) : PE X (.IfExp t a b pos) (rdE G c Wx (dIf dt da db)) := by
  refine (pe_ifExp ht ha hb).imp fun σ H Q ⟨gh, as, env, s, R, E, h⟩ => ⟨gh, as, env, s, R, E, (Pst.bind h).imp fun k s1 as1 H1 e1 R1 h1 => ?_⟩
  show if k = true then _ else _
  cases k with
  | true =>
    rw [if_pos rfl] at h1 ⊢
    exact ⟨gh, as1, env, s1, R1, E.mono e1, h1⟩
  | false =>
    rw [if_neg (by decide)] at h1 ⊢
    exact ⟨gh, as1, env, s1, R1, E.mono e1, h1⟩
end
end Vi
set_option Elab.async false
set_option linter.all false
set_option maxRecDepth 100000
set_option maxHeartbeats 4000000
/-! Vi5: subscripts, slices, built-in functions, methods. -/
namespace Vi
open PySem PySem.Spec PyProof.Rows L2

section
variable {X : Cx} {G : GI} {c : Ct} {Wx : WX}
/-! ### dicts with ints and texts as keys -/
theorem RD.key {as : List Addr} {H : Hp} {k : W} {q : Key} (h : RD G as H k (kV q)) : (∃ i, q = .inl i ∧ k = .int i) ∨ ∃ x, q = .inr x ∧ k = .str x := by
  cases q with
  | inl i =>
    generalize e : kV (Sum.inl i) = v at h
    have e' : V.int i = v := e
    subst e'
    cases h
    exact .inl ⟨i, rfl, rfl⟩
  | inr x =>
    generalize e : kV (Sum.inr x) = v at h
    have e' : V.str x = v := e
    subst e'
    cases h
    exact .inr ⟨x, rfl, rfl⟩
theorem eqS_dec (x y : Str) : eqS x y = decide (x = y) := by
  rw [eqS_eq]
  by_cases h : x = y
  · subst h
    simp
  · rw [decide_eq_false h, beq_eq_false_iff_ne.mpr h]
theorem keyEq_dec {as : List Addr} {H : Hp} {k l : W} {q r : Key} (h : RD G as H k (kV q)) (h' : RD G as H l (kV r)) : keyEq k l = decide (q = r) := by
  rcases h.key with ⟨i, rfl, rfl⟩ | ⟨x, rfl, rfl⟩ <;> rcases h'.key with ⟨j, rfl, rfl⟩ | ⟨y, rfl, rfl⟩
  · rw [key_ll]
    rfl
  · rw [key_lr]
    rfl
  · rw [key_rl]
    rfl
  · rw [key_rr]
    exact eqS_dec x y
/-- a key that is found is an int or a text -/
theorem look_key {as : List Addr} {H : Hp} {y : W} : ∀ {kvs : List (W × W)} {es : List (Key × V)} {w : W}, RDk G as H kvs es → look y kvs = some w → (∃ i, y = .int i) ∨ ∃ x, y = .str x
  | [], _, _, _, e => by cases e
  | (k, v) :: r, _, w, h, e => by
    cases h with
    | cons h0 h1 h2 =>
      unfold look at e
      split at e
      · rename_i q
        rcases h0.key with ⟨i, _, rfl⟩ | ⟨x, _, rfl⟩
        · cases y <;> first | exact .inl ⟨_, rfl⟩ | cases q
        · cases y <;> first | exact .inr ⟨_, rfl⟩ | cases q
      · exact look_key h2 e
theorem look_val {as : List Addr} {H : Hp} {y : W} {q : Key} (hy : RD G as H y (kV q)) : ∀ {kvs : List (W × W)} {es : List (Key × V)}, RDk G as H kvs es →
    (∀ w, look y kvs = some w → ∃ v, valV es q = some v ∧ RD G as H w v) ∧ (look y kvs = none → valV es q = none)
  | [], _, h => by
    cases h
    exact ⟨fun w e => (by cases e), fun _ => rfl⟩
  | (k, v) :: r, _, h => by
    cases h with
    | @cons _ _ q' v' _ vs h0 h1 h2 =>
      obtain ⟨i1, i2⟩ := look_val hy h2
      have ek := keyEq_dec h0 hy
      unfold look
      by_cases e : q' = q
      · rw [ek, decide_eq_true e]
        have z : valV ((q', v') :: vs) q = some v' := by
          unfold valV
          rw [List.find?_cons_of_pos (by exact decide_eq_true e)]
          rfl
        refine ⟨fun w ew => ?_, fun ew => by cases ew⟩
        cases ew
        exact ⟨v', z, h1⟩
      · rw [ek, decide_eq_false e]
        have z : valV ((q', v') :: vs) q = valV vs q := by
          unfold valV
          rw [List.find?_cons_of_neg (by simp [e])]
        rw [z]
        exact ⟨i1, i2⟩
/-- the pairs of a dict, wherever it stands -/
theorem pairs_of {as : List Addr} {H : Hp} {s : S} (R : Rep G as H s) {w : W} {v : V} {l : List (W × W)} (k : pairsOf s w = some l) (r : RW G as H w v) : ∃ a es, v = .ref a ∧ H a = some (.dK es) ∧ RDk G as H l es := by
  unfold pairsOf at k
  split at k
  · cases k
    cases r with
    | d r =>
      cases r with
      | dct h1 h2 h3 => exact ⟨_, _, rfl, h1, h3⟩
  · rename_i n
    split at k
    · rename_i l' e
      cases k
      cases r with
      | d r =>
        cases r with
        | adr h =>
          obtain ⟨es, h1, h2⟩ := R.ob n _ _ h e
          exact ⟨_, es, rfl, h1, h2⟩
    · cases k
  · cases k
/-! ### subscripts -/
def rIxD : R2 := fun x y H Q => ∃ a v, x = .ref a ∧ DGet H a y (some v) ∧ Q v H
theorem ix_dct (hu : X.A.units + 1 < cLine) : IxR X rIxD := by
  intro value slice pins s σ H x y v u Q I rx ry h hs
  obtain ⟨a, z, rfl, g, q⟩ := h
  obtain rfl : v = Value.ref a := rx
  exact tail_any (dict_typeIs I g) PySem.F.slot_dict_getitem.lookup (d_getItem hu I g ry fun w' s3 I3 rw' => ⟨z, H, I3, rw', q⟩) hs
def rIx4 (K : PySem.W.Frag) : R2 := fun x y H Q => rIx K x y H Q ∨ rIxD x y H Q
theorem IxR.or2 {r r' : R2} (h : IxR X r) (h' : IxR X r') : IxR X (fun x y H Q => r x y H Q ∨ r' x y H Q) := by
  intro value slice pins s σ H x y v u Q I rx ry q hs
  rcases q with q | q
  · exact h value slice pins s σ H x y v u Q I rx ry q hs
  · exact h' value slice pins s σ H x y v u Q I rx ry q hs
theorem ix_4 (hu : X.A.units + 1 < cLine) : IxR X (rIx4 X.K) := IxR.or2 ix_seq (ix_dct hu)
theorem key_get {as : List Addr} {H : Hp} {s : S} (R : Rep G as H s) {x y w : W} {a b : V} {l : List (W × W)} (k : pairsOf s x = some l) (e : look y l = some w) (ra : RW G as H x a) (rb : RW G as H y b) : ∃ p v, a = .ref p ∧ DGet H p b (some v) ∧ RW G as H w v := by
  obtain ⟨p, es, rfl, h1, h2⟩ := pairs_of R k ra
  have hb : ∃ q, b = kV q ∧ RD G as H y (kV q) := by
    rcases look_key h2 e with ⟨i, rfl⟩ | ⟨z, rfl⟩
    · have r := rb.data rfl
      cases r
      exact ⟨.inl i, rfl, .int i⟩
    · have r := rb.data rfl
      cases r
      exact ⟨.inr z, rfl, .str z⟩
  obtain ⟨q, rfl, hy⟩ := hb
  obtain ⟨v, ev, rv⟩ := (look_val hy h2).1 w e
  have g := DGet.k (k := q) h1
  rw [ev] at g
  exact ⟨p, v, rfl, g, .d rv⟩
theorem o2_ix : Op2 G (rIx4 G.K) opIx := by
  intro as H s x y z a b Q R ra rb e q
  have seq : ∀ (i : Int) (l : List W) (k : Nat), itemsOf s x = some l → y = .int i → ixN l.length i = some k → l[k]? = some z → rIx4 G.K a b H Q := by
    intro i l k hl ey hk hz
    subst ey
    obtain ⟨p, xs, rfl, r1, h⟩ := items_of R hl ra
    have eb := rb.data rfl
    cases eb
    obtain ⟨v, ev, rv⟩ := r1.get hz
    have at_ : atI xs i = some v := by
      unfold atI
      rw [← r1.length, hk]
      exact ev
    rcases h with ⟨h, _⟩ | ⟨h, _⟩
    · exact .inl (.inl ⟨p, xs, i, v, rfl, rfl, .inl h, at_, q as H v (Ext.refl _ _) R (.d rv)⟩)
    · exact .inl (.inr (.inl ⟨p, xs, i, v, rfl, rfl, h, at_, q as H v (Ext.refl _ _) R (.d rv)⟩))
  have dct : ∀ l, pairsOf s x = some l → look y l = some z → rIx4 G.K a b H Q := by
    intro l hl hz
    obtain ⟨p, v, rfl, g, rv⟩ := key_get R hl hz ra rb
    exact .inr ⟨p, v, rfl, g, q as H v (Ext.refl _ _) R rv⟩
  unfold opIx at e
  split at e
  · rename_i t i
    split at e
    · rename_i hl
      split at e
      · rename_i k hk
        unfold strAt at e
        split at e
        · rename_i cc hc
          cases e
          have ea := ra.data rfl
          have eb := rb.data rfl
          cases ea
          cases eb
          have tl : t.cps.toList.length = t.length := by simp [Str.length]
          have at_ : atI t.cps.toList i = some cc := by
            unfold atI
            rw [tl, hk]
            show t.cps.toList[k]? = some cc
            rw [Array.getElem?_toList]
            exact hc
          exact .inl (.inr (.inr ⟨t, i, cc, rfl, rfl, by rw [← sizeMax_line]; exact of_decide_eq_true hl, at_, q as H _ (Ext.refl _ _) R (.d (.str _))⟩))
        · cases e
      · cases e
    · cases e
  · rename_i i _
    split at e
    · rename_i l hl
      split at e
      · rename_i k hk
        exact seq i l k hl rfl hk e
      · cases e
    · split at e
      · rename_i l hl
        exact dct l hl e
      · cases e
  · split at e
    · rename_i l hl
      exact dct l hl e
    · cases e
theorem ve_ix {a b : Expr} {pos : Pos} {da db : DE} (hu : X.A.units + 1 < cLine) (hK : X.K = G.K) (ha : PE X a (rdE G c Wx da)) (hb : PE X b (rdE G c Wx db)) (hs : noSlice b = true) : PE X (.Subscript a b pos) (rdE G c Wx (d2 opIx da db)) :=
  (pe_ix (ix_4 hu) ha hb (plainIx_of hs)).imp fun _ _ _ h => tOp_of (r := rIx4 X.K) (by rw [hK]; exact fun _ => o2_ix) h
end
end Vi
set_option Elab.async false
set_option linter.all false
set_option maxRecDepth 100000
set_option maxHeartbeats 4000000
/-! Vi6: slices, built-in functions, methods. -/
namespace Vi
open PySem PySem.Spec PyProof.Rows L2

section
variable {X : Cx} {G : GI} {c : Ct} {Wx : WX}
theorem list_of {as : List Addr} {H : Hp} {s : S} (R : Rep G as H s) {w : W} {v : V} {l : List W} (k : listOf s w = some l) (r : RW G as H w v) : ∃ a xs, v = .ref a ∧ RDs G as H l xs ∧ Rd H a (.lst xs) := by
  unfold listOf at k
  split at k
  · cases k
    obtain ⟨a, xs, rfl, h1, _, r1⟩ := (r.data rfl).lstL
    exact ⟨a, xs, rfl, r1, h1⟩
  · rename_i n
    split at k
    · rename_i l' e
      cases k
      cases r with
      | d r =>
        cases r with
        | adr h =>
          obtain ⟨xs, h1, h2⟩ := R.ob n _ _ h e
          exact ⟨_, xs, rfl, h2, .inl h1⟩
    · cases k
  · cases k
/-! ### slices -/
theorem RDs.cut {as : List Addr} {H : Hp} {ws : List W} {xs : List V} (r : RDs G as H ws xs) (lo hi : Option Int) : RDs G as H (cutL ws lo hi) (cutV xs lo hi) := by
  unfold cutL cutV
  rw [r.length]
  exact RDs.take _ (RDs.drop _ r)
def rSl4 (K : PySem.W.Frag) : V → Option Int → Option Int → Hp → VK → Prop := fun x lo hi H Q => rSlS x lo hi H Q ∨ rSlA K x lo hi H Q ∨ rSlL K x lo hi H Q
theorem sl_4 : SlR X (rSl4 X.K) := SlR.or sl_str (SlR.or sl_tupA sl_list)
theorem cut_whole {α : Type} (l : List α) (lo hi : Option Int) (h1 : HT.sIx l.length 0 lo = 0) (h2 : HT.sIx l.length l.length hi = l.length) : cutL l lo hi = l := by
  unfold cutL
  rw [h1, h2, List.drop_zero, Nat.sub_zero, List.take_length]
theorem slice_rule {as : List Addr} {H : Hp} {s : S} {x z : W} {v : V} {lo hi : Option Int} {Q : VK} (R : Rep G as H s) (r : RW G as H x v) (e : sliceOf s x lo hi = some z)
    (q : ∀ as' H' v, Ext as H as' H' → Rep G as' H' s → RW G as' H' z v → Q v H') : rSl4 G.K v lo hi H Q := by
  unfold sliceOf at e
  split at e
  · rename_i t
    split at e
    · rename_i hl
      cases e
      have rr := r.data rfl
      cases rr
      refine .inl ⟨t, rfl, by rw [← sizeMax_line]; exact of_decide_eq_true hl, ?_⟩
      have tl : t.cps.toList.length = t.length := by simp [Str.length]
      have z : cutS t lo hi = ⟨(cutL t.cps.toList lo hi).toArray⟩ := by
        unfold cutS cutL
        rw [tl]
      rw [z]
      exact q as H _ (Ext.refl _ _) R (.d (.str _))
    · cases e
  · rename_i l
    cases e
    obtain ⟨a, xs, rfl, h1, r1⟩ := (r.data rfl).tupT
    refine .inr (.inl ⟨a, xs, rfl, h1, fun h => ?_, fun _ p hp => ?_⟩)
    · have z : cutL l lo hi = l := cut_whole l lo hi (by rw [r1.length]; exact h.1) (by rw [r1.length]; exact h.2)
      rw [z] at q
      exact q as H _ (Ext.refl _ _) R r
    · obtain ⟨e1, R1, w1⟩ := new_tup R hp (r1.cut lo hi)
      exact q as _ _ e1 R1 w1
  · split at e
    · rename_i l hl
      cases e
      obtain ⟨a, xs, rfl, r1, h1⟩ := list_of R hl r
      refine .inr (.inr ⟨a, xs, rfl, .inl h1, fun p hp => ?_⟩)
      obtain ⟨e1, R1, w1⟩ := new_lst R hp (r1.cut lo hi)
      exact q as _ _ e1 R1 w1
    · cases e
def rdO (G : GI) (c : Ct) (Wx : WX) (d : Option DE) : TO := fun σ H Q => ∃ gh as env s, Rep (G.g gh) as H s ∧ EOk (G.g gh) as H env σ ∧ Pst (G.g gh) as H (fun cls dd H' => Wx cls dd σ H') (fun (o : Option Int) s as' H' => Q o H') (dEnd d c env s)
theorem _root_.L2.PO.imp {X : Cx} {e : Option Expr} {t t' : TO} (h : PO X e t) (f : ∀ σ H Q, t' σ H Q → t σ H Q) : PO X e t' := ⟨fun pins s σ H Q I q => h.run pins s σ H Q I (f σ H Q q)⟩
theorem vo_none : PO X none (rdO G c Wx none) := po_none.imp fun σ H Q ⟨gh, as, env, s, R, E, h⟩ => h as H (Ext.refl _ _) R
theorem vo_some {e : Expr} {d : DE} (h : PE X e (rdE G c Wx d)) : PO X (some e) (rdO G c Wx (some d)) := by
  refine (po_some h).imp fun σ H Q ⟨gh, as, env, s, R, E, h⟩ => ⟨gh, as, env, s, R, E, (Pst.bind h).imp fun x s1 as1 H1 e1 R1 h1 v1 r1 => ?_⟩
  split at h1
  · have rr := r1.data rfl
    cases rr
    exact ⟨_, rfl, h1 as1 H1 (Ext.refl _ _) R1⟩
  · exact h1.elim
theorem ve_slice {a : Expr} {lo hi : Option Expr} {p2 pos : Pos} {da : DE} {dl dh : Option DE} (hK : X.K = G.K) (ha : PE X a (rdE G c Wx da)) (hl : PO X lo (rdO G c Wx dl)) (hh : PO X hi (rdO G c Wx dh)) : PE X (.Subscript a (.Slice lo hi none p2) pos) (rdE G c Wx (dSlice da dl dh)) := by
  refine (pe_slice (r := rSl4 X.K) sl_4 ha hl hh).imp fun σ H Q ⟨gh, as, env, s, R, E, h⟩ => ?_
  refine ⟨gh, as, env, s, R, E, (Pst.bind h).imp fun x s1 as1 H1 e1 R1 h1 v1 r1 => ?_⟩
  refine ⟨gh, as1, env, s1, R1, E.mono e1, (Pst.bind h1).imp fun l s2 as2 H2 e2 R2 h2 => ?_⟩
  refine ⟨gh, as2, env, s2, R2, (E.mono e1).mono e2, (Pst.bind h2).imp fun u s3 as3 H3 e3 R3 h3 => ?_⟩
  obtain ⟨z, ez, h4⟩ := h3.opt
  rw [hK]
  exact slice_rule (G := G.g gh) R3 ((r1.mono e2).mono e3) ez fun as' H' v e R' rv => h4 as' H' e R' v rv
/-- xs[::-1] -/
theorem o1_rev : Op1 G (fun x H Q => ∃ a xs, x = .ref a ∧ SqL G.K H a xs ∧ ∀ p, H p = none → Q (.ref p) (upd H p (.lst xs.reverse))) opRev := by
  intro as H s x z a Q R ra e q
  unfold opRev at e
  cases hl : listOf s x with
  | none => rw [hl] at e; cases e
  | some l =>
    rw [hl] at e
    cases e
    obtain ⟨b, xs, rfl, r1, h1⟩ := list_of R hl ra
    refine ⟨b, xs, rfl, .inl h1, fun p hp => ?_⟩
    have rr : RDs G as H l.reverse xs.reverse := by
      clear q hl h1 ra
      induction l generalizing xs with
      | nil => cases r1; exact .nil
      | cons w ws ih =>
        cases r1 with
        | cons k1 k2 =>
          rw [List.reverse_cons, List.reverse_cons]
          exact (ih _ k2).append (.cons k1 .nil)
    obtain ⟨e1, R1, w1⟩ := new_lst R hp rr
    exact q as _ _ e1 R1 w1
/-! ### calls of built-in things -/
theorem ve_b1 {id : String} {r : List V → Hp → VK → Prop} {f : S → W → Option W} {x : Str} {p pos : Pos} {e : Expr} {da : DE} (hc : CallR X (.builtin id) r) (hs : ∀ gh, Op1 (G.g gh) (fun v H Q => r [v] H Q) f) (hg : Gl X x) (hm : X.mg x = none) (hv : bootBuiltins x = some (.builtin id))
    (ha : PE X e (rdE G c Wx da)) (hn : x ≠ "__name__") (hdb : (x == ("__debug__" : Str)) = false) (hst : noStar e = true) : PE X (.Call (.Name x p) [e] [] pos) (rdE G c Wx (d1 f da)) :=
  (pe_callB hc hg hm hv (pa_cons ha pa_nil (star_of hst [] X.env)) hn hdb (star_of hst [] X.env) rfl).imp fun _ _ _ h => tUn_of hs h
theorem ve_b2 {id : String} {r : List V → Hp → VK → Prop} {f : S → W → W → Option W} {x : Str} {p pos : Pos} {a b : Expr} {da db : DE} (hc : CallR X (.builtin id) r) (hs : ∀ gh, Op2 (G.g gh) (fun v u H Q => r [v, u] H Q) f) (hg : Gl X x) (hm : X.mg x = none) (hv : bootBuiltins x = some (.builtin id))
    (ha : PE X a (rdE G c Wx da)) (hb : PE X b (rdE G c Wx db)) (hn : x ≠ "__name__") (hdb : (x == ("__debug__" : Str)) = false) (hst : noStar a = true) (hst2 : noStar b = true) : PE X (.Call (.Name x p) [a, b] [] pos) (rdE G c Wx (d2 f da db)) := by
  have hs2 : (starEach [b] X.env) = [(false, eval b X.env)] := star_of hst2 [] X.env
  refine (pe_callB hc hg hm hv (pa_cons ha (pa_cons hb pa_nil (star_of hst2 [] X.env)) (star_of hst [b] X.env)) hn hdb (star_of hst [b] X.env) (plain_args (by simp [hst2]) pos X.env)).imp fun _ _ _ h => tOp_of (r := fun v u H Q => r [v, u] H Q) hs h
/-- one argument, the answer perhaps a new object of the state -/
def Op1R (G : GI) (r : V → Hp → VK → Prop) (f : S → W → Res W) : Prop :=
  ∀ (as : List Addr) (H : Hp) (s : S) (x : W) (a : V) (Y : Value → Option Addr → Hp → Prop) (Q : VK), Rep G as H s → RW G as H x a → Pst G as H Y (okE G Q) (f s x) → r a H Q
theorem tUnR_of {r : V → Hp → VK → Prop} {f : S → W → Res W} {da : DE} (ho : ∀ gh, Op1R (G.g gh) r f) {σ : L2.St} {H : Hp} {Q : VK} (h : rdE G c Wx (d1R f da) σ H Q) : rdE G c Wx da σ H (fun x H1 => r x H1 Q) := by
  obtain ⟨gh, as, env, s, R, E, h⟩ := h
  exact ⟨gh, as, env, s, R, E, (Pst.bind h).imp fun x s1 as1 H1 e1 R1 h1 v1 r1 => ho gh as1 H1 s1 x v1 _ Q R1 r1 h1⟩
theorem ve_t1 {T : String} {r : List V → Hp → VK → Prop} {f : S → W → Option W} {x : Str} {p pos : Pos} {e : Expr} {da : DE} (hc : CallR X (.type T) r) (hs : ∀ gh, Op1 (G.g gh) (fun v H Q => r [v] H Q) f) (hg : Gl X x) (hm : X.mg x = none) (hv : bootBuiltins x = some (.type T))
    (ha : PE X e (rdE G c Wx da)) (hn : x ≠ "__name__") (hdb : (x == ("__debug__" : Str)) = false) (hst : noStar e = true) : PE X (.Call (.Name x p) [e] [] pos) (rdE G c Wx (d1 f da)) :=
  (pe_callTy hc hg hm hv (pa_cons ha pa_nil (star_of hst [] X.env)) hn hdb (star_of hst [] X.env) rfl).imp fun _ _ _ h => tUn_of hs h
theorem ve_t1R {T : String} {r : List V → Hp → VK → Prop} {f : S → W → Res W} {x : Str} {p pos : Pos} {e : Expr} {da : DE} (hc : CallR X (.type T) r) (hs : ∀ gh, Op1R (G.g gh) (fun v H Q => r [v] H Q) f) (hg : Gl X x) (hm : X.mg x = none) (hv : bootBuiltins x = some (.type T))
    (ha : PE X e (rdE G c Wx da)) (hn : x ≠ "__name__") (hdb : (x == ("__debug__" : Str)) = false) (hst : noStar e = true) : PE X (.Call (.Name x p) [e] [] pos) (rdE G c Wx (d1R f da)) :=
  (pe_callTy hc hg hm hv (pa_cons ha pa_nil (star_of hst [] X.env)) hn hdb (star_of hst [] X.env) rfl).imp fun _ _ _ h => tUnR_of hs h
/-! ### which -/
theorem b_len : Op1 G (fun v H Q => (fun xs H Q => ∃ x n, xs = [x] ∧ LenV G.K x H n ∧ Q (.int n) H) [v] H Q) bLen := by
  intro as H s x z a Q R ra e q
  unfold bLen at e
  split at e
  · split at e
    · rename_i hl
      cases e
      have rr := ra.data rfl
      cases rr
      exact ⟨_, _, rfl, ⟨by rw [← sizeMax_line]; exact of_decide_eq_true hl, rfl⟩, q as H _ (Ext.refl _ _) R (.d (.int _))⟩
    · cases e
  · split at e
    · rename_i l hl
      cases e
      obtain ⟨p, xs, rfl, r1, h⟩ := items_of R hl ra
      refine ⟨_, l.length, rfl, ?_, q as H _ (Ext.refl _ _) R (.d (.int _))⟩
      rcases h with ⟨h, _⟩ | ⟨h, _⟩
      · exact .inl ⟨xs, .inl h, r1.length⟩
      · exact .inr ⟨xs, h, r1.length⟩
    · cases e
theorem b_abs : Op1 G (fun v H Q => (fun xs H Q => ∃ i, xs = [.int i] ∧ Q (.int (if i < 0 then -i else i)) H) [v] H Q) bAbs := by
  intro as H s x z a Q R ra e q
  unfold bAbs at e
  split at e
  · cases e
    have rr := ra.data rfl
    cases rr
    exact ⟨_, rfl, q as H _ (Ext.refl _ _) R (.d (.int _))⟩
  · cases e
theorem bools_of {as : List Addr} {H : Hp} : ∀ {l : List W} {xs : List V} {bs : List Bool}, boolsOf l = some bs → RDs G as H l xs → xs = bs.map V.bl
  | [], _, _, e, h => by
    cases e
    cases h
    rfl
  | w :: ws, _, _, e, h => by
    cases h with
    | cons h1 h2 =>
      cases w with
      | bl b =>
        unfold boolsOf at e
        cases e1 : boolsOf ws with
        | none => rw [e1] at e; cases e
        | some bs =>
          rw [e1] at e
          cases e
          cases h1
          rw [bools_of e1 h2]
          rfl
      | _ => cases e
theorem ints_of {as : List Addr} {H : Hp} : ∀ {l : List W} {xs : List V} {bs : List Int}, intsOf l = some bs → RDs G as H l xs → xs = bs.map V.int
  | [], _, _, e, h => by
    cases e
    cases h
    rfl
  | w :: ws, _, _, e, h => by
    cases h with
    | cons h1 h2 =>
      cases w with
      | int b =>
        unfold intsOf at e
        cases e1 : intsOf ws with
        | none => rw [e1] at e; cases e
        | some bs =>
          rw [e1] at e
          cases e
          cases h1
          rw [ints_of e1 h2]
          rfl
      | _ => cases e
theorem strs_of {as : List Addr} {H : Hp} : ∀ {l : List W} {xs : List V} {bs : List Str}, strsOf l = some bs → RDs G as H l xs → xs = bs.map V.str
  | [], _, _, e, h => by
    cases e
    cases h
    rfl
  | w :: ws, _, _, e, h => by
    cases h with
    | cons h1 h2 =>
      cases w with
      | str b =>
        unfold strsOf at e
        cases e1 : strsOf ws with
        | none => rw [e1] at e; cases e
        | some bs =>
          rw [e1] at e
          cases e
          cases h1
          rw [strs_of e1 h2]
          rfl
      | _ => cases e
theorem b_all : Op1 G (fun v H Q => rAll G.K [v] H Q) bAll := by
  intro as H s x z a Q R ra e q
  unfold bAll at e
  split at e
  · rename_i l hl
    cases hb : boolsOf l with
    | none => rw [hb] at e; cases e
    | some bs =>
      rw [hb] at e
      cases e
      obtain ⟨p, xs, rfl, r1, h⟩ := list_of R hl ra
      have ex := bools_of hb r1
      subst ex
      exact ⟨p, bs, rfl, .inl h, q as H _ (Ext.refl _ _) R (.d (.bl _))⟩
  · cases e
theorem b_any : Op1 G (fun v H Q => rAny G.K [v] H Q) bAny := by
  intro as H s x z a Q R ra e q
  unfold bAny at e
  split at e
  · rename_i l hl
    cases hb : boolsOf l with
    | none => rw [hb] at e; cases e
    | some bs =>
      rw [hb] at e
      cases e
      obtain ⟨p, xs, rfl, r1, h⟩ := list_of R hl ra
      have ex := bools_of hb r1
      subst ex
      exact ⟨p, bs, rfl, .inl h, q as H _ (Ext.refl _ _) R (.d (.bl _))⟩
  · cases e
theorem b_sum : Op1 G (fun v H Q => rSum G.K [v] H Q) bSum := by
  intro as H s x z a Q R ra e q
  unfold bSum at e
  split at e
  · rename_i l hl
    cases hb : intsOf l with
    | none => rw [hb] at e; cases e
    | some bs =>
      rw [hb] at e
      cases e
      obtain ⟨p, xs, rfl, r1, h⟩ := list_of R hl ra
      have ex := ints_of hb r1
      subst ex
      exact ⟨p, bs, rfl, .inl h, q as H _ (Ext.refl _ _) R (.d (.int _))⟩
  · cases e
theorem b_tuple : Op1 G (fun v H Q => (fun xs H Q => ∃ p ys, xs = [.ref p] ∧ ((SqL G.K H p ys ∧ ∀ l, H l = none → Q (.ref l) (upd H l (.tup ys))) ∨ (SqT G.K H p ys ∧ Q (.ref p) H))) [v] H Q) bTuple := by
  intro as H s x z a Q R ra e q
  unfold bTuple at e
  split at e
  · cases e
    obtain ⟨p, xs, rfl, h1, r1⟩ := (ra.data rfl).tupT
    exact ⟨p, xs, rfl, .inr ⟨h1, q as H _ (Ext.refl _ _) R ra⟩⟩
  · cases hl : listOf s x with
    | none => rw [hl] at e; cases e
    | some l =>
      rw [hl] at e
      cases e
      obtain ⟨p, xs, rfl, r1, h⟩ := list_of R hl ra
      refine ⟨p, xs, rfl, .inl ⟨.inl h, fun b hb => ?_⟩⟩
      obtain ⟨e1, R1, w1⟩ := new_tup R hb r1
      exact q as _ _ e1 R1 w1
theorem b_list : Op1 G (fun v H Q => (fun xs H Q => ∃ p ys, xs = [.ref p] ∧ (SqL G.K H p ys ∨ SqT G.K H p ys) ∧ ∀ l, H l = none → Q (.ref l) (upd H l (.lst ys))) [v] H Q) bList := by
  intro as H s x z a Q R ra e q
  unfold bList at e
  cases hl : itemsOf s x with
  | none => rw [hl] at e; cases e
  | some l =>
    rw [hl] at e
    cases e
    obtain ⟨p, xs, rfl, r1, h⟩ := items_of R hl ra
    refine ⟨p, xs, rfl, ?_, fun b hb => ?_⟩
    · rcases h with ⟨h, _⟩ | ⟨h, _⟩
      · exact .inl (.inl h)
      · exact .inr h
    · obtain ⟨e1, R1, w1⟩ := new_lst R hb r1
      exact q as _ _ e1 R1 w1
theorem b_listN : Op1R G (fun v H Q => (fun xs H Q => ∃ p ys, xs = [.ref p] ∧ (SqL G.K H p ys ∨ SqT G.K H p ys) ∧ ∀ l, H l = none → Q (.ref l) (upd H l (.lst ys))) [v] H Q) bListN := by
  intro as H s x a Y Q R ra h
  unfold bListN at h
  split at h
  · rename_i l hl
    obtain ⟨p, xs, rfl, r1, hh⟩ := items_of R hl ra
    refine ⟨p, xs, rfl, ?_, fun b hb => ?_⟩
    · rcases hh with ⟨hh, _⟩ | ⟨hh, _⟩
      · exact .inl (.inl hh)
      · exact .inr hh
    · obtain ⟨e1, R1, w1⟩ := new_obL R hb r1
      exact h _ _ e1 R1 _ w1
  · exact h.elim
theorem b_min2 : Op2 G (fun v u H Q => (fun xs H Q => ∃ i j, xs = [.int i, .int j] ∧ Q (.int (if j < i then j else i)) H) [v, u] H Q) bMin2 := by
  intro as H s x y z a b Q R ra rb e q
  unfold bMin2 at e
  split at e
  · cases e
    have r1 := ra.data rfl
    have r2 := rb.data rfl
    cases r1
    cases r2
    exact ⟨_, _, rfl, q as H _ (Ext.refl _ _) R (.d (.int _))⟩
  · cases e
theorem b_max2 : Op2 G (fun v u H Q => (fun xs H Q => ∃ i j, xs = [.int i, .int j] ∧ Q (.int (if j > i then j else i)) H) [v, u] H Q) bMax2 := by
  intro as H s x y z a b Q R ra rb e q
  unfold bMax2 at e
  split at e
  · cases e
    have r1 := ra.data rfl
    have r2 := rb.data rfl
    cases r1
    cases r2
    exact ⟨_, _, rfl, q as H _ (Ext.refl _ _) R (.d (.int _))⟩
  · cases e
def rInt4 : List V → Hp → VK → Prop := fun xs H Q => ((∃ i, xs = [.int i] ∧ Q (.int i) H) ∨ ∃ k, xs = [.bl k] ∧ Q (.int (if k then 1 else 0)) H) ∨ ∃ a n, xs = [.str a] ∧ PySem.intText? a = some n ∧ a.length ≤ 640 ∧ Q (.int n) H
theorem call_int4 : CallR X (.type "int") rInt4 := CallR.or call_int1 call_int_str
theorem b_int : Op1 G (fun v H Q => rInt4 [v] H Q) bInt := by
  intro as H s x z a Q R ra e q
  unfold bInt at e
  split at e
  · cases e
    have r1 := ra.data rfl
    cases r1
    exact .inl (.inl ⟨_, rfl, q as H _ (Ext.refl _ _) R (.d (.int _))⟩)
  · cases e
    have r1 := ra.data rfl
    cases r1
    exact .inl (.inr ⟨_, rfl, q as H _ (Ext.refl _ _) R (.d (.int _))⟩)
  · split at e
    · rename_i t hl
      cases hn : intText? t with
      | none => rw [hn] at e; cases e
      | some n =>
        rw [hn] at e
        cases e
        have r1 := ra.data rfl
        cases r1
        exact .inr ⟨_, n, rfl, hn, of_decide_eq_true hl, q as H _ (Ext.refl _ _) R (.d (.int _))⟩
    · cases e
  · cases e
def rStr4 : List V → Hp → VK → Prop := fun xs H Q => (∃ i, xs = [.int i] ∧ i.natAbs.log2 < 1920 ∧ Q (.str (toString i)) H) ∨ ∃ a, xs = [.str a] ∧ Q (.str a) H
theorem call_str4 : CallR X (.type "str") rStr4 := CallR.or call_str_int SkE.call_str_str
theorem b_str : Op1 G (fun v H Q => rStr4 [v] H Q) bStr := by
  intro as H s x z a Q R ra e q
  unfold bStr at e
  split at e
  · split at e
    · rename_i hl
      cases e
      have r1 := ra.data rfl
      cases r1
      exact .inl ⟨_, rfl, of_decide_eq_true hl, q as H _ (Ext.refl _ _) R (.d (.str _))⟩
    · cases e
  · cases e
    have r1 := ra.data rfl
    cases r1
    exact .inr ⟨_, rfl, q as H _ (Ext.refl _ _) R (.d (.str _))⟩
  · cases e
theorem b_gcd : Op2 G (fun v u H Q => rGcd [v, u] H Q) bGcd := by
  intro as H s x y z a b Q R ra rb e q
  unfold bGcd at e
  split at e
  · cases e
    have r1 := ra.data rfl
    have r2 := rb.data rfl
    cases r1
    cases r2
    exact ⟨_, _, rfl, q as H _ (Ext.refl _ _) R (.d (.int _))⟩
  · cases e
end
end Vi
set_option Elab.async false
set_option linter.all false
set_option maxRecDepth 100000
set_option maxHeartbeats 4000000
/-! Vi7: isinstance, repr, methods. -/
namespace Vi
open PySem PySem.Spec PyProof.Rows L2

/-! ### isinstance -/
def kdV (G : GI) : Kd → Option Value
  | .non => some (.type "NoneType")
  | .bool => some (.type "bool")
  | .int => some (.type "int")
  | .str => some (.type "str")
  | .tup => some (.type "tuple")
  | .lst => some (.type "list")
  | .dct => some (.type "dict")
  | .cls c => (G.clA c).map .ref
def tyU (G : GI) : Ty → Option Value
  | .bool => some (.type "bool")
  | .int => some (.type "int")
  | .str => some (.type "str")
  | .tup => some (.type "tuple")
  | .lst => some (.type "list")
  | .dct => some (.type "dict")
  | .cls c => (G.clA c).map .ref
theorem kdV_cls {G : GI} {c : Nat} {C : Addr} (h : G.clA c = some C) : kdV G (.cls c) = some (.ref C) := by
  show (G.clA c).map Value.ref = _
  rw [h]
  rfl
/-- what isinstance answers -/
def KitOk (G : GI) (sub : Nat → Nat → Bool) : Prop := ∀ (k : Kd) (t : Ty) (a b : Value), kdV G k = some a → tyU G t = some b → PySem.W.kitOne G.K a b = some (isTy sub k t)
inductive KX (K : PySem.W.Frag) (H : Hp) : V → Value → Prop
  | ty {x : V} {t : Value} : TyX K H x t → KX K H x t
  | exc {a C : Addr} {d : Option Addr} {fs : List (Str × V)} : H a = some (EO a C d) → xdP H d fs → ExF K C → KX K H (.ref a) (.ref C)
section
variable {X : Cx} {G : GI} {c : Ct} {Wx : WX} {pins : List (Addr × Obj)} {σ : L2.St} {H : Hp} {s : Shared}
theorem kx_of {x : V} {u t : Value} (I : Inv X pins σ H s) (rx : RelV x u) (ty : KX X.K H x t) : ∃ P : Heap → Prop, PySem.W.KitX X.K u t P ∧ P s.heap ∧ u ≠ .builtin "__main__.__loader__#opaque" := by
  cases ty with
  | ty h => exact kit_of I rx h
  | @exc a C d fs h1 h2 F =>
    cases (show u = Value.ref a from rx)
    obtain ⟨⟨oe, vs, e1, e2, e3, e4⟩, _⟩ := (show ObjOk X.prog X.w H s.heap a (EO a C d) from I.hok a _ h1)
    have hno : PySem.W.notCls oe = true := by
      unfold PySem.W.notCls
      rw [e4]
    obtain ⟨gt, hgt⟩ := F.hgt
    cases d with
    | none => exact ⟨_, PySem.W.kitx_exc (od := none) F.hcl F.hga hgt F.hsub F.ha F.hn F.htk F.hm, ⟨e1, e2, hno, by rw [e3]; trivial⟩, fun z => nomatch z⟩
    | some dd =>
      obtain ⟨mA, ⟨o, es, ep, q, _⟩, _⟩ := (show ObjOk X.prog X.w H s.heap dd (.xd fs) from I.hok dd _ h2)
      exact ⟨_, PySem.W.kitx_exc (od := some o) F.hcl F.hga hgt F.hsub F.ha F.hn F.htk F.hm, ⟨e1, e2, hno, by rw [e3]; exact q⟩, fun z => nomatch z⟩
def rIsV (K : PySem.W.Frag) : List V → Hp → VK → Prop := fun xs H Q => ∃ (x cv : V) (t u : Value) (b : Bool), xs = [x, cv] ∧ ClsV cv u ∧ KX K H x t ∧ PySem.W.kitOne K t u = some b ∧ Q (.bl b) H
theorem call_isV : CallR X (.builtin "isinstance") (rIsV X.K) := by
  intro pins s σ H xs us Q I r h
  obtain ⟨x, cv, t, u, b, rfl, k, ty, e, q⟩ := h
  obtain ⟨u1, u2, rfl, r1, r2⟩ := vals2 r
  have e2 := k.eq r2
  subst e2
  obtain ⟨P, Z, p, hx⟩ := kx_of I r1 ty
  exact PySem.W.kia_one Z I.kIn p e hx fun tk => ⟨.bl b, H, I.tok tk, rfl, q⟩
def rIsVT (K : PySem.W.Frag) : List V → Hp → VK → Prop := fun xs H Q => ∃ (x : V) (tp : Addr) (cs : List V) (t : Value) (us : List Value) (b : Bool), xs = [x, .ref tp] ∧ H tp = some (.tup cs) ∧ Paired ClsV cs us ∧ KX K H x t ∧ PySem.W.kitAny K t us = some b ∧ Q (.bl b) H
theorem call_isVT : CallR X (.builtin "isinstance") (rIsVT X.K) := by
  intro pins s σ H xs us Q I r h
  obtain ⟨x, tp, cs, t, ws, b, rfl, hT, k, ty, e, q⟩ := h
  obtain ⟨u1, u2, rfl, r1, r2⟩ := vals2 r
  cases (show u2 = Value.ref tp from r2)
  obtain ⟨P, Z, p, hx⟩ := kx_of I r1 ty
  obtain ⟨_, its, rv, o, h1, h2, n, h3⟩ := (show ObjOk X.prog X.w H s.heap tp (.tup cs) from I.hok tp _ hT)
  have e3 := ClsV.all k rv
  subst e3
  obtain ⟨oc, od, dt, sl⟩ := o
  simp only at h2 h3
  subst h2 h3
  exact PySem.W.kia_tup Z I.kIn p h1 e hx fun tk => ⟨.bl b, H, I.tok tk, rfl, q⟩
/-- what a value is, told to the library -/
theorem kx_kd {as : List Addr} {H : Hp} {s : S} (R : Rep G as H s) {x : W} {v : V} {k : Kd} (e : kdOf s x = some k) (r : RW G as H x v) : ∃ a, kdV G k = some a ∧ KX G.K H v a := by
  have inst : ∀ {a C dx : Addr} {fs : List (Str × V)}, ClF G.K C → H a = some (.ins C dx fs) → KX G.K H (.ref a) (.ref C) := fun F h => .ty (.base (.ins h F.cl F.ha F.hn F.htk F.hm))
  unfold kdOf at e
  split at e
  · cases e
    cases r.data rfl
    exact ⟨_, rfl, .ty (.base .non)⟩
  · cases e
    cases r.data rfl
    exact ⟨_, rfl, .ty (.base (.bl _))⟩
  · cases e
    cases r.data rfl
    exact ⟨_, rfl, .ty (.base (.int _))⟩
  · cases e
    cases r.data rfl
    exact ⟨_, rfl, .ty (.base (.str _))⟩
  · cases e
    obtain ⟨a, xs, rfl, h1, _⟩ := (r.data rfl).tupT
    refine ⟨_, rfl, ?_⟩
    rcases h1 with (h | ⟨o, h⟩) | ⟨o, its, n, h1, h2, _⟩
    · exact .ty (.base (.tup h))
    · exact .ty (.fTuple h)
    · exact .ty (.kTuple h1 h2)
  · cases e
    obtain ⟨a, xs, rfl, h1, _⟩ := (r.data rfl).lstL
    refine ⟨_, rfl, ?_⟩
    rcases h1 with h | ⟨o, h⟩
    · exact .ty (.base (.lst h))
    · exact .ty (.base (.frz h))
  · cases e
    have rr := r.data rfl
    cases rr with
    | dct h1 h2 h3 => exact ⟨_, rfl, .ty (.base (.dK h1))⟩
  · cases e
    have rr := r.data rfl
    cases rr with
    | exc h0 h1 h2 h3 h4 => exact ⟨_, kdV_cls h0.1, .exc h1 h2 h0.2⟩
  · cases e
    have rr := r.data rfl
    cases rr with
    | rc h0 h1 h2 h3 h4 => exact ⟨_, kdV_cls h0.1, inst h0.2 h1⟩
  · have rr := r.data rfl
    cases rr with
    | adr ha =>
      split at e
      · rename_i l he
        cases e
        obtain ⟨xs, h1, _⟩ := R.ob _ _ _ ha he
        exact ⟨_, rfl, .ty (.base (.lst h1))⟩
      · rename_i l he
        cases e
        obtain ⟨xs, h1, _⟩ := R.ob _ _ _ ha he
        exact ⟨_, rfl, .ty (.base (.dK h1))⟩
      · rename_i l he
        cases e
        obtain ⟨C, dx, fs, h0, h1, _⟩ := R.ob _ _ _ ha he
        exact ⟨_, kdV_cls h0.1, inst h0.2 h1⟩
      · cases e
  · cases e
theorem kit_list {sub : Nat → Nat → Bool} (hk : KitOk G sub) {k : Kd} {a : Value} (ha : kdV G k = some a) : ∀ (ts : List Ty) (us : List Value), ts.map (tyU G) = us.map some → PySem.W.kitAny G.K a us = some (ts.any (isTy sub k))
  | [], us, h => by
    cases us with
    | nil => rfl
    | cons _ _ => cases h
  | t :: ts, us, h => by
    cases us with
    | nil => cases h
    | cons u us =>
      simp only [List.map_cons, List.cons.injEq] at h
      have h1 := hk k t a u ha h.1
      have h2 := kit_list hk ha ts us h.2
      unfold PySem.W.kitAny
      rw [h1, List.any_cons]
      cases isTy sub k t with
      | true => rfl
      | false => exact h2
theorem ve_isi {e T : Expr} {p pos : Pos} {d : DE} {t : Ty} {tv : V} {tu : Value} (hk : KitOk G c.sub) (hK : X.K = G.K) (he : PE X e (rdE G c Wx d)) (hT : PE X T (tC tv)) (hc : ClsV tv tu) (ht : tyU G t = some tu) (hg : Gl X "isinstance") (hm : X.mg "isinstance" = none)
    (hs : noStar e = true) (hs2 : noStar T = true) : PE X (.Call (.Name "isinstance" p) [e, T] [] pos) (rdE G c Wx (dIsi d [t])) := by
  refine (pe_callB (r := rIsV X.K) call_isV hg hm (by decide +kernel) (pa_cons he (pa_cons hT pa_nil (star_of hs2 [] X.env)) (star_of hs [T] X.env)) (by decide) (by decide) (star_of hs [T] X.env) (plain_args (by simp [hs2]) pos X.env)).imp fun σ H Q ⟨gh, as, env, s, R, E, h⟩ => ?_
  refine ⟨gh, as, env, s, R, E, (Pst.bind h).imp fun x s1 as1 H1 e1 R1 h1 v1 r1 => ?_⟩
  split at h1
  · rename_i k ek
    obtain ⟨a, ha, kx⟩ := kx_kd R1 ek r1
    rw [hK]
    refine ⟨v1, tv, a, tu, isTy c.sub k t, rfl, hc, kx, hk k t a tu ha ht, ?_⟩
    have z : ([t].any (isTy c.sub k)) = isTy c.sub k t := by simp
    rw [z] at h1
    exact h1 as1 H1 (Ext.refl _ _) R1 _ (.d (.bl _))
  · exact h1.elim
theorem ve_isiT {e : Expr} {Ts : List Expr} {k2 : Nat} {p p2 pos : Pos} {d : DE} {ts : List Ty} {tvs : List V} {tus : List Value} (hk : KitOk G c.sub) (hK : X.K = G.K) (he : PE X e (rdE G c Wx d)) (hT : PA X Ts (fun _ H Q => Q tvs H)) (hc : Paired ClsV tvs tus) (ht : ts.map (tyU G) = tus.map some)
    (hl : tvs.length ≤ sizeMax) (hg : Gl X "isinstance") (hm : X.mg "isinstance" = none) (hs : noStar e = true) : PE X (.Call (.Name "isinstance" p) [e, .Tuple Ts k2 p2] [] pos) (rdE G c Wx (dIsi d ts)) := by
  refine (pe_callB (r := rIsVT X.K) call_isVT hg hm (by decide +kernel) (pa_cons he (pa_cons (pe_tup hT) pa_nil rfl) (star_of hs _ X.env)) (by decide) (by decide) (star_of hs _ X.env) (plain_args (by rfl) pos X.env)).imp fun σ H Q ⟨gh, as, env, s, R, E, h⟩ => ?_
  refine ⟨gh, as, env, s, R, E, (Pst.bind h).imp fun x s1 as1 H1 e1 R1 h1 v1 r1 => ?_⟩
  refine ⟨by rw [← sizeMax_line]; exact hl, fun q hq => ?_⟩
  have e2 : Ext as1 H1 as1 (upd H1 q (.tup tvs)) := Ext.laid hq
  split at h1
  · rename_i k ek
    obtain ⟨a, ha, kx⟩ := kx_kd (R1.laid hq) ek (r1.mono e2)
    rw [hK]
    exact ⟨v1, q, tvs, a, tus, ts.any (isTy c.sub k), rfl, upd_same, hc, kx, kit_list hk ha ts tus ht, h1 as1 _ e2 (R1.laid hq) _ (.d (.bl _))⟩
  · exact h1.elim
end
end Vi
set_option Elab.async false
set_option linter.all false
set_option maxRecDepth 100000
set_option maxHeartbeats 4000000
/-! Vi8: repr, methods. -/
namespace Vi
open PySem PySem.Spec PyProof.Rows L2

/-! ### repr -/
mutual
theorem wt_eq : ∀ (n : Nat) (w : W), plainW n w = true → wtW w = (toD w).weight
  | _, .non, _ => rfl
  | _, .bl _, _ => rfl
  | _, .int _, _ => rfl
  | _, .str _, _ => rfl
  | 0, .tup l, k => by cases k
  | n + 1, .tup l, k => wts_eq n l k
  | 0, .lst l, k => by cases k
  | n + 1, .lst l, k => wts_eq n l k
  | n, .dct _, k => by cases n <;> cases k
  | n, .rc _ _, k => by cases n <;> cases k
  | n, .adr _, k => by cases n <;> cases k
  | n, .fn _, k => by cases n <;> cases k
  | n, .clo _ _, k => by cases n <;> cases k
  | n, .exc _ _, k => by cases n <;> cases k
theorem wts_eq : ∀ (n : Nat) (w : List W), plainWs n w = true → wtWs w = PyData.weightAll (toDs w)
  | _, [], _ => rfl
  | n, w :: ws, k => by
    have k' : (plainW n w && plainWs n ws) = true := by cases n <;> exact k
    rw [Bool.and_eq_true] at k'
    show wtW w + 1 + wtWs ws = (toD w).weight + 1 + PyData.weightAll (toDs ws)
    rw [wt_eq n w k'.1, wts_eq n ws k'.2]
end
theorem cps_short {x : Str} (h : PyData.strOk x = true) : (x.cps.toList.all fun c => decide (c < 16 ^ 8)) = true := by
  unfold PyData.strOk at h
  rw [← Array.all_toList] at h
  refine List.all_eq_true.mpr fun c hc => decide_eq_true ?_
  have z := of_decide_eq_true (List.all_eq_true.mp h c hc)
  omega
mutual
theorem leaves_of (B : Nat) (hB : 0 < B) : ∀ (n : Nat) (w : W), plainW n w = true → bitsW B w = true → (toD w).leavesShort (B + 1) = true
  | _, .non, _, _ => rfl
  | _, .bl _, _, _ => rfl
  | _, .int i, _, h => decide_eq_true (by
    show (Str.ofString (toString i)).length ≤ B + 1
    rw [PySem.ofString_length]
    exact int_text_length_le hB (of_decide_eq_true h))
  | n, .str x, k, _ => cps_short (by cases n <;> exact k)
  | 0, .tup l, k, _ => by cases k
  | n + 1, .tup l, k, h => leavess_of B hB n l k h
  | 0, .lst l, k, _ => by cases k
  | n + 1, .lst l, k, h => leavess_of B hB n l k h
  | n, .dct _, k, _ => by cases n <;> cases k
  | n, .rc _ _, k, _ => by cases n <;> cases k
  | n, .adr _, k, _ => by cases n <;> cases k
  | n, .fn _, k, _ => by cases n <;> cases k
  | n, .clo _ _, k, _ => by cases n <;> cases k
  | n, .exc _ _, k, _ => by cases n <;> cases k
theorem leavess_of (B : Nat) (hB : 0 < B) : ∀ (n : Nat) (w : List W), plainWs n w = true → bitsWs B w = true → PyData.leavesShortAll (B + 1) (toDs w) = true
  | _, [], _, _ => rfl
  | n, w :: ws, k, h => by
    have k' : (plainW n w && plainWs n ws) = true := by cases n <;> exact k
    have h' : (bitsW B w && bitsWs B ws) = true := h
    rw [Bool.and_eq_true] at k' h'
    show (PyData.leavesShort (B + 1) (toD w) && PyData.leavesShortAll (B + 1) (toDs ws)) = true
    rw [leaves_of B hB n w k'.1 h'.1, leavess_of B hB n ws k'.2 h'.2]
    rfl
end
mutual
theorem shows_of (B : Nat) (hB : B ≤ 1920) : ∀ (n : Nat) (w : W), plainW n w = true → bitsW B w = true → (toD w).showable = true ∧ (toD w).hasDict = false
  | _, .non, _, _ => ⟨rfl, rfl⟩
  | _, .bl _, _, _ => ⟨rfl, rfl⟩
  | _, .int i, _, h => ⟨decide_eq_true (Nat.lt_of_lt_of_le (of_decide_eq_true h) hB), rfl⟩
  | n, .str x, k, _ => ⟨rfl, rfl⟩
  | 0, .tup l, k, _ => by cases k
  | n + 1, .tup l, k, h => showss_of B hB n l k h
  | 0, .lst l, k, _ => by cases k
  | n + 1, .lst l, k, h => showss_of B hB n l k h
  | n, .dct _, k, _ => by cases n <;> cases k
  | n, .rc _ _, k, _ => by cases n <;> cases k
  | n, .adr _, k, _ => by cases n <;> cases k
  | n, .fn _, k, _ => by cases n <;> cases k
  | n, .clo _ _, k, _ => by cases n <;> cases k
  | n, .exc _ _, k, _ => by cases n <;> cases k
theorem showss_of (B : Nat) (hB : B ≤ 1920) : ∀ (n : Nat) (w : List W), plainWs n w = true → bitsWs B w = true → PyData.showableAll (toDs w) = true ∧ PyData.hasDictAll (toDs w) = false
  | _, [], _, _ => ⟨rfl, rfl⟩
  | n, w :: ws, k, h => by
    have k' : (plainW n w && plainWs n ws) = true := by cases n <;> exact k
    have h' : (bitsW B w && bitsWs B ws) = true := h
    rw [Bool.and_eq_true] at k' h'
    obtain ⟨a1, a2⟩ := shows_of B hB n w k'.1 h'.1
    obtain ⟨b1, b2⟩ := showss_of B hB n ws k'.2 h'.2
    refine ⟨?_, ?_⟩
    · show (PyData.showable (toD w) && PyData.showableAll (toDs ws)) = true
      rw [a1, b1]
      rfl
    · show (PyData.hasDict (toD w) || PyData.hasDictAll (toDs ws)) = false
      rw [a2, b2]
      rfl
end
mutual
theorem same_toD : ∀ (x y : W), sameW x y = true → toD x = toD y
  | .non, y, h => by cases y <;> first | rfl | cases h
  | .bl b, y, h => by
    cases y with
    | bl b' =>
      have e : (b == b') = true := h
      rw [eq_of_beq e]
    | _ => cases h
  | .int b, y, h => by
    cases y with
    | int b' =>
      have e : (b == b') = true := h
      rw [eq_of_beq e]
    | _ => cases h
  | .str b, y, h => by
    cases y with
    | str b' =>
      have e : eqS b b' = true := h
      rw [eqS_dec] at e
      rw [of_decide_eq_true e]
    | _ => cases h
  | .tup l, y, h => by
    cases y with
    | tup m => exact congrArg PyData.tuple (same_toDs l m h)
    | _ => cases h
  | .lst l, y, h => by
    cases y with
    | lst m => exact congrArg PyData.list (same_toDs l m h)
    | _ => cases h
  | .dct _, _, h => by cases h
  | .rc _ _, _, h => by cases h
  | .adr _, _, h => by cases h
  | .fn _, _, h => by cases h
  | .clo _ _, _, h => by cases h
  | .exc _ _, _, h => by cases h
theorem same_toDs : ∀ (x y : List W), sameWs x y = true → toDs x = toDs y
  | [], [], _ => rfl
  | [], _ :: _, h => by cases h
  | _ :: _, [], h => by cases h
  | x :: xs, y :: ys, h => by
    have h' : (sameW x y && sameWs xs ys) = true := h
    rw [Bool.and_eq_true] at h'
    show toD x :: toDs xs = toD y :: toDs ys
    rw [same_toD x y h'.1, same_toDs xs ys h'.2]
end
theorem rep_facts {w : W} (h : repOk w = true) : plainW 64 w = true ∧ (toD w).showable = true ∧ (toD w).hasDict = false ∧ (toD w).depth ≤ 64 ∧ (toD w).shown.length ≤ sizeLine := by
  unfold repOk at h
  rw [Bool.and_eq_true, Bool.or_eq_true, Bool.and_eq_true, Bool.and_eq_true, decide_eq_true_eq, decide_eq_true_eq, sizeMax_line] at h
  obtain ⟨k, h⟩ := h
  refine ⟨k, ?_, ?_, (plain_lay 64 w k).2, ?_⟩
  · rcases h with ⟨h, _⟩ | ⟨h, _⟩
    · exact (shows_of _ (by decide) 64 w k h).1
    · exact (shows_of _ (by decide) 64 w k h).1
  · rcases h with ⟨h, _⟩ | ⟨h, _⟩
    · exact (shows_of _ (by decide) 64 w k h).2
    · exact (shows_of _ (by decide) 64 w k h).2
  · rw [wt_eq 64 w k] at h
    rcases h with ⟨h, z⟩ | ⟨h, z⟩
    · have q := PyData.shown_le 41 (by decide) (toD w) (leaves_of 40 (by decide) 64 w k h)
      omega
    · have q := PyData.shown_le 1920 (by decide) (toD w) (leaves_of 1919 (by decide) 64 w k h)
      omega
section
variable {X : Cx} {G : GI} {c : Ct} {Wx : WX}
def rRepr (K : PySem.W.Frag) : List V → Hp → VK → Prop := fun xs H Q => ∃ x d, xs = [x] ∧ Dp K H x d ∧ d.showable = true ∧ d.hasDict = false ∧ d.depth ≤ 64 ∧ d.shown.length ≤ sizeLine ∧ Q (.str d.shown) H
theorem call_reprD (hg : X.A.guards = some []) (hu : X.A.units + 66 < cLine) : CallR X (.builtin "repr") (rRepr X.K) := by
  intro pins s σ H xs us Q I r h
  obtain ⟨x, d, rfl, hd, h1, h2, h3, h4, q⟩ := h
  obtain ⟨u, rfl, ru⟩ := vals1 r
  obtain ⟨as, rd⟩ := Dp.reads I d x u hd ru
  have ref : ∀ a, u = .ref a → wpAny (model X.prog X.w) X.A (call (.builtin "repr") [u]) (EP X pins σ Q) X.xe s := fun a e => by
    subst e
    exact repr_of_reads' rd h1 (PyData.noDict_hsm h2) hg (by omega) (fun _ _ e => e) (fun h' u tk hk => ⟨.str d.shown, H, I.kept hk, ⟨_, rfl⟩, q⟩) h4
  cases rd with
  | none => exact P.repr_of_none ⟨.str _, H, I.tok _, ⟨_, rfl⟩, q⟩
  | bool b => exact P.repr_of_bool ⟨.str _, H, I.tok _, ⟨_, rfl⟩, by cases b <;> exact q⟩
  | int i t => exact P.repr_of_int (of_decide_eq_true h1) ⟨.str _, H, I.tok _, ⟨_, rfl⟩, q⟩
  | str z t => exact P.repr_of_str ⟨.str _, H, I.tok _, ⟨_, rfl⟩, q⟩ h4
  | list _ _ _ _ => exact ref _ rfl
  | tuple _ _ _ _ => exact ref _ rfl
  | dict _ _ _ _ _ => cases hd
theorem ve_repEq {a b : Expr} {da db : DE} {p p1 p2 p3 pos : Pos} (hgd : X.A.guards = some []) (hu : X.A.units + 66 < cLine) (hK : X.K = G.K) (ha : PE X a (rdE G c Wx da)) (hb : PE X b (rdE G c Wx db)) (hg : Gl X "repr") (hm : X.mg "repr" = none)
    (hs : noStar a = true) (hs2 : noStar b = true) : PE X (.Compare (.Call (.Name "repr" p) [a] [] p1) [.Eq] [.Call (.Name "repr" p2) [b] [] p3] pos) (rdE G c Wx (dRepEq da db)) := by
  have h1 := pe_callB (p := p) (pos := p1) (r := rRepr X.K) (call_reprD hgd hu) hg hm (by decide +kernel) (pa_cons ha pa_nil (star_of hs [] X.env)) (by decide) (by decide) (star_of hs [] X.env) rfl
  have h2 := pe_callB (p := p2) (pos := p3) (r := rRepr X.K) (call_reprD hgd hu) hg hm (by decide +kernel) (pa_cons hb pa_nil (star_of hs2 [] X.env)) (by decide) (by decide) (star_of hs2 [] X.env) rfl
  refine (pe_cmpR op_eq h1 h2 (by rfl)).imp fun σ H Q ⟨gh, as, env, s, R, E, h⟩ => ?_
  refine ⟨gh, as, env, s, R, E, (Pst.bind h).imp fun x s1 as1 H1 e1 R1 h1 v1 r1 => ?_⟩
  split at h1
  · rename_i k1
    obtain ⟨a1, a2, a3, a4, a5⟩ := rep_facts k1
    rw [hK]
    refine ⟨v1, toD (seeW s1 x), rfl, dp_see R1 a1 (r1.data (see_data a1)), a2, a3, a4, a5, ?_⟩
    refine ⟨gh, as1, env, s1, R1, E.mono e1, (Pst.bind h1).imp fun y s2 as2 H2 e2 R2 h2 v2 r2 => ?_⟩
    split at h2
    · rename_i k2
      rw [Bool.and_eq_true] at k2
      obtain ⟨b1, b2, b3, b4, b5⟩ := rep_facts k2.1
      refine ⟨v2, toD (seeW s2 y), rfl, dp_see R2 b1 (r2.data (see_data b1)), b2, b3, b4, b5, rfl, ?_⟩
      rw [same_toD _ _ k2.2, decide_eq_true rfl]
      exact h2 as2 H2 (Ext.refl _ _) R2 _ (.d (.bl true))
    · exact h2.elim
  · exact h1.elim
/-! ### methods -/
theorem mk_ty {as : List Addr} {H : Hp} {s : S} (R : Rep G as H s) {k : MK} {x : W} {v : V} (h : isMK s k x = true) (r : RW G as H x v) : tyV G.K (match k with | .lst => "list" | .dct => "dict" | .str => "str") v H := by
  cases k with
  | lst =>
    obtain ⟨l, hl⟩ := Option.isSome_iff_exists.mp (show (listOf s x).isSome = true from h)
    obtain ⟨a, xs, rfl, _, h1⟩ := list_of R hl r
    exact .inl ⟨rfl, xs, .inl h1⟩
  | dct =>
    obtain ⟨l, hl⟩ := Option.isSome_iff_exists.mp (show (pairsOf s x).isSome = true from h)
    obtain ⟨a, es, rfl, h1, _⟩ := pairs_of R hl r
    exact .inr (.inr (.inl ⟨rfl, .inl ⟨es, h1⟩⟩))
  | str =>
    cases x <;> first | cases h | skip
    cases r.data rfl
    rfl
def mkT : MK → String
  | .lst => "list"
  | .dct => "dict"
  | .str => "str"
theorem mk_ty' {as : List Addr} {H : Hp} {s : S} (R : Rep G as H s) {k : MK} {x : W} {v : V} (h : isMK s k x = true) (r : RW G as H x v) : tyV G.K (mkT k) v H := by
  have z := mk_ty R h r
  cases k <;> exact z
/-- a method's rule, told by the interpreter's function -/
def Mt1 (G : GI) (r : V → List V → Hp → VK → Prop) (f : S → W → W → Res W) : Prop :=
  ∀ (as : List Addr) (H : Hp) (s : S) (x y : W) (a b : V) (Y : Value → Option Addr → Hp → Prop) (Q : VK), Rep G as H s → RW G as H x a → RW G as H y b → Pst G as H Y (okE G Q) (f s x y) → r a [b] H Q
def Mt0 (G : GI) (r : V → List V → Hp → VK → Prop) (f : S → W → Res W) : Prop :=
  ∀ (as : List Addr) (H : Hp) (s : S) (x : W) (a : V) (Y : Value → Option Addr → Hp → Prop) (Q : VK), Rep G as H s → RW G as H x a → Pst G as H Y (okE G Q) (f s x) → r a [] H Q
theorem ve_m1 {k : MK} {name : Str} {id : String} {r : V → List V → Hp → VK → Prop} {f : S → W → W → Res W} {o e : Expr} {apos cpos : Pos} {do_ de : DE} (pa : PlainAttrs (mkT k)) (slot : Slot (mkT k) name id) (hty : typeOf (.builtin id) = pure (.type "method_descriptor")) (hm : MtR X id r) (hs : ∀ gh, Mt1 (G.g gh) r f) (hK : X.K = G.K)
    (ho : PE X o (rdE G c Wx do_)) (he : PE X e (rdE G c Wx de)) (hr : plainRecv o = true) (hst : noStar e = true) (hl : (apos.endLine == cpos.line) = true) : PE X (.Call (.Attribute o name apos) [e] [] cpos) (rdE G c Wx (dM2 k f do_ de)) := by
  refine (pe_bm pa slot hty hm ho (pa_cons he pa_nil (star_of hst [] X.env)) (base_of hr _ _ _) (few_args (by simp [hst]) cpos X.env (by simp)) hl (star_of hst [] X.env) rfl).imp fun σ H Q ⟨gh, as, env, s, R, E, h⟩ => ?_
  refine ⟨gh, as, env, s, R, E, (Pst.bind h).imp fun x s1 as1 H1 e1 R1 h1 v1 r1 => ?_⟩
  split at h1
  · rename_i hk
    refine ⟨by rw [hK]; exact mk_ty' (G := G.g gh) R1 hk r1, gh, as1, env, s1, R1, E.mono e1, (Pst.bind h1).imp fun y s2 as2 H2 e2 R2 h2 v2 r2 => ?_⟩
    exact hs gh as2 H2 s2 x y v1 v2 _ Q R2 (r1.mono e2) r2 h2
  · exact h1.elim
theorem ve_m0 {k : MK} {name : Str} {id : String} {r : V → List V → Hp → VK → Prop} {f : S → W → Res W} {o : Expr} {apos cpos : Pos} {do_ : DE} (pa : PlainAttrs (mkT k)) (slot : Slot (mkT k) name id) (hty : typeOf (.builtin id) = pure (.type "method_descriptor")) (hm : MtR X id r) (hs : ∀ gh, Mt0 (G.g gh) r f) (hK : X.K = G.K)
    (ho : PE X o (rdE G c Wx do_)) (hr : plainRecv o = true) (hl : (apos.endLine == cpos.line) = true) : PE X (.Call (.Attribute o name apos) [] [] cpos) (rdE G c Wx (dM1 k f do_)) := by
  refine (pe_bm0 pa slot hty hm ho (base_of hr _ _ _) hl).imp fun σ H Q ⟨gh, as, env, s, R, E, h⟩ => ?_
  refine ⟨gh, as, env, s, R, E, (Pst.bind h).imp fun x s1 as1 H1 e1 R1 h1 v1 r1 => ?_⟩
  split at h1
  · rename_i hk
    exact ⟨by rw [hK]; exact mk_ty' (G := G.g gh) R1 hk r1, hs gh as1 H1 s1 x v1 _ Q R1 r1 h1⟩
  · exact h1.elim
end
end Vi
set_option Elab.async false
set_option linter.all false
set_option maxRecDepth 100000
set_option maxHeartbeats 4000000
/-! Vi9: methods of lists and texts, dict stores. -/
namespace Vi
open PySem PySem.Spec PyProof.Rows L2

theorem belowWs_app (n : Nat) : ∀ (l m : List W), belowWs n (l ++ m) = (belowWs n l && belowWs n m)
  | [], m => rfl
  | x :: l, m => by
    show (belowW n x && belowWs n (l ++ m)) = (belowW n x && belowWs n l && belowWs n m)
    rw [belowWs_app n l m, Bool.and_assoc]
theorem belowWs_all (n : Nat) : ∀ (l : List W), belowWs n l = l.all (belowW n)
  | [] => rfl
  | x :: l => by
    show (belowW n x && belowWs n l) = _
    rw [belowWs_all n l, List.all_cons]
section
variable {X : Cx} {G : GI} {c : Ct} {Wx : WX}
theorem Rep.writeL {as : List Addr} {H : Hp} {s : S} (R : Rep G as H s) {n : Nat} {a : Addr} {l l' : List W} {xs xs' : List V} {w : W} (ha : as[n]? = some a) (hl : s.objs[n]? = some (.lst l)) (hx : H a = some (.lst xs)) (r : RDs G as H l' xs')
    (hb : ∀ k, belowWs k l = true → belowW k w = true → belowWs k l' = true) : Ext as H as (upd H a (.lst xs')) ∧ Rep G as (upd H a (.lst xs')) ((s.held n w).put n (.lst l')) := by
  have e : Ext as H as (upd H a (.lst xs')) := Ext.put (List.mem_of_getElem? ha) hx True.intro
  exact ⟨e, R.write ha ⟨xs', upd_same, RDs.mono e _ _ r⟩ fun k hk hn hw => hb _ (R.cl k hk n _ hn hl) hw⟩
theorem Rep.putL {as : List Addr} {H : Hp} {s : S} (R : Rep G as H s) {n : Nat} {a : Addr} {l l' : List W} {xs xs' : List V} (ha : as[n]? = some a) (hl : s.objs[n]? = some (.lst l)) (hx : H a = some (.lst xs)) (r : RDs G as H l' xs')
    (hb : ∀ k, belowWs k l = true → belowWs k l' = true) : Ext as H as (upd H a (.lst xs')) ∧ Rep G as (upd H a (.lst xs')) (s.put n (.lst l')) := by
  have e : Ext as H as (upd H a (.lst xs')) := Ext.put (List.mem_of_getElem? ha) hx True.intro
  exact ⟨e, R.put ha ⟨xs', upd_same, RDs.mono e _ _ r⟩ fun k hk hn => hb _ (R.cl k hk n _ hn hl)⟩
/-- the object at a place of the state -/
theorem at_lst {as : List Addr} {H : Hp} {s : S} (R : Rep G as H s) {n : Nat} {v : V} {l : List W} (r : RW G as H (.adr n) v) (e : s.objs[n]? = some (.lst l)) : ∃ a xs, v = .ref a ∧ as[n]? = some a ∧ H a = some (.lst xs) ∧ RDs G as H l xs := by
  cases r with
  | d r =>
    cases r with
    | adr h =>
      obtain ⟨xs, h1, h2⟩ := R.ob n _ _ h e
      exact ⟨_, xs, rfl, h, h1, h2⟩
theorem m_append : Mt1 G rAppend mAppend := by
  intro as H s x y a b Y Q R ra rb h
  unfold mAppend at h
  split at h
  · rename_i n
    split at h
    · rename_i l e
      split at h
      · rename_i k
        rw [Bool.and_eq_true, decide_eq_true_eq] at k
        obtain ⟨p, xs, rfl, h1, h2, h3⟩ := at_lst R ra e
        have rd := rb.data k.1
        obtain ⟨e1, R1⟩ := R.writeL (w := y) h1 e h2 (h3.append (.cons rd .nil)) fun k hk hw => by
          rw [belowWs_app, hk]
          show (true && (belowW k y && true)) = true
          rw [hw]
          rfl
        refine ⟨p, xs, b, rfl, rfl, h2, by rw [← h3.length, ← sizeMax_line]; exact k.2, h as _ e1 R1 _ (.d .non)⟩
      · exact h.elim
    · exact h.elim
  · exact h.elim
/-! ### extend by a list or a tuple -/
theorem ext_tupX (l : Addr) (items : Array Value) (n : Nat) (b : Addr) (items2 : Array Value) (n2 : Nat) (dd : Option Addr) (sl : Array (Option Value)) (h0 : ¬(!items.isEmpty && Builtin.List.listTooLong (items.size + items2.size)) = true) (h1 : items.size ≤ sizeLine) (h2 : items.size + items2.size ≤ sizeLine + 1) :
    Meets (Builtin.«list.extend» ⟨[.ref l, .ref b], []⟩) (fun _ R s => s.heap.get? l = some { cls := .type "list", dict := none, data := .seq items n, slots := #[] } ∧ s.heap.get? b = some { cls := .type "tuple", dict := dd, data := .seq items2 n2, slots := sl } ∧ R (.ok (.ret Value.none)) { s with heap := s.heap.update l (Obj.mapSeq fun x => x ++ items2), toks := s.toks }) :=
  .of_wp fun prog w A R s h => by
    obtain ⟨hp, g, d, tk, os⟩ := s
    obtain ⟨hl, hb, h⟩ := h
    have f1 := AutoSeq1.idx_int
    have f2 := AutoSeq1.sub_tuple_tuple
    have f3 := AutoSeq1.sub_list_list
    have f4 := AutoSeq1.sub_tuple_list
    have f5 := AutoSeq1.sub_list_tuple
    have hz' : (items ++ items2).size ≤ sizeLine + 1 := by rw [Array.size_append]; exact h2
    wp_walk using (wpAny_updateSeq hl rfl (hz := h1) (_hz' := hz')), wpAny_loadPart' hl, wpAny_loadPart' hb
    exact ⟨_, rfl, h⟩

def rExt4 (K : PySem.W.Frag) : V → List V → Hp → VK → Prop := fun x vs H Q => ∃ l b xs zs, x = .ref l ∧ vs = [.ref b] ∧ H l = some (.lst xs) ∧ (Rd H b (.lst zs) ∨ SqT K H b zs) ∧ xs.length + zs.length ≤ sizeLine ∧ Q .non (upd H l (.lst (xs ++ zs)))
theorem mt_ext4 : MtR X "list.extend" (rExt4 X.K) := by
  intro pins s σ H x vs v us Q I rx rv h
  obtain ⟨l, b, xs, zs, rfl, rfl, hH, hB, hz, q⟩ := h
  cases rx
  obtain ⟨u, rfl, ru⟩ := rv.one
  cases ru
  obtain ⟨z, its, n, r, hl, e⟩ := I.lstM hH
  have long : ∀ its2 : List Value, its2.length = zs.length → ¬ (!its.toArray.isEmpty && Builtin.List.listTooLong (its.toArray.size + its2.toArray.size)) = true := fun its2 h2 => by
    rw [notLongL (by rw [List.size_toArray, List.size_toArray]; omega), Bool.and_false]
    exact Bool.false_ne_true
  have fin : ∀ (its2 : List Value) (t' : Nat), Vals zs its2 → EP X pins σ Q .none { s with heap := s.heap.update l (Obj.mapSeq fun x => x ++ its2.toArray), toks := t' } := fun its2 t' r2 => by
    refine ⟨.non, _, I.lset (its' := its ++ its2) hH e (by simp) (r.append r2) ?_, rfl, q⟩
    rw [List.length_append]
    omega
  rcases hB with hB | hB
  · obtain ⟨z2, its2, n2, r2, e2⟩ := hB.ok I.hok
    have hl2 := r2.length
    exact call_meets F.slot_list_extend ⟨_, e, rfl⟩ F.entry_list_extend (F.args_list_extend_2 _ _)
      (AutoSeq1.list_extend_list_list_0 l its.toArray n b its2.toArray n2 (long its2 hl2.symm) (by rw [List.size_toArray]; omega) (by rw [List.size_toArray, List.size_toArray]; omega)) ⟨e, e2, fin its2 _ r2⟩
  · obtain ⟨its2, r2, ⟨o, e2, hc, n2, hd⟩, z2⟩ := I.tuple hB
    have hl2 := r2.length
    obtain ⟨oc, od, ot, os⟩ := o
    cases hc
    cases hd
    exact call_meets F.slot_list_extend ⟨_, e, rfl⟩ F.entry_list_extend (F.args_list_extend_2 _ _)
      (ext_tupX l its.toArray n b its2.toArray n2 od os (long its2 hl2.symm) (by rw [List.size_toArray]; omega) (by rw [List.size_toArray, List.size_toArray]; omega)) ⟨e, e2, fin its2 _ r2⟩
theorem m_extend : Mt1 G (rExt4 G.K) mExtend := by
  intro as H s x y a b Y Q R ra rb h
  unfold mExtend at h
  split at h
  · rename_i n
    split at h
    · rename_i l e
      split at h
      · rename_i m em
        split at h
        · rename_i k
          rw [decide_eq_true_eq] at k
          obtain ⟨p, xs, rfl, h1, h2, h3⟩ := at_lst R ra e
          obtain ⟨p2, zs, rfl, r2, h4⟩ := items_of R em rb
          obtain ⟨e1, R1⟩ := R.writeL (w := .lst m) h1 e h2 (h3.append r2) fun k hk hw => by
            rw [belowWs_app, hk]
            exact hw
          refine ⟨p, p2, xs, zs, rfl, rfl, h2, h4.elim (fun z => .inl z.1) (fun z => .inr z.1), by rw [← h3.length, ← r2.length, ← sizeMax_line]; exact k, h as _ e1 R1 _ (.d .non)⟩
        · exact h.elim
      · exact h.elim
    · exact h.elim
  · exact h.elim
theorem below_dropLast (k : Nat) (l : List W) (h : belowWs k l = true) : belowWs k l.dropLast = true := by
  rw [belowWs_all] at h ⊢
  exact List.all_eq_true.mpr fun x hx => List.all_eq_true.mp h x (List.dropLast_subset l hx)
theorem below_erase (k i : Nat) (l : List W) (h : belowWs k l = true) : belowWs k (l.eraseIdx i) = true := by
  rw [belowWs_all] at h ⊢
  exact List.all_eq_true.mpr fun x hx => List.all_eq_true.mp h x (List.mem_of_mem_eraseIdx hx)
theorem RDs.dropLast {as : List Addr} {H : Hp} {ws : List W} {vs : List V} (r : RDs G as H ws vs) : RDs G as H ws.dropLast vs.dropLast := by
  rw [List.dropLast_eq_take, List.dropLast_eq_take, r.length]
  exact RDs.take _ r
theorem RDs.erase {as : List Addr} {H : Hp} : ∀ (i : Nat) {ws : List W} {vs : List V}, RDs G as H ws vs → RDs G as H (ws.eraseIdx i) (vs.eraseIdx i)
  | _, [], _, h => by cases h; exact .nil
  | 0, _ :: _, _, h => by
    cases h with
    | cons h1 h2 => exact h2
  | i + 1, _ :: _, _, h => by
    cases h with
    | cons h1 h2 => exact .cons h1 (RDs.erase i h2)
theorem m_pop : Mt0 G rPop mPop := by
  intro as H s x a Y Q R ra h
  unfold mPop at h
  split at h
  · rename_i n
    split at h
    · rename_i l e
      split at h
      · rename_i y ey
        obtain ⟨p, xs, rfl, h1, h2, h3⟩ := at_lst R ra e
        obtain ⟨e1, R1⟩ := R.putL h1 e h2 h3.dropLast fun k hk => below_dropLast k l hk
        have ey' : l[l.length - 1]? = some y := by rw [← List.getLast?_eq_getElem?]; exact ey
        obtain ⟨v, ev, rv⟩ := h3.get ey'
        rw [h3.length] at ev
        exact ⟨p, xs, v, rfl, rfl, h2, ev, h as _ e1 R1 _ (.d (RD.mono e1 _ _ rv))⟩
      · exact h.elim
    · exact h.elim
  · exact h.elim
def rPopAtN : V → List V → Hp → VK → Prop := fun x vs H Q => ∃ l xs i k y, x = .ref l ∧ vs = [.int i] ∧ H l = some (.lst xs) ∧ ixN xs.length i = some k ∧ xs[k]? = some y ∧ Q y (upd H l (.lst (xs.eraseIdx k)))
theorem mt_popAtN : MtR X "list.pop" rPopAtN := by
  intro pins s σ H x vs v us Q I rx rv h
  obtain ⟨l, xs, i, k, y, rfl, rfl, hH, hk, hy, q⟩ := h
  obtain ⟨z, _⟩ := I.lstM hH
  obtain ⟨h1, h2, h3, h4⟩ := ixN_seq hk
  rw [sizeLine_eq] at z
  exact mt_popAt pins s σ H _ _ v us Q I rx rv ⟨l, xs, i, k, y, rfl, rfl, hH, by omega, by omega, h1, hy, q⟩
theorem m_popAt : Mt1 G rPopAtN mPopAt := by
  intro as H s x y a b Y Q R ra rb h
  unfold mPopAt at h
  split at h
  · rename_i n i
    split at h
    · rename_i l e
      split at h
      · rename_i k hk
        split at h
        · rename_i y ey
          obtain ⟨p, xs, rfl, h1, h2, h3⟩ := at_lst R ra e
          obtain ⟨e1, R1⟩ := R.putL h1 e h2 (h3.erase k) fun j hj => below_erase j k l hj
          obtain ⟨v, ev, rv⟩ := h3.get ey
          cases rb.data rfl
          rw [h3.length] at hk
          exact ⟨p, xs, i, k, v, rfl, rfl, h2, hk, ev, h as _ e1 R1 _ (.d (RD.mono e1 _ _ rv))⟩
        · exact h.elim
      · exact h.elim
    · exact h.elim
  · exact h.elim
/-- a method that writes nothing -/
def rJoin4 (K : PySem.W.Frag) : V → List V → Hp → VK → Prop := fun x xs H Q => ∃ a p, ∃ ys : List Str, x = .str a ∧ xs = [.ref p] ∧ (SqL K H p (ys.map V.str) ∨ SqT K H p (ys.map V.str)) ∧ (ys.map (·.length)).sum + ys.length * a.length ≤ 16777216 ∧ Q (.str (Txt.join a ys)) H
theorem m_join : Mt1 G (rJoin4 G.K) (pureM bJoin) := by
  intro as H s x y a b Y Q R ra rb h
  obtain ⟨z, ez, h⟩ := Pst.opt h
  unfold bJoin at ez
  split at ez
  · rename_i t
    split at ez
    · rename_i l el
      split at ez
      · rename_i ys ey
        split at ez
        · rename_i k
          cases ez
          obtain ⟨p, zs, rfl, r2, h4⟩ := items_of R el rb
          cases ra.data rfl
          have q := strs_of ey r2
          subst q
          exact ⟨t, p, ys, rfl, rfl, h4.elim (fun z => .inl (.inl z.1)) (fun z => .inr z.1), of_decide_eq_true k, h as H (Ext.refl _ _) R _ (.d (.str _))⟩
        · cases ez
      · cases ez
    · cases ez
  · cases ez
end
end Vi
set_option Elab.async false
set_option linter.all false
set_option maxRecDepth 100000
set_option maxHeartbeats 4000000
/-! Vi10: statements. -/
namespace Vi
open PySem PySem.Spec PyProof.Rows L2

section
variable {X : Cx} {G : GI} {c : Ct} {Wx : WX}
theorem Pst.weak {α : Type} {as : List Addr} {H : Hp} {Y Y' : Value → Option Addr → Hp → Prop} {ok : α → S → List Addr → Hp → Prop} (f : ∀ cls dd H', Y cls dd H' → Y' cls dd H') : ∀ {r : Res α}, Pst G as H Y ok r → Pst G as H Y' ok r
  | .ok _ _, h => h
  | .exc _ _, h => fun as' H' cls dd e R q => f _ _ _ (h as' H' cls dd e R q)
  | .bad, h => h
def okS (G : GI) (D : Ends) : Flow → S → List Addr → Hp → Prop
  | .nx env, _, as, H => ∀ σ, EOk G as H env σ → D.nx σ H
  | .rt w, _, as, H => ∀ v, RW G as H w v → D.rt v H
  | .bk env, _, as, H => ∀ σ, EOk G as H env σ → D.bk σ H
  | .ct env, _, as, H => ∀ σ, EOk G as H env σ → D.ct σ H
def anyX (Wx : WX) : Value → Option Addr → Hp → Prop := fun cls dd H => ∀ σ, Wx cls dd σ H
def rdS (G : GI) (c : Ct) (Wx : WX) (d : DS) : TS := fun D σ H => ∃ gh as env s, Rep (G.g gh) as H s ∧ EOk (G.g gh) as H env σ ∧ Pst (G.g gh) as H (anyX Wx) (okS (G.g gh) D) (d c env s)
theorem vs_bad {st : Stmt} : PS X st (rdS G c Wx sBad) := ps_never.imp fun D σ H ⟨gh, as, env, s, R, E, h⟩ => h.elim
theorem vss_bad {st : List Stmt} : PSs X st (rdS G c Wx sBad) := pss_never.imp fun D σ H ⟨gh, as, env, s, R, E, h⟩ => h.elim
theorem vs_pass {pos : Pos} : PS X (.Pass pos) (rdS G c Wx sPass) := ps_pass.imp fun D σ H ⟨gh, as, env, s, R, E, h⟩ => h as H (Ext.refl _ _) R σ E
theorem vs_break {pos : Pos} : PS X (.Break pos) (rdS G c Wx sBrk) := ps_break.imp fun D σ H ⟨gh, as, env, s, R, E, h⟩ => h as H (Ext.refl _ _) R σ E
theorem vs_continue {pos : Pos} : PS X (.Continue pos) (rdS G c Wx sCnt) := ps_continue.imp fun D σ H ⟨gh, as, env, s, R, E, h⟩ => h as H (Ext.refl _ _) R σ E
theorem vss_nil : PSs X [] (rdS G c Wx sPass) := pss_nil.imp fun D σ H ⟨gh, as, env, s, R, E, h⟩ => h as H (Ext.refl _ _) R σ E
theorem vss_cons {st : Stmt} {rest : List Stmt} {d1 d2 : DS} (h1 : PS X st (rdS G c Wx d1)) (h2 : PSs X rest (rdS G c Wx d2)) : PSs X (st :: rest) (rdS G c Wx (sSeq d1 d2)) := by
  refine (pss_cons h1 h2).imp fun D σ H ⟨gh, as, env, s, R, E, h⟩ => ⟨gh, as, env, s, R, E, (Pst.bind h).imp fun f s1 as1 H1 e1 R1 h1 => ?_⟩
  cases f with
  | nx env' => exact fun σ' E' => ⟨gh, as1, env', s1, R1, E', h1⟩
  | rt w => exact h1 as1 H1 (Ext.refl _ _) R1
  | bk env' => exact h1 as1 H1 (Ext.refl _ _) R1
  | ct env' => exact h1 as1 H1 (Ext.refl _ _) R1
/-- from the whole statement's exceptions to an expression's -/
theorem rdE_in {as : List Addr} {H : Hp} {gh : List Addr} {σ : L2.St} {α : Type} {ok : α → S → List Addr → Hp → Prop} {r : Res α} (h : Pst (G.g gh) as H (anyX Wx) ok r) : Pst (G.g gh) as H (fun cls dd H' => Wx cls dd σ H') ok r := Pst.weak (fun _ _ _ q => q σ) h
theorem vs_expr {e : Expr} {pos : Pos} {d : DE} (he : PE X e (rdE G c Wx d)) (hs : swapsWith e none pos.line X.env = pure false) : PS X (.Expr e pos) (rdS G c Wx (sExpr d)) := by
  refine (ps_expr he hs).imp fun D σ H ⟨gh, as, env, s, R, E, h⟩ => ⟨gh, as, env, s, R, E, rdE_in ((Pst.bind h).imp fun x s1 as1 H1 e1 R1 h1 v1 r1 => ?_)⟩
  exact h1 as1 H1 (Ext.refl _ _) R1 σ (E.mono e1)
theorem vs_ret {e : Expr} {pos : Pos} {d : DE} (he : PE X e (rdE G c Wx d)) : PS X (.Return (some e) pos) (rdS G c Wx (sRet d)) := by
  refine (ps_ret he).imp fun D σ H ⟨gh, as, env, s, R, E, h⟩ => ⟨gh, as, env, s, R, E, rdE_in ((Pst.bind h).imp fun x s1 as1 H1 e1 R1 h1 v1 r1 => ?_)⟩
  exact h1 as1 H1 (Ext.refl _ _) R1 v1 r1
theorem vs_retN {pos : Pos} : PS X (.Return none pos) (rdS G c Wx sRetN) := ps_retN.imp fun D σ H ⟨gh, as, env, s, R, E, h⟩ => h as H (Ext.refl _ _) R _ (.d .non)
theorem vs_if {t : Expr} {a b : List Stmt} {pos : Pos} {dt : DT} {da db : DS} (ht : PT X t (rdT G c Wx dt)) (ha : PSs X a (rdS G c Wx da)) (hb : PSs X b (rdS G c Wx db)) : PS X (.If t a b pos) (rdS G c Wx (sIf dt da db)) := by
  refine (ps_if ht ha hb).imp fun D σ H ⟨gh, as, env, s, R, E, h⟩ => ⟨gh, as, env, s, R, E, rdE_in ((Pst.bind h).imp fun k s1 as1 H1 e1 R1 h1 => ?_)⟩
  show if k = true then _ else _
  cases k with
  | true =>
    rw [if_pos rfl] at h1 ⊢
    exact ⟨gh, as1, env, s1, R1, E.mono e1, h1⟩
  | false =>
    rw [if_neg (by decide)] at h1 ⊢
    exact ⟨gh, as1, env, s1, R1, E.mono e1, h1⟩
/-! ### targets -/
def sameBut (is : List Nat) (σ σ' : L2.St) : Prop := σ'.length = σ.length ∧ ∀ j, j ∉ is → σ'[j]? = σ[j]?
theorem sameBut.refl {is : List Nat} {σ : L2.St} : sameBut is σ σ := ⟨rfl, fun _ _ => rfl⟩
theorem sameBut.trans {is : List Nat} {σ σ' σ'' : L2.St} (h : sameBut is σ σ') (k : sameBut is σ' σ'') : sameBut is σ σ'' := ⟨k.1.trans h.1, fun j hj => (k.2 j hj).trans (h.2 j hj)⟩
def rdG (G : GI) (is : List Nat) (dg : DG) : TG := fun v σ H Q => ∃ gh as env s w env', Rep (G.g gh) as H s ∧ EOk (G.g gh) as H env σ ∧ RW (G.g gh) as H w v ∧ dg w env s = some env' ∧ ∀ σ', EOk (G.g gh) as H env' σ' → sameBut is σ σ' → Q σ' H
def rdGs (G : GI) (is : List Nat) (dg : List W → Env → S → Option Env) : TGs := fun vs σ H Q => ∃ gh as env s ws env', Rep (G.g gh) as H s ∧ EOk (G.g gh) as H env σ ∧ RDs (G.g gh) as H ws vs ∧ dg ws env s = some env' ∧ ∀ σ', EOk (G.g gh) as H env' σ' → sameBut is σ σ' → Q σ' H
theorem _root_.L2.PG.imp {X : Cx} {e : Expr} {t t' : TG} (h : PG X e t) (f : ∀ v σ H Q, t' v σ H Q → t v σ H Q) : PG X e t' := ⟨fun pins s σ H v u Q I r q => h.run pins s σ H v u Q I r (f v σ H Q q)⟩
theorem _root_.L2.PGs.imp {X : Cx} {e : List Expr} {t t' : TGs} (h : PGs X e t) (f : ∀ v σ H Q, t' v σ H Q → t v σ H Q) : PGs X e t' := ⟨fun pins s σ H v u Q I r q => h.run pins s σ H v u Q I r (f v σ H Q q)⟩
theorem vg_name {is : List Nat} {i : Nat} {x : Str} {pos : Pos} (hN : X.N.Nodup) (hi : X.N[i]? = some x) (hx : Loc X.env.scope x) (hf : X.fn x = true ∨ X.env.scope.names.lookup x = some .local) (him : i ∈ is) : PG X (.Name x pos) (rdG G is (dgName i)) := by
  refine (pg_name hN hi hx hf).imp fun v σ H Q ⟨gh, as, env, s, w, env', R, E, r, e, h⟩ => ?_
  cases e
  refine h _ (E.set r i) ⟨by simp, fun j hj => ?_⟩
  rw [List.getElem?_set_ne (fun z : i = j => hj (by rw [← z]; exact him))]
theorem vgs_nil {is : List Nat} : PGs X [] (rdGs G is dgNil) := by
  refine pgs_nil.imp fun vs σ H Q ⟨gh, as, env, s, ws, env', R, E, r, e, h⟩ => ?_
  cases ws with
  | nil =>
    cases e
    cases r
    exact ⟨rfl, h σ E sameBut.refl⟩
  | cons => cases e
theorem each_of {e : Expr} (h : noStar e = true) (es : List Expr) (env : PySem.Env) : assignEach (e :: es) env = (false, assign e env) :: assignEach es env := by
  cases e <;> first | rfl | cases h
theorem each_plain {env : PySem.Env} : ∀ {es : List Expr}, es.all noStar = true → (assignEach es env).length = es.length ∧ (assignEach es env).findIdx? (·.1) = none
  | [], _ => ⟨rfl, rfl⟩
  | e :: es, h => by
    rw [List.all_cons, Bool.and_eq_true] at h
    obtain ⟨h1, h2⟩ := each_plain (env := env) h.2
    rw [each_of h.1]
    refine ⟨by rw [List.length_cons, List.length_cons, h1], ?_⟩
    rw [List.findIdx?_cons, h2]
    rfl
theorem vgs_cons {is : List Nat} {t : Expr} {ts : List Expr} {g : DG} {r : List W → Env → S → Option Env} (hg : PG X t (rdG G is g)) (hr : PGs X ts (rdGs G is r)) (hs : noStar t = true) : PGs X (t :: ts) (rdGs G is (dgCons g r)) := by
  have h1 := pgs_cons hg hr (by rw [each_of hs]; rfl)
  refine h1.imp fun vs σ H Q ⟨gh, as, env, s, ws, env', R, E, rv, e, h⟩ => ?_
  cases ws with
  | nil => cases e
  | cons w ws =>
    cases rv with
    | cons r1 r2 =>
      unfold dgCons at e
      dsimp only at e
      split at e
      · rename_i env1 e1
        refine ⟨_, _, rfl, gh, as, env, s, w, env1, R, E, .d r1, e1, fun σ1 E1 k1 => ⟨gh, as, env1, s, ws, env', R, E1, r2, e, fun σ2 E2 k2 => h σ2 E2 (k1.trans k2)⟩⟩
      · cases e
theorem vg_tup {is : List Nat} {es : List Expr} {k : Nat} {pos : Pos} {n : Nat} {r : List W → Env → S → Option Env} (hK : X.K = G.K) (hc : X.calm = true) (h : PGs X es (rdGs G is r)) (hn : es.length = n) (hst : es.all noStar = true) : PG X (.Tuple es k pos) (rdG G is (dgTup n r)) := by
  refine (pg_tup hc h ((each_plain hst).1.trans hn) (each_plain hst).2).imp fun v σ H Q ⟨gh, as, env, s, w, env', R, E, rv, e, q⟩ => ?_
  unfold dgTup at e
  split at e
  · rename_i l
    split at e
    · rename_i el
      obtain ⟨a, xs, rfl, h1, h2⟩ := (rv.data rfl).tupT
      exact ⟨a, xs, rfl, by rw [hK]; exact h1, by rw [← h2.length]; exact el, gh, as, env, s, l, env', R, E, h2, e, q⟩
    · cases e
  · cases e
/-! ### assignments -/
theorem vs_asg {is : List Nat} {tg e : Expr} {pos : Pos} {d : DE} {g : DG} (he : PE X e (rdE G c Wx d)) (hg : PG X tg (rdG G is g)) (hs : swapsWithSole [tg] e pos.line X.env = pure false) (hw : swappedStores [tg] e X.env = pure none)
    (h1 : (assignEach [tg] X.env).map (·.2) = [assign tg X.env]) : PS X (.Assign [tg] e pos) (rdS G c Wx (sSet d g)) := by
  refine (ps_asg he hg hs hw h1).imp fun D σ H ⟨gh, as, env, s, R, E, h⟩ => ⟨gh, as, env, s, R, E, rdE_in ((Pst.bind h).imp fun x s1 as1 H1 e1 R1 h1 v1 r1 => ?_)⟩
  split at h1
  · rename_i env' eg
    exact ⟨gh, as1, env, s1, x, env', R1, E.mono e1, r1, eg, fun σ' E' _ => h1 as1 H1 (Ext.refl _ _) R1 σ' E'⟩
  · exact h1.elim
theorem vs_par {i j : Nat} {x y : Str} {a b : Expr} {d : DA} {px py pt pos : Pos} {kt k2 pt2} (hc : X.calm = true) (hN : X.N.Nodup) (hi : X.N[i]? = some x) (hj : X.N[j]? = some y) (hij : i ≠ j)
    (hx : X.env.scope.names.lookup x = some .local) (hy : X.env.scope.names.lookup y = some .local) (ha : PA X [a, b] (rdA G c Wx d))
    (hw : swappedStores [.Tuple [.Name x px, .Name y py] kt pt] (.Tuple [a, b] k2 pt2) X.env = pure (some [x, y]))
    (hs : swapsWithSole [.Tuple [.Name x px, .Name y py] kt pt] (.Tuple [a, b] k2 pt2) pos.line X.env = pure false) (hl : [a, b].length = 2) :
    PS X (.Assign [.Tuple [.Name x px, .Name y py] kt pt] (.Tuple [a, b] k2 pt2) pos) (rdS G c Wx (sPar [i, j] d)) := by
  refine (ps_par hc hN hi hj hij hx hy ha hw hs).imp fun D σ H ⟨gh, as, env, s, R, E, h⟩ => ⟨gh, as, env, s, R, E, rdE_in ((Pst.bind h).imp fun l s1 as1 H1 e1 R1 h1 vs r1 => ?_)⟩
  split at h1
  · rename_i el
    cases r1 with
    | nil => cases el
    | cons r1 r2 =>
      cases r2 with
      | nil => cases el
      | cons r2 r3 =>
        cases r3 with
        | nil => exact ⟨_, _, rfl, h1 as1 H1 (Ext.refl _ _) R1 _ (((E.mono e1).set r1 i).set r2 j)⟩
        | cons => simp at el
  · exact h1.elim
theorem vs_par3 {i j k : Nat} {x y z : Str} {a b e : Expr} {d : DA} {px py pz pt pos : Pos} {kt k2 pt2} (hc : X.calm = true) (hN : X.N.Nodup) (hi : X.N[i]? = some x) (hj : X.N[j]? = some y) (hk : X.N[k]? = some z) (hij : i ≠ j) (hik : i ≠ k) (hjk : j ≠ k)
    (hx : X.env.scope.names.lookup x = some .local) (hy : X.env.scope.names.lookup y = some .local) (hz : X.env.scope.names.lookup z = some .local) (ha : PA X [a, b, e] (rdA G c Wx d))
    (hw : swappedStores [.Tuple [.Name x px, .Name y py, .Name z pz] kt pt] (.Tuple [a, b, e] k2 pt2) X.env = pure (some [x, y, z]))
    (hs : swapsWithSole [.Tuple [.Name x px, .Name y py, .Name z pz] kt pt] (.Tuple [a, b, e] k2 pt2) pos.line X.env = pure false) :
    PS X (.Assign [.Tuple [.Name x px, .Name y py, .Name z pz] kt pt] (.Tuple [a, b, e] k2 pt2) pos) (rdS G c Wx (sPar [i, j, k] d)) := by
  refine (ps_par3 hc hN hi hj hk hij hik hjk hx hy hz ha hw hs).imp fun D σ H ⟨gh, as, env, s, R, E, h⟩ => ⟨gh, as, env, s, R, E, rdE_in ((Pst.bind h).imp fun l s1 as1 H1 e1 R1 h1 vs r1 => ?_)⟩
  split at h1
  · rename_i el
    cases r1 with
    | nil => cases el
    | cons r1 r2 =>
      cases r2 with
      | nil => cases el
      | cons r2 r3 =>
        cases r3 with
        | nil => cases el
        | cons r3 r4 =>
          cases r4 with
          | nil => exact ⟨_, _, _, rfl, h1 as1 H1 (Ext.refl _ _) R1 _ ((((E.mono e1).set r1 i).set r2 j).set r3 k)⟩
          | cons => simp at el
  · exact h1.elim
/-! ### while -/
theorem vs_while {t : Expr} {body : List Stmt} {pos : Pos} {dt : DT} {db : DS} (hp : PassesOwn (model X.prog X.w) X.A X.env X.xe) (ht : PT X t (rdT G c Wx dt)) (hb : PSs X body (rdS G c Wx db)) : PS X (.While t body [] pos) (rdS G c Wx (sWhile dt db)) := by
  refine (ps_while hp ht hb).imp fun D σ H ⟨gh, as, env, s, R, E, h⟩ => ?_
  refine ⟨fun m σ H => ∃ as env s, Rep (G.g gh) as H s ∧ EOk (G.g gh) as H env σ ∧ Pst (G.g gh) as H (anyX Wx) (okS (G.g gh) D) (whileLoop dt db c m env s), ⟨c.fuel, as, env, s, R, E, h⟩, fun m σ H ⟨as, env, s, R, E, h⟩ => ?_⟩
  cases m with
  | zero => exact h.elim
  | succ m =>
    refine ⟨gh, as, env, s, R, E, rdE_in ((Pst.bind h).imp fun k s1 as1 H1 e1 R1 h1 => ?_)⟩
    show if k = true then _ else _
    cases k with
    | false =>
      rw [if_neg (by decide)] at h1 ⊢
      exact h1 as1 H1 (Ext.refl _ _) R1 σ (E.mono e1)
    | true =>
      rw [if_pos rfl] at h1 ⊢
      refine ⟨fun σ' H' => ∃ as env s, Rep (G.g gh) as H' s ∧ EOk (G.g gh) as H' env σ' ∧ Pst (G.g gh) as H' (anyX Wx) (okS (G.g gh) D) (whileLoop dt db c m env s), fun σ' H' w => ⟨m, Nat.lt_succ_self m, w⟩, gh, as1, env, s1, R1, E.mono e1, (Pst.bind h1).imp fun f s2 as2 H2 e2 R2 h2 => ?_⟩
      cases f with
      | nx env' => exact fun σ' E' => ⟨as2, env', s2, R2, E', h2⟩
      | ct env' => exact fun σ' E' => ⟨as2, env', s2, R2, E', h2⟩
      | bk env' => exact h2 as2 H2 (Ext.refl _ _) R2
      | rt w => exact h2 as2 H2 (Ext.refl _ _) R2
end
end Vi
set_option Elab.async false
set_option linter.all false
set_option maxRecDepth 100000
set_option maxHeartbeats 4000000
/-! Vi11: what a for walks; for; comprehensions. -/
namespace Vi
open PySem PySem.Spec PyProof.Rows L2

/-! ### more and fewer lists under construction -/
mutual
theorem RD.swap2 {G : GI} {gh gh' as as' : List Addr} {H : Hp} (p : as <+: as') (f : ∀ a o, H a = some o → a ∉ as ∧ a ∉ gh → a ∉ as' ∧ a ∉ gh') : ∀ (w : W) (v : V), RD (G.g gh) as H w v → RD (G.g gh') as' H w v
  | .non, _, h => by cases h; exact .non
  | .bl b, _, h => by cases h; exact .bl b
  | .int b, _, h => by cases h; exact .int b
  | .str b, _, h => by cases h; exact .str b
  | .tup ws, _, h => by
    cases h with
    | tup h1 h2 => exact .tup h1 (RDs.swap2 p f ws _ h2)
  | .lst ws, _, h => by
    cases h with
    | lst h1 h2 h3 => exact .lst h1 (h1.elim (fun z => f _ _ z h2) fun ⟨_, z⟩ => f _ _ z h2) (RDs.swap2 p f ws _ h3)
  | .dct ws, _, h => by
    cases h with
    | dct h1 h2 h3 => exact .dct h1 (f _ _ h1 h2) (RDk.swap2 p f ws _ h3)
  | .rc c ws, _, h => by
    cases h with
    | rc h0 h1 h2 h3 h4 => exact .rc h0 h1 (f _ _ h1 h2) h3 (RDs.swap2 p f ws _ h4)
  | .adr n, _, h => by
    cases h with
    | adr h0 =>
      obtain ⟨r, q⟩ := p
      exact .adr (by rw [← q, List.getElem?_append_left (List.getElem?_eq_some_iff.mp h0).1]; exact h0)
  | .fn g, _, h => by
    cases h with
    | fn h0 => exact .fn h0
  | .clo _ _, _, h => by cases h
  | .exc c ws, _, h => by
    cases h with
    | exc h0 h1 h2 h3 h4 => exact .exc h0 h1 h2 h3 (RDs.swap2 p f ws _ h4)
theorem RDs.swap2 {G : GI} {gh gh' as as' : List Addr} {H : Hp} (p : as <+: as') (f : ∀ a o, H a = some o → a ∉ as ∧ a ∉ gh → a ∉ as' ∧ a ∉ gh') : ∀ (ws : List W) (vs : List V), RDs (G.g gh) as H ws vs → RDs (G.g gh') as' H ws vs
  | [], _, h => by cases h; exact .nil
  | w :: ws, _, h => by
    cases h with
    | cons h1 h2 => exact .cons (RD.swap2 p f w _ h1) (RDs.swap2 p f ws _ h2)
theorem RDk.swap2 {G : GI} {gh gh' as as' : List Addr} {H : Hp} (p : as <+: as') (f : ∀ a o, H a = some o → a ∉ as ∧ a ∉ gh → a ∉ as' ∧ a ∉ gh') : ∀ (ws : List (W × W)) (vs : List (Key × V)), RDk (G.g gh) as H ws vs → RDk (G.g gh') as' H ws vs
  | [], _, h => by cases h; exact .nil
  | (k, w) :: ws, _, h => by
    cases h with
    | cons h0 h1 h2 => exact .cons (RD.swap2 p f k _ h0) (RD.swap2 p f w _ h1) (RDk.swap2 p f ws _ h2)
end
theorem RW.swap2 {G : GI} {gh gh' as as' : List Addr} {H : Hp} {w : W} {v : V} (p : as <+: as') (h : RW (G.g gh) as H w v) : (∀ a o, H a = some o → a ∉ as ∧ a ∉ gh → a ∉ as' ∧ a ∉ gh') → RW (G.g gh') as' H w v := by
  induction h with
  | d h => exact fun f => .d (RD.swap2 p f _ _ h)
  | clo ca oc u v h1 h2 h3 h4 h7 h5 h6 ih =>
    intro f
    refine .clo ca oc u v h1 h2 h3 h4 h7 h5 fun i w hw => ih i w hw fun a o q => ?_
    unfold hideC at q
    split at q
    · cases q
    · exact f a o q
theorem ROk.swap2 {G : GI} {gh gh' as as' : List Addr} {H : Hp} (p : as <+: as') (f : ∀ a o, H a = some o → a ∉ as ∧ a ∉ gh → a ∉ as' ∧ a ∉ gh') {a : Addr} : ∀ {o : O}, ROk (G.g gh) as H a o → ROk (G.g gh') as' H a o
  | .lst _, ⟨xs, h1, h2⟩ => ⟨xs, h1, RDs.swap2 p f _ _ h2⟩
  | .dct _, ⟨xs, h1, h2⟩ => ⟨xs, h1, RDk.swap2 p f _ _ h2⟩
  | .ins _ _, ⟨C, dx, fs, h0, h1, h2, h3, h4, h5⟩ => ⟨C, dx, fs, h0, h1, h2, h3, fun i g w a b => by
      obtain ⟨v, q, r⟩ := h4 i g w a b
      exact ⟨v, q, RD.swap2 p f _ _ r⟩, h5⟩
theorem f_of {H : Hp} {gh gh' as : List Addr} (f : ∀ a o, H a = some o → a ∉ gh → a ∉ gh') : ∀ a o, H a = some o → a ∉ as ∧ a ∉ gh → a ∉ as ∧ a ∉ gh' := fun a o h n => ⟨n.1, f a o h n.2⟩
theorem RD.swap {G : GI} {gh gh' as : List Addr} {H : Hp} (f : ∀ a o, H a = some o → a ∉ gh → a ∉ gh') (w : W) (v : V) (h : RD (G.g gh) as H w v) : RD (G.g gh') as H w v := RD.swap2 (List.prefix_refl _) (f_of f) w v h
theorem RDs.swap {G : GI} {gh gh' as : List Addr} {H : Hp} (f : ∀ a o, H a = some o → a ∉ gh → a ∉ gh') (w : List W) (v : List V) (h : RDs (G.g gh) as H w v) : RDs (G.g gh') as H w v := RDs.swap2 (List.prefix_refl _) (f_of f) w v h
theorem RW.swap {G : GI} {gh gh' as : List Addr} {H : Hp} {w : W} {v : V} (h : RW (G.g gh) as H w v) (f : ∀ a o, H a = some o → a ∉ gh → a ∉ gh') : RW (G.g gh') as H w v := RW.swap2 (List.prefix_refl _) h (f_of f)
theorem ROk.swap {G : GI} {gh gh' as : List Addr} {H : Hp} (f : ∀ a o, H a = some o → a ∉ gh → a ∉ gh') {a : Addr} {o : O} (h : ROk (G.g gh) as H a o) : ROk (G.g gh') as H a o := ROk.swap2 (List.prefix_refl _) (f_of f) h
theorem EOk.swap {G : GI} {gh gh' : List Addr} {as : List Addr} {H : Hp} (f : ∀ a o, H a = some o → a ∉ gh → a ∉ gh') {env : Env} {σ : L2.St} (h : EOk (G.g gh) as H env σ) : EOk (G.g gh') as H env σ := ⟨h.len, fun i w q => by
  obtain ⟨v, a, b⟩ := h.at_ i w q
  exact ⟨v, a, b.swap f⟩⟩
theorem EOk.wipe {G : GI} {as : List Addr} {H : Hp} {env : Env} {σ : L2.St} (h : EOk G as H env σ) : ∀ vs : List Nat, EOk G as H (wipeE env vs) (L2.wipe σ vs)
  | [] => h
  | v :: vs => (EOk.wipe h vs).gone v none
theorem more_f {H : Hp} {gh D : List Addr} (hD : ∀ d ∈ D, H d = none) : ∀ a o, H a = some o → a ∉ gh → a ∉ D ++ gh := fun a o q n z => by
  rcases List.mem_append.mp z with z | z
  · rw [hD a z] at q
    cases q
  · exact n z
section
variable {X : Cx} {G : GI} {c : Ct} {Wx : WX}
/-- the iterator J at place i of the items l -/
def ItAt (G : GI) (J : It) (l : List W) (i : Nat) (as : List Addr) (H : Hp) (s : S) : Prop :=
  (∀ x, l[i]? = some x → J.go i H ∧ ∀ v H', J.yld i H v H' → Ext as H as H' ∧ Rep G as H' s ∧ RD G as H' x v) ∧ (l[i]? = none → J.stop i H)
/-- an iterator that was made at H; D: lists that are being built since -/
def Walk (G : GI) (J : It) (as : List Addr) (H : Hp) (l : List W ⊕ Nat) : Prop := ∀ D : List Addr, (∀ d ∈ D, H d = none) → ∀ as' H' s, Ext as H as' H' → Rep (G.g (D ++ G.gh)) as' H' s →
  match l with
  | .inl l => ∀ i, ItAt (G.g (D ++ G.gh)) J l i as' H' s
  | .inr n => ∀ l, s.objs[n]? = some (.lst l) → ∀ i, ItAt (G.g (D ++ G.gh)) J l i as' H' s
def okI (G : GI) (R : It → Hp → Prop) : (List W ⊕ Nat) → S → List Addr → Hp → Prop := fun l s as H => ∀ J, Walk G J as H l → R J H
def rdI (G : GI) (c : Ct) (Wx : WX) (d : DI) : TI := fun σ H R => ∃ gh as env s, Rep (G.g gh) as H s ∧ EOk (G.g gh) as H env σ ∧ Pst (G.g gh) as H (fun cls dd H' => Wx cls dd σ H') (okI (G.g gh) R) (d c env s)
theorem _root_.L2.PI.imp {X : Cx} {tg e : Expr} {t t' : TI} (h : PI X tg e t) (f : ∀ σ H R, t' σ H R → t σ H R) : PI X tg e t' := ⟨fun pins s σ H R I q => h.run pins s σ H R I (f σ H R q)⟩
theorem vi_bad {tg e : Expr} : PI X tg e (rdI G c Wx diBad) := ⟨fun pins s σ H R I ⟨gh, as, env, s', R', E, h⟩ => h.elim⟩
/-! ### a list or a tuple -/
theorem RDs.none {as : List Addr} {H : Hp} {ws : List W} {vs : List V} {i : Nat} (r : RDs G as H ws vs) (h : ws[i]? = none) : vs.length ≤ i := by
  rw [← r.length]
  exact List.getElem?_eq_none_iff.mp h
theorem at_list {as : List Addr} {H : Hp} {s : S} {a : Addr} {ws : List W} {xs : List V} {i : Nat} (R : Rep G as H s) (r : RDs G as H ws xs) (h : Rd H a (.lst xs)) : ItAt G (Itl G.K a) ws i as H s := by
  have inj : ∀ ys, SqL G.K H a ys → True := fun _ _ => True.intro
  refine ⟨fun x hx => ?_, fun hx => ⟨xs, .inl h, r.none hx⟩⟩
  obtain ⟨v, ev, rv⟩ := r.get hx
  refine ⟨⟨xs, v, .inl h, ev⟩, fun v' H' ⟨e, q⟩ => ?_⟩
  subst e
  have e := q xs (.inl h)
  rw [ev] at e
  cases e
  exact ⟨Ext.refl _ _, R, rv⟩
theorem at_tup {as : List Addr} {H : Hp} {s : S} {a : Addr} {ws : List W} {xs : List V} {i : Nat} (R : Rep G as H s) (r : RDs G as H ws xs) (h : SqT G.K H a xs) : ItAt G (Itt G.K a) ws i as H s := by
  refine ⟨fun x hx => ?_, fun hx => ⟨xs, h, r.none hx⟩⟩
  obtain ⟨v, ev, rv⟩ := r.get hx
  refine ⟨⟨xs, v, h, ev⟩, fun v' H' ⟨e, q⟩ => ?_⟩
  subst e
  have e := q xs h
  rw [ev] at e
  cases e
  exact ⟨Ext.refl _ _, R, rv⟩
def iSeq (K : PySem.W.Frag) (tl : TE) : TI := fun σ H R => tl σ H fun x H1 => (∃ a, x = .ref a ∧ (((∃ xs, SqL K H1 a xs) ∧ R (Itl K a) H1) ∨ ((∃ xs, SqT K H1 a xs) ∧ R (Itt K a) H1))) ∨ ∃ z, x = .str z ∧ R (L2.Its z) H1
theorem pi_seq {tg l : Expr} {tl : TE} (hl : PE X l tl) : PI X tg l (iSeq X.K tl) := by
  refine ⟨fun pins s σ H R I h => thn (hl.run pins s σ H _ I h) fun v s1 ⟨x, H1, I1, r1, q⟩ => ?_⟩
  rcases q with ⟨a, e, q⟩ | ⟨z, e, q⟩
  rotate_left
  · subst e
    obtain ⟨t, rfl⟩ := r1
    cases low : z.cps.all (· < 128)
    · exact wpAny_pyIter_wide low (pi_one (tk := s1.toks) I1 _ (turn_str _ z t "str_iterator" (.inr rfl)) ⟨_, Heap.get?_push_size _ rfl, rfl, rfl⟩ q)
    · exact wpAny_pyIter_ascii low (pi_one (tk := s1.toks) I1 _ (turn_str _ z t "str_ascii_iterator" (.inl rfl)) ⟨_, Heap.get?_push_size _ rfl, rfl, rfl⟩ q)
  subst e
  cases r1
  have one : FpOk X pins H1 s1.heap.objs.size := I1.fpOk (Nat.le_refl _) (I1.hok.fresh (Nat.le_refl _))
  have all : ∀ b ∈ [s1.heap.objs.size], FpOk X pins H1 b := fun b hb => by
    rw [List.mem_singleton.mp hb]
    exact one
  rcases q with ⟨⟨xs, hq⟩, q⟩ | ⟨⟨xs, hq⟩, q⟩
  · obtain ⟨its, rv, p, hz⟩ := I1.list hq
    exact wpAny_pyIter_list p.isList ⟨_, [_], _, _, H1, rfl, I1.kept (t' := s1.toks) fun b o e => Heap.get?_push_of_some _ e, turn_list a _, ⟨_, Heap.get?_push_size _ rfl, rfl, rfl⟩, all, q⟩
  · obtain ⟨its, rv, p, hz⟩ := I1.tuple hq
    exact wpAny_pyIter_tuple (show s1.heap.IsTuple a its.toArray from p) ⟨_, [_], _, _, H1, rfl, I1.kept (t' := s1.toks) fun b o e => Heap.get?_push_of_some _ e, turn_tuple a _, ⟨_, Heap.get?_push_size _ rfl, rfl, rfl⟩, all, q⟩
theorem walk_list {as : List Addr} {H : Hp} {a : Addr} {ws : List W} {xs : List V} (r : RD G as H (.lst ws) (.ref a)) : Walk G (Itl G.K a) as H (.inl ws) := fun D hD as' H' s e R i => by
  have r' : RD (G.g (D ++ G.gh)) as' H' (.lst ws) (.ref a) := RD.mono e _ _ (RD.swap (G := G) (gh := G.gh) (more_f hD) _ _ r)
  cases r' with
  | lst h1 h2 h3 => exact at_list R h3 h1
theorem walk_tup {as : List Addr} {H : Hp} {a : Addr} {ws : List W} {xs : List V} (r : RD G as H (.tup ws) (.ref a)) : Walk G (Itt G.K a) as H (.inl ws) := fun D hD as' H' s e R i => by
  have r' : RD (G.g (D ++ G.gh)) as' H' (.tup ws) (.ref a) := RD.mono e _ _ (RD.swap (G := G) (gh := G.gh) (more_f hD) _ _ r)
  cases r' with
  | tup h1 h2 => exact at_tup (G := G.g (D ++ G.gh)) R h2 h1
theorem walk_adr {as : List Addr} {H : Hp} {a : Addr} {n : Nat} (h : as[n]? = some a) : Walk G (Itl G.K a) as H (.inr n) := fun D hD as' H' s e R l hl i => by
  have h' : RD (G.g (D ++ G.gh)) as' H' (.adr n) (.ref a) := RD.mono e _ _ (.adr h)
  cases h' with
  | adr h' =>
    obtain ⟨xs, h1, h2⟩ := R.ob n a _ h' hl
    exact at_list R h2 (.inl h1)
/-! ### texts, ranges -/
theorem at_same {as : List Addr} {H : Hp} {s : S} {J : It} {l : List W} {i : Nat} (R : Rep G as H s) (h : ∀ x, l[i]? = some x → J.go i H ∧ ∀ v H', J.yld i H v H' → H' = H ∧ RD G as H x v) (k : l[i]? = none → J.stop i H) : ItAt G J l i as H s :=
  ⟨fun x hx => ⟨(h x hx).1, fun v H' y => by
    obtain ⟨e, r⟩ := (h x hx).2 v H' y
    subst e
    exact ⟨Ext.refl _ _, R, r⟩⟩, k⟩
theorem signs_at (x : Str) (i : Nat) : (signs x)[i]? = (x.cps[i]?).map fun c => W.str ⟨#[c]⟩ := by
  unfold signs
  rw [List.getElem?_map, Array.getElem?_toList]
theorem walk_str {as : List Addr} {H : Hp} (x : Str) : Walk G (L2.Its x) as H (.inl (signs x)) := fun D hD as' H' s e R i => by
  refine at_same R (fun w hw => ?_) fun hw => ?_
  · rw [signs_at] at hw
    obtain ⟨cc, hc, rfl⟩ := Option.map_eq_some_iff.mp hw
    refine ⟨(Array.getElem?_eq_some_iff.mp hc).1, fun v H' ⟨e, c', hc', ev⟩ => ⟨e, ?_⟩⟩
    rw [hc] at hc'
    cases hc'
    subst ev
    exact .str _
  · rw [signs_at] at hw
    cases q : x.cps[i]? with
    | none => exact Array.getElem?_eq_none_iff.mp q
    | some cc =>
      rw [q] at hw
      cases hw
theorem vi_e {tg e : Expr} {d : DE} (hK : X.K = G.K) (he : PE X e (rdE G c Wx d)) : PI X tg e (rdI G c Wx (diE d)) := by
  refine (pi_seq he).imp fun σ H Q ⟨gh, as, env, s, R, E, h⟩ => ⟨gh, as, env, s, R, E, (Pst.bind h).imp fun x s1 as1 H1 e1 R1 h1 v1 r1 => ?_⟩
  rw [hK]
  split at h1
  · rename_i l
    have rd := r1.data rfl
    obtain ⟨a, xs, rfl, h2, h3⟩ := rd.tupT
    exact .inl ⟨a, rfl, .inr ⟨⟨xs, h2⟩, h1 as1 H1 (Ext.refl _ _) R1 _ (walk_tup (xs := xs) rd)⟩⟩
  · rename_i l
    have rd := r1.data rfl
    obtain ⟨a, xs, rfl, h2, h3⟩ := rd.lstL
    exact .inl ⟨a, rfl, .inl ⟨⟨xs, .inl h2⟩, h1 as1 H1 (Ext.refl _ _) R1 _ (walk_list (xs := xs) rd)⟩⟩
  · rename_i z
    cases r1.data rfl
    exact .inr ⟨z, rfl, h1 as1 H1 (Ext.refl _ _) R1 _ (walk_str z)⟩
  · rename_i n
    have rd := r1.data rfl
    cases rd with
    | adr hn =>
      split at h1
      · rename_i l el
        obtain ⟨xs, h2, h3⟩ := R1.ob n _ _ hn el
        exact .inl ⟨_, rfl, .inl ⟨⟨xs, .inl (.inl h2)⟩, h1 as1 H1 (Ext.refl _ _) R1 _ (walk_adr hn)⟩⟩
      · exact h1.elim
  · exact h1.elim
theorem vi_str {tg e : Expr} {d : DE} (he : PE X e (rdE G c Wx d)) : PI X tg e (rdI G c Wx (diStr d)) := by
  refine (pi_str he).imp fun σ H Q ⟨gh, as, env, s, R, E, h⟩ => ⟨gh, as, env, s, R, E, (Pst.bind h).imp fun x s1 as1 H1 e1 R1 h1 v1 r1 => ?_⟩
  split at h1
  · rename_i x
    cases r1.data rfl
    exact ⟨x, rfl, h1 as1 H1 (Ext.refl _ _) R1 _ (walk_str x)⟩
  · exact h1.elim
theorem walk_range {as : List Addr} {H : Hp} (n : Nat) : Walk G (Itr 0 n) as H (.inl (upto n)) := fun D hD as' H' s e R i => by
  have at_ : (upto n)[i]? = if i < n then some (W.int (i : Nat)) else none := by
    unfold upto
    rw [List.getElem?_map]
    by_cases hi : i < n
    · rw [if_pos hi, List.getElem?_range hi]
      rfl
    · rw [if_neg hi, List.getElem?_eq_none (by rw [List.length_range]; omega)]
      rfl
  refine at_same R (fun w hw => ?_) fun hw => ?_
  · rw [at_] at hw
    split at hw
    · rename_i hi
      cases hw
      refine ⟨hi, fun v H' ⟨e, ev⟩ => ⟨e, ?_⟩⟩
      subst ev
      rw [Int.zero_add]
      exact .int _
    · cases hw
  · rw [at_] at hw
    split at hw
    · cases hw
    · rename_i hi
      show n ≤ i
      omega
theorem vi_range {tg a : Expr} {p pos : Pos} {d : DE} (hg : Gl X "range") (hm : X.mg "range" = none) (ha : PE X a (rdE G c Wx d)) (hs : noStar a = true) : PI X tg (.Call (.Name "range" p) [a] [] pos) (rdI G c Wx (diRange d)) := by
  refine (pi_range1 hg hm (pa_cons ha pa_nil (star_of hs [] X.env)) (star_of hs [] X.env)).imp fun σ H Q ⟨gh, as, env, s, R, E, h⟩ => ⟨gh, as, env, s, R, E, (Pst.bind h).imp fun x s1 as1 H1 e1 R1 h1 v1 r1 => ?_⟩
  split at h1
  · rename_i n
    split at h1
    · rename_i hn
      rw [Bool.and_eq_true, decide_eq_true_eq, decide_eq_true_eq] at hn
      cases r1.data rfl
      have z : (sizeMax : Int) = 16777216 := rfl
      exact ⟨n, rfl, by omega, by omega, h1 as1 H1 (Ext.refl _ _) R1 _ (walk_range n.toNat)⟩
    · exact h1.elim
  · exact h1.elim
/-! ### for -/
theorem vs_for {tg iter : Expr} {body : List Stmt} {pos : Pos} {is : List Nat} {di : DI} {dg : DG} {db : DS} (hp : PassesOwn (model X.prog X.w) X.A X.env X.xe) (hc : X.calm = true) (hi : PI X tg iter (rdI G c Wx di)) (hg : PG X tg (rdG G is dg)) (hb : PSs X body (rdS G c Wx db))
    (hs : ∀ x, foldedSetIterable iter X.env x = pure x) : PS X (.For tg iter body [] pos) (rdS G c Wx (sFor di dg db)) := by
  refine (ps_for hp hc hi hg hb hs).imp fun D σ H ⟨gh, as, env, s, R, E, h⟩ => ⟨gh, as, env, s, R, E, rdE_in ((Pst.bind h).imp fun l s1 as1 H1 e1 R1 h1 J wj => ?_)⟩
  -- one turn
  have turn : ∀ (N : L2.St → Hp → Prop) (go : Env → S → Res Flow) (x : W) (as : List Addr) (H : Hp) (env : Env) (s : S) (σ : L2.St) (i : Nat) (l : List W), Ext as1 H1 as H → Rep (G.g gh) as H s → EOk (G.g gh) as H env σ → ItAt (G.g gh) J l i as H s → l[i]? = some x →
      Pst (G.g gh) as H (anyX Wx) (okS (G.g gh) D) (forOne dg db c x env s go) →
      (∀ as' H' env' s' σ', Ext as1 H1 as' H' → Rep (G.g gh) as' H' s' → EOk (G.g gh) as' H' env' σ' → Pst (G.g gh) as' H' (anyX Wx) (okS (G.g gh) D) (go env' s') → N σ' H') →
      J.go i H ∧ ∀ v H', J.yld i H v H' → rdG G is dg v σ H' fun σ2 H2 => rdS G c Wx db { D with nx := N, ct := N, bk := D.nx } σ2 H2 := by
    intro N go x as H env s σ i l e R E it hx h hN
    obtain ⟨h2, h3⟩ := it.1 x hx
    refine ⟨h2, fun v H' y => ?_⟩
    obtain ⟨e2, R2, rv⟩ := h3 v H' y
    have h := Pst.shift e2 h
    unfold forOne at h
    split at h
    · exact h.elim
    · rename_i env' eg
      refine ⟨gh, as, env, s, x, env', R2, E.mono e2, .d rv, eg, fun σ2 E2 _ => ⟨gh, as, env', s, R2, E2, (Pst.bind h).imp fun f s3 as3 H3 e3 R3 h4 => ?_⟩⟩
      cases f with
      | nx env4 => exact fun σ' E' => hN as3 H3 env4 s3 σ' ((e.trans e2).trans e3) R3 E' h4
      | ct env4 => exact fun σ' E' => hN as3 H3 env4 s3 σ' ((e.trans e2).trans e3) R3 E' h4
      | bk env4 => exact h4 as3 H3 (Ext.refl _ _) R3
      | rt w => exact h4 as3 H3 (Ext.refl _ _) R3
  cases l with
  | inl l =>
    have wj : ∀ as' H' s, Ext as1 H1 as' H' → Rep (G.g gh) as' H' s → ∀ i, ItAt (G.g gh) J l i as' H' s := fun as' H' s e R => wj [] (fun _ z => by cases z) as' H' s e R
    refine ⟨fun i m σ H => m + i = l.length ∧ ∃ as env s, Ext as1 H1 as H ∧ Rep (G.g gh) as H s ∧ EOk (G.g gh) as H env σ ∧ Pst (G.g gh) as H (anyX Wx) (okS (G.g gh) D) (forLoop dg db c (l.drop i) env s), ⟨l.length, rfl, as1, env, s1, Ext.refl _ _, R1, E.mono e1, h1⟩, fun i m σ H ⟨em, as, env, s, e, R, E, h⟩ => ?_⟩
    cases hx : l[i]? with
    | none =>
      refine .inl ⟨(wj as H s e R i).2 hx, ?_⟩
      rw [List.drop_eq_nil_of_le (List.getElem?_eq_none_iff.mp hx)] at h
      exact h as H (Ext.refl _ _) R σ E
    | some x =>
      have hl := (List.getElem?_eq_some_iff.mp hx)
      rw [List.drop_eq_getElem_cons hl.1, hl.2] at h
      have z := turn (fun σ' H' => ∃ as env s, Ext as1 H1 as H' ∧ Rep (G.g gh) as H' s ∧ EOk (G.g gh) as H' env σ' ∧ Pst (G.g gh) as H' (anyX Wx) (okS (G.g gh) D) (forLoop dg db c (l.drop (i + 1)) env s)) _ x as H env s σ i l e R E (wj as H s e R i) hx h
        fun as' H' env' s' σ' e' R' E' h' => ⟨as', env', s', e', R', E', h'⟩
      exact .inr ⟨z.1, _, fun σ' H' w => ⟨m - 1, by have := hl.1; omega, by have := hl.1; omega, w⟩, z.2⟩
  | inr n =>
    have wj : ∀ as' H' s, Ext as1 H1 as' H' → Rep (G.g gh) as' H' s → ∀ l, s.objs[n]? = some (.lst l) → ∀ i, ItAt (G.g gh) J l i as' H' s := fun as' H' s e R => wj [] (fun _ z => by cases z) as' H' s e R
    refine ⟨fun i m σ H => ∃ as env s, Ext as1 H1 as H ∧ Rep (G.g gh) as H s ∧ EOk (G.g gh) as H env σ ∧ Pst (G.g gh) as H (anyX Wx) (okS (G.g gh) D) (forLoopN dg db c n m i env s), ⟨c.fuel, as1, env, s1, Ext.refl _ _, R1, E.mono e1, h1⟩, fun i m σ H ⟨as, env, s, e, R, E, h⟩ => ?_⟩
    cases m with
    | zero => exact h.elim
    | succ m =>
      unfold forLoopN at h
      split at h
      · rename_i l el
        split at h
        · rename_i x hx
          have z := turn (fun σ' H' => ∃ as env s, Ext as1 H1 as H' ∧ Rep (G.g gh) as H' s ∧ EOk (G.g gh) as H' env σ' ∧ Pst (G.g gh) as H' (anyX Wx) (okS (G.g gh) D) (forLoopN dg db c n m (i + 1) env s)) _ x as H env s σ i l e R E (wj as H s e R l el i) hx h
            fun as' H' env' s' σ' e' R' E' h' => ⟨as', env', s', e', R', E', h'⟩
          exact .inr ⟨z.1, _, fun σ' H' w => ⟨m, Nat.lt_succ_self m, w⟩, z.2⟩
        · rename_i hx
          exact .inl ⟨(wj as H s e R l el i).2 hx, h as H (Ext.refl _ _) R σ E⟩
      · exact h.elim
end
end Vi
set_option Elab.async false
set_option linter.all false
set_option maxRecDepth 100000
set_option maxHeartbeats 4000000
/-! Vi12: comprehensions. -/
namespace Vi
open PySem PySem.Spec PyProof.Rows L2

theorem Res.bind_assoc {α β γ : Type} (r : Res α) (f : α → S → Res β) (g : β → S → Res γ) : (r.bind f).bind g = r.bind fun a s => (f a s).bind g := by cases r <;> rfl
theorem Ext.updFresh {as as' : List Addr} {H H' : Hp} (e : Ext as H as' H') {D : Addr} {o : HO} (h : H D = none) : Ext as H as' (upd H' D o) := by
  have k : ∀ b u u', H b = some u → H' b = some u' → upd H' D o b = some u' := fun b u u' q q' => by rw [upd_ne (ne_of_none q h)]; exact q'
  exact ⟨e.pre, e.fr, fun b u q i => k b u u q (e.im b u q i), fun b u q n t => k b u u q (e.kp b u q n t)⟩
theorem ROk.mono0 {G : GI} {as as' : List Addr} {H H' : Hp} (e : Ex0 G.gh as H as' H') {a : Addr} (h : ∀ u, H a = some u → H' a = some u) : ∀ {o : O}, ROk G as H a o → ROk G as' H' a o
  | .lst _, ⟨xs, h1, h2⟩ => ⟨xs, h _ h1, RDs.mono0 e _ _ h2⟩
  | .dct _, ⟨xs, h1, h2⟩ => ⟨xs, h _ h1, RDk.mono0 e _ _ h2⟩
  | .ins _ _, ⟨C, dx, fs, h0, h1, h2, h3, h4, h5⟩ => ⟨C, dx, fs, h0, h _ h1, h2, h3, fun i f w a b => by
      obtain ⟨v, q, r⟩ := h4 i f w a b
      exact ⟨v, q, RD.mono0 e _ _ r⟩, h5⟩
/-- a list under construction is written -/
theorem Ex0.ghost {gh as : List Addr} {H : Hp} {D : Addr} {xs ys : List V} (hg : D ∈ gh) (h : H D = some (.lst xs)) : Ex0 gh as H as (upd H D (.lst ys)) := by
  have k : ∀ b v, b ≠ D → H b = some v → upd H D (.lst ys) b = some v := fun b v n q => by rw [upd_ne n]; exact q
  refine ⟨List.prefix_refl _, fun b h n => absurd h n, fun b v q i => k b v (fun z => ?_) q, fun b v q n g _ => k b v (fun z => g (by rw [z]; exact hg)) q⟩
  rw [z, h] at q
  cases q
  exact i
theorem Rep.ghost {G : GI} {as : List Addr} {H : Hp} {s : S} (R : Rep G as H s) {D : Addr} {ys : List V} (hg : D ∈ G.gh) : Rep G as (upd H D (.lst ys)) s := by
  obtain ⟨nD, xs, hD⟩ := R.gk D hg
  have e : Ex0 G.gh as H as (upd H D (.lst ys)) := Ex0.ghost hg hD
  refine ⟨R.len, R.nd, fun n a o h1 h2 => (R.ob n a o h1 h2).mono0 e fun u q => ?_, R.kp, R.cl, fun p hp => ?_, fun b hb => ⟨(R.gk b hb).1, ?_⟩⟩
  · rw [upd_ne (fun z => nD (by rw [← z]; exact List.mem_of_getElem? h1))]
    exact q
  · obtain ⟨ps, e1, e2, e3⟩ := R.tb p hp
    have np : p.1 ≠ D := fun z => by
      rw [z, hD] at e1
      cases e1
    refine ⟨ps, by rw [upd_ne np]; exact e1, e2, fun pos cv q => ?_⟩
    obtain ⟨cc, r1, r2⟩ := e3 pos cv q
    have nc : cc ≠ D := fun z => by
      rw [z, hD] at r2
      cases r2
    exact ⟨cc, r1, by rw [upd_ne nc]; exact r2⟩
  · by_cases z : b = D
    · rw [z]
      exact ⟨ys, upd_same⟩
    · rw [upd_ne z]
      exact (R.gk b hb).2
theorem Rep.more {G : GI} {gh as : List Addr} {H : Hp} {s : S} (R : Rep (G.g gh) as H s) {D : Addr} {ys : List V} (h : H D = none) : Rep (G.g (D :: gh)) as (upd H D (.lst ys)) s := by
  have R' := R.laid (o := .lst ys) h
  have nD : D ∉ as := (fresh_out R h).1
  have f : ∀ a o, H a = some o → a ∉ gh → a ∉ D :: gh := more_f (D := [D]) fun d hd => by rw [List.mem_singleton.mp hd]; exact h
  have e := Ext.laid (as := as) (o := .lst ys) h
  refine ⟨R.len, R.nd, fun n a o h1 h2 => ?_, R.kp, R.cl, R'.tb, fun b hb => ?_⟩
  · refine ((R.ob n a o h1 h2).swap f).mono e fun u q => ?_
    rw [upd_ne (ne_of_none q h)]
    exact q
  · rcases List.mem_cons.mp hb with z | z
    · rw [z]
      exact ⟨nD, ys, upd_same⟩
    · exact R'.gk b z
theorem Rep.fewer {G : GI} {gh as : List Addr} {H : Hp} {s : S} {D : Addr} (R : Rep (G.g (D :: gh)) as H s) : Rep (G.g gh) as H s :=
  ⟨R.len, R.nd, fun n a o h1 h2 => (R.ob n a o h1 h2).swap (fun _ _ _ h => fun z => h (List.mem_cons_of_mem _ z)), R.kp, R.cl, R.tb, fun b hb => R.gk b (List.mem_cons_of_mem _ hb)⟩
theorem wipe_get {σ : L2.St} : ∀ (vs : List Nat) (j : Nat), (L2.wipe σ vs)[j]? = if j ∈ vs then (σ[j]?).map fun _ => none else σ[j]?
  | [], j => by simp [L2.wipe]
  | v :: vs, j => by
    unfold L2.wipe
    by_cases h : j = v
    · subst h
      rw [if_pos List.mem_cons_self]
      by_cases hl : j < σ.length
      · rw [List.getElem?_set_self (by rw [L2.wipe_length]; exact hl), List.getElem?_eq_getElem hl]
        rfl
      · rw [List.getElem?_eq_none (by rw [List.length_set, L2.wipe_length]; omega), List.getElem?_eq_none (by omega)]
        rfl
    · rw [List.getElem?_set_ne (Ne.symm h), wipe_get vs j]
      by_cases k : j ∈ vs
      · rw [if_pos k, if_pos (List.mem_cons_of_mem _ k)]
      · rw [if_neg k, if_neg (fun z => (List.mem_cons.mp z).elim h k)]
theorem wipe_same {vs : List Nat} {σ σ2 : L2.St} (h : sameBut vs (L2.wipe σ vs) σ2) : L2.wipe σ2 vs = L2.wipe σ vs := by
  apply List.ext_getElem?
  intro j
  have hl : σ2.length = σ.length := by rw [h.1, L2.wipe_length]
  by_cases k : j ∈ vs
  · rw [wipe_get, wipe_get, if_pos k, if_pos k]
    by_cases q : j < σ.length
    · rw [List.getElem?_eq_getElem q, List.getElem?_eq_getElem (by omega)]
      rfl
    · rw [List.getElem?_eq_none (by omega), List.getElem?_eq_none (by omega)]
  · rw [wipe_get, if_neg k]
    exact h.2 j k
def noX : WX := fun _ _ _ _ => False
section
variable {X : Cx} {G : GI} {c : Ct} {Wx : WX}
def tBoth (a b : DT) : DT := a
theorem lc_rd {vs : List Nat} {di : DI} {dg : DG} {dt : DT} {de : DE} (K : List W → S → W × S)
    (hK : ∀ gh as H s ys acc D, Rep (G.g (D :: gh)) as H s → D ∉ as → D ∉ gh → H D = some (.lst acc) → RDs (G.g (D :: gh)) as H ys acc → ∃ as', (∀ as0 H0, Ext as0 H0 as H → H0 D = none → Ext as0 H0 as' H) ∧ Rep (G.g gh) as' H (K ys s).2 ∧ RW (G.g gh) as' H (K ys s).1 (.ref D))
    {σ : L2.St} {H : Hp} {Q : VK} (h : rdE G c Wx (fun c env s => (lcAll vs di dg dt de c env s).bind fun ys s => .ok (K ys s).1 (K ys s).2) σ H Q) : tLc (rdI G c Wx di) (rdG G vs dg) (rdT G c noX dt) (rdE G c noX de) vs σ H Q := by
  obtain ⟨gh, as, env, s, R, E, h⟩ := h
  unfold lcAll at h
  dsimp only at h
  rw [Res.bind_assoc] at h
  refine ⟨gh, as, env, s, R, E, (Pst.bind h).imp fun l s1 as1 H1 e1 R1 h1 J wj D hD => ?_⟩
  have hf : ∀ a o, H1 a = some o → a ∉ gh → a ∉ D :: gh := more_f (D := [D]) fun d hd => by rw [List.mem_singleton.mp hd]; exact hD
  have E0 : EOk (G.g (D :: gh)) as1 H1 (wipeE env vs) (L2.wipe σ vs) := ((E.mono e1).swap hf).wipe vs
  generalize wipeE env vs = env0 at h1 E0
  have Rs : Rep (G.g (D :: gh)) as1 (upd H1 D (.lst [])) s1 := R1.more hD
  have es : Ext as1 H1 as1 (upd H1 D (.lst [])) := (Ext.refl _ _).updFresh hD
  -- how it ends
  obtain ⟨zs0, sF, hr, hz, hfin⟩ : ∃ zs0 sF, (match l with
      | .inl l => lcLoop dg dt de c env0 l s1
      | .inr n => lcLoopN dg dt de c env0 n c.fuel 0 s1) = .ok zs0 sF ∧ zs0.length ≤ sizeMax ∧ ∀ as' H', Ext as1 H1 as' H' → Rep (G.g gh) as' H' (K zs0 sF).2 → ∀ v, RW (G.g gh) as' H' (K zs0 sF).1 v → Q v H' := by
    split at h1
    · rename_i ys s2 er
      split at h1
      · rename_i hl
        exact ⟨ys, s2, er, of_decide_eq_true hl, h1⟩
      · exact h1.elim
    · exact h1.elim
  have fin : ∀ as H acc, Ext as1 H1 as H → Rep (G.g (D :: gh)) as H sF → H D = some (.lst acc) → RDs (G.g (D :: gh)) as H zs0 acc → Q (.ref D) H := by
    intro as H acc e R ha r
    have Dg : D ∉ gh := fun z => by
      obtain ⟨_, xs, q⟩ := R1.gk D z
      rw [hD] at q
      cases q
    obtain ⟨as', k1, k2, k3⟩ := hK gh as H sF zs0 acc D R (R.gk D List.mem_cons_self).1 Dg ha r
    exact hfin as' H (k1 as1 H1 e hD) k2 _ k3
  -- one turn
  have turn : ∀ (Nx : Hp → Prop) (go : S → Res (List W)) (x : W) (as : List Addr) (H : Hp) (s : S) (i : Nat) (l : List W) (acc : List V) (ys zs : List W), Ext as1 H1 as H → Rep (G.g (D :: gh)) as H s → H D = some (.lst acc) → RDs (G.g (D :: gh)) as H ys acc →
      ItAt (G.g (D :: gh)) J l i as H s → l[i]? = some x → lcOne dg dt de c env0 x s go = .ok zs sF → ys ++ zs = zs0 →
      (∀ as' H' s' acc' ys' zs', Ext as1 H1 as' H' → Rep (G.g (D :: gh)) as' H' s' → H' D = some (.lst acc') → RDs (G.g (D :: gh)) as' H' ys' acc' → go s' = .ok zs' sF → ys' ++ zs' = zs0 → Nx H') →
      J.go i H ∧ ∀ v H', J.yld i H v H' → rdG G vs dg v (L2.wipe σ vs) H' fun σ2 H2 => L2.wipe σ2 vs = L2.wipe σ vs ∧ rdT G c noX dt σ2 H2 fun b H3 =>
        if b = true then rdE G c noX de σ2 H3 fun y H4 => ∃ acc, H4 D = some (.lst acc) ∧ acc.length < sizeLine ∧ Nx (upd H4 D (.lst (acc ++ [y]))) else Nx H3 := by
    intro Nx go x as H s i l acc ys zs e R ha r it hx ho ht hN
    obtain ⟨h2, h3⟩ := it.1 x hx
    refine ⟨h2, fun v H' y => ?_⟩
    obtain ⟨e2, R2, rv⟩ := h3 v H' y
    have stay : ∀ {as2 : List Addr} {H2 : Hp}, Ext as H as2 H2 → H2 D = some (.lst acc) := fun e2 => e2.kp D _ ha (R.gk D List.mem_cons_self).1 fun _ z => by cases z
    unfold lcOne at ho
    split at ho
    · cases ho
    · rename_i env' eg
      refine ⟨D :: gh, as, env0, s, x, env', R2, E0.mono (e.trans e2), .d rv, eg, fun σ2 E2 k2 => ⟨wipe_same k2, D :: gh, as, env', s, R2, E2, ?_⟩⟩
      split at ho
      · rename_i k s2 et
        rw [et]
        refine fun as3 H3 e3 R3 => ?_
        show if k = true then _ else _
        cases k with
        | false =>
          rw [if_neg (by decide)] at ho ⊢
          exact hN as3 H3 s2 acc ys zs ((e.trans e2).trans e3) R3 (stay (e2.trans e3)) (RDs.mono (e2.trans e3) _ _ r) ho ht
        | true =>
          rw [if_pos rfl] at ho ⊢
          refine ⟨D :: gh, as3, env', s2, R3, E2.mono e3, ?_⟩
          split at ho
          · rename_i yw s3 ee
            rw [ee]
            split at ho
            · rename_i dy
              split at ho
              · rename_i ys2 s4 eo
                cases ho
                refine fun as4 H4 e4 R4 v4 r4 => ⟨acc, stay ((e2.trans e3).trans e4), ?_, ?_⟩
                · have q := r.length
                  rw [← sizeMax_line]
                  have q2 : (ys ++ yw :: ys2).length ≤ sizeMax := by rw [ht]; exact hz
                  rw [List.length_append, List.length_cons] at q2
                  omega
                · have hd := stay ((e2.trans e3).trans e4)
                  have g := Ex0.ghost (gh := D :: gh) (as := as4) (ys := acc ++ [v4]) List.mem_cons_self hd
                  refine hN as4 _ s3 (acc ++ [v4]) (ys ++ [yw]) ys2 ((((e.trans e2).trans e3).trans e4).updFresh hD) (R4.ghost List.mem_cons_self) upd_same ?_ eo (by rw [List.append_assoc]; exact ht)
                  exact RDs.mono0 (G := G.g (D :: gh)) g _ _ ((RDs.mono ((e2.trans e3).trans e4) _ _ r).append (.cons (r4.data dy) .nil))
              · cases ho
            · cases ho
          · cases ho
      · cases ho
  cases l with
  | inl l =>
    have wj : ∀ as' H' s, Ext as1 H1 as' H' → Rep (G.g (D :: gh)) as' H' s → ∀ i, ItAt (G.g (D :: gh)) J l i as' H' s := fun as' H' s e R => wj [D] (fun d hd => by rw [List.mem_singleton.mp hd]; exact hD) as' H' s e R
    refine ⟨fun i m H => m + i = l.length ∧ ∃ as s acc ys zs, Ext as1 H1 as H ∧ Rep (G.g (D :: gh)) as H s ∧ H D = some (.lst acc) ∧ RDs (G.g (D :: gh)) as H ys acc ∧ lcLoop dg dt de c env0 (l.drop i) s = .ok zs sF ∧ ys ++ zs = zs0, ⟨l.length, rfl, as1, s1, [], [], zs0, es, Rs, upd_same, .nil, hr, rfl⟩, fun i m H ⟨em, as, s, acc, ys, zs, e, R, ha, r, ho, ht⟩ => ?_⟩
    cases hx : l[i]? with
    | none =>
      refine .inl ⟨(wj as H s e R i).2 hx, ?_⟩
      rw [List.drop_eq_nil_of_le (List.getElem?_eq_none_iff.mp hx)] at ho
      cases ho
      rw [List.append_nil] at ht
      subst ht
      exact fin as H acc e R ha r
    | some x =>
      have hl := (List.getElem?_eq_some_iff.mp hx)
      rw [List.drop_eq_getElem_cons hl.1, hl.2] at ho
      have z := turn (fun H' => ∃ as s acc ys zs, Ext as1 H1 as H' ∧ Rep (G.g (D :: gh)) as H' s ∧ H' D = some (.lst acc) ∧ RDs (G.g (D :: gh)) as H' ys acc ∧ lcLoop dg dt de c env0 (l.drop (i + 1)) s = .ok zs sF ∧ ys ++ zs = zs0) _ x as H s i l acc ys zs e R ha r (wj as H s e R i) hx ho ht
        fun as' H' s' acc' ys' zs' e' R' ha' r' ho' ht' => ⟨as', s', acc', ys', zs', e', R', ha', r', ho', ht'⟩
      exact .inr ⟨z.1, _, fun H' w => ⟨m - 1, by have := hl.1; omega, by have := hl.1; omega, w⟩, z.2⟩
  | inr n =>
    have wj : ∀ as' H' s, Ext as1 H1 as' H' → Rep (G.g (D :: gh)) as' H' s → ∀ l, s.objs[n]? = some (.lst l) → ∀ i, ItAt (G.g (D :: gh)) J l i as' H' s := fun as' H' s e R => wj [D] (fun d hd => by rw [List.mem_singleton.mp hd]; exact hD) as' H' s e R
    refine ⟨fun i m H => ∃ as s acc ys zs, Ext as1 H1 as H ∧ Rep (G.g (D :: gh)) as H s ∧ H D = some (.lst acc) ∧ RDs (G.g (D :: gh)) as H ys acc ∧ lcLoopN dg dt de c env0 n m i s = .ok zs sF ∧ ys ++ zs = zs0, ⟨c.fuel, as1, s1, [], [], zs0, es, Rs, upd_same, .nil, hr, rfl⟩, fun i m H ⟨as, s, acc, ys, zs, e, R, ha, r, ho, ht⟩ => ?_⟩
    cases m with
    | zero => cases ho
    | succ m =>
      unfold lcLoopN at ho
      split at ho
      · rename_i l el
        split at ho
        · rename_i x hx
          have z := turn (fun H' => ∃ as s acc ys zs, Ext as1 H1 as H' ∧ Rep (G.g (D :: gh)) as H' s ∧ H' D = some (.lst acc) ∧ RDs (G.g (D :: gh)) as H' ys acc ∧ lcLoopN dg dt de c env0 n m (i + 1) s = .ok zs sF ∧ ys ++ zs = zs0) _ x as H s i l acc ys zs e R ha r (wj as H s e R l el i) hx ho ht
            fun as' H' s' acc' ys' zs' e' R' ha' r' ho' ht' => ⟨as', s', acc', ys', zs', e', R', ha', r', ho', ht'⟩
          exact .inr ⟨z.1, _, fun H' w => ⟨m, Nat.lt_succ_self m, w⟩, z.2⟩
        · rename_i hx
          refine .inl ⟨(wj as H s e R l el i).2 hx, ?_⟩
          cases ho
          rw [List.append_nil] at ht
          subst ht
          exact fin as H acc e R ha r
      · cases ho
theorem lc_frozen : ∀ gh as H s ys acc D, Rep (G.g (D :: gh)) as H s → D ∉ as → D ∉ gh → H D = some (.lst acc) → RDs (G.g (D :: gh)) as H ys acc → ∃ as', (∀ as0 H0, Ext as0 H0 as H → H0 D = none → Ext as0 H0 as' H) ∧ Rep (G.g gh) as' H ((fun (ys : List W) (s : S) => (W.lst ys, s)) ys s).2 ∧ RW (G.g gh) as' H ((fun (ys : List W) (s : S) => (W.lst ys, s)) ys s).1 (.ref D) :=
  fun gh as H s ys acc D R n1 n2 ha r => ⟨as, fun _ _ e _ => e, R.fewer, .d (.lst (.inl ha) ⟨n1, n2⟩ (RDs.swap (fun _ _ _ h => fun z => h (List.mem_cons_of_mem _ z)) _ _ r))⟩
/-- a list that was built becomes a place of the state -/
theorem lc_place : ∀ gh as H s ys acc D, Rep (G.g (D :: gh)) as H s → D ∉ as → D ∉ gh → H D = some (.lst acc) → RDs (G.g (D :: gh)) as H ys acc →
    ∃ as', (∀ as0 H0, Ext as0 H0 as H → H0 D = none → Ext as0 H0 as' H) ∧ Rep (G.g gh) as' H ((fun (ys : List W) (s : S) => (W.adr s.objs.length, s.new (.lst ys))) ys s).2 ∧ RW (G.g gh) as' H ((fun (ys : List W) (s : S) => (W.adr s.objs.length, s.new (.lst ys))) ys s).1 (.ref D) := by
  intro gh as H s ys acc D R n1 n2 ha r
  have f : ∀ a o, H a = some o → a ∉ as ∧ a ∉ D :: gh → a ∉ as ++ [D] ∧ a ∉ gh := fun a o h n => ⟨fun z => by
    rcases List.mem_append.mp z with z | z
    · exact n.1 z
    · exact n.2 (by rw [List.mem_singleton.mp z]; exact List.mem_cons_self), fun z => n.2 (List.mem_cons_of_mem _ z)⟩
  have p : as <+: as ++ [D] := List.prefix_append _ _
  refine ⟨as ++ [D], fun as0 H0 e hD => ⟨e.pre.trans p, fun b hb n o q t => ?_, e.im, e.kp⟩, ⟨by simp [S.new, R.len], ?_, fun n a o' h1 h2 => ?_, fun kk hkk => ?_, fun kk hkk n o' h1 h2 => ?_, R.tb, fun b hb => ?_⟩, .d (.adr ?_)⟩
  · rcases List.mem_append.mp hb with z | z
    · exact e.fr b z n o q t
    · rw [List.mem_singleton.mp z, hD] at q
      cases q
  · rw [List.nodup_append]
    refine ⟨R.nd, by simp, fun x hx y hy => ?_⟩
    rw [List.mem_singleton.mp hy]
    exact fun z => n1 (by rw [← z]; exact hx)
  · by_cases hn : n < as.length
    · rw [List.getElem?_append_left hn] at h1
      have h2' : s.objs[n]? = some o' := by
        rw [← h2]
        show _ = (s.objs ++ [O.lst ys])[n]?
        rw [List.getElem?_append_left (by rw [← R.len]; exact hn)]
      exact (R.ob n a o' h1 h2').swap2 p f
    · have hl : n < as.length + 1 := by
        have z := (List.getElem?_eq_some_iff.mp h1).1
        simpa using z
      have e : n = as.length := by omega
      subst e
      have e1 : a = D := by
        simp at h1
        exact h1.symm
      have e2 : o' = .lst ys := by
        have z : (s.objs ++ [O.lst ys])[as.length]? = some o' := h2
        rw [R.len] at z
        simp at z
        exact z.symm
      rw [e1, e2]
      exact ⟨acc, ha, RDs.swap2 p f _ _ r⟩
  · show kk ≤ (s.objs ++ [O.lst ys]).length
    have z := R.kp kk hkk
    simp
    omega
  · have hk : kk ≤ s.objs.length := R.kp kk hkk
    have h1' : n < kk := h1
    have h2' : s.objs[n]? = some o' := by
      rw [← h2]
      show _ = (s.objs ++ [O.lst ys])[n]?
      rw [List.getElem?_append_left (by omega)]
    exact R.cl kk hkk n o' h1' h2'
  · obtain ⟨z1, z2⟩ := R.gk b (List.mem_cons_of_mem _ hb)
    refine ⟨fun z => ?_, z2⟩
    rcases List.mem_append.mp z with z | z
    · exact z1 z
    · exact n2 (by rw [← List.mem_singleton.mp z]; exact hb)
  · show (as ++ [D])[s.objs.length]? = some D
    rw [← R.len]
    simp
section
variable {elt tg iter : Expr} {ifs : List Expr} {scope : Scope} {own : List (Str × Nat)} {pos : Pos} {di : DI} {dg : DG} {dt : DT} {de : DE}
theorem ve_lcF (hc : X.calm = true) (hN : X.N.Nodup) (hi : PI X tg iter (rdI G c Wx di)) (ok : BlkOk X.N X.env.scope scope own)
    (hg : ∀ (s : Shared) (H : Hp) (C : Addr) (cl : List (Str × Addr)) (fp : List Addr), PG (X.blk s H scope (compEnvC scope cl C X.env) fp) tg (rdG G (own.map (·.2)) dg))
    (ht : ∀ (s : Shared) (H : Hp) (C : Addr) (cl : List (Str × Addr)) (fp : List Addr), PTs (X.blk s H scope (compEnvC scope cl C X.env) fp) ifs (rdT G c noX dt))
    (he : ∀ (s : Shared) (H : Hp) (C : Addr) (cl : List (Str × Addr)) (fp : List Addr), PE (X.blk s H scope (compEnvC scope cl C X.env) fp) elt (rdE G c noX de)) (hs : ∀ x, foldedSetIterable iter X.env x = pure x) :
    PE X (.ListComp elt [⟨tg, iter, ifs, 0⟩] scope pos) (rdE G c Wx (dLc (own.map (·.2)) di dg dt de)) :=
  (pe_lc hc hN hi ok hg ht he hs).imp fun σ H Q h => lc_rd (fun ys s => (W.lst ys, s)) lc_frozen h
theorem ve_lcN (hc : X.calm = true) (hN : X.N.Nodup) (hi : PI X tg iter (rdI G c Wx di)) (ok : BlkOk X.N X.env.scope scope own)
    (hg : ∀ (s : Shared) (H : Hp) (C : Addr) (cl : List (Str × Addr)) (fp : List Addr), PG (X.blk s H scope (compEnvC scope cl C X.env) fp) tg (rdG G (own.map (·.2)) dg))
    (ht : ∀ (s : Shared) (H : Hp) (C : Addr) (cl : List (Str × Addr)) (fp : List Addr), PTs (X.blk s H scope (compEnvC scope cl C X.env) fp) ifs (rdT G c noX dt))
    (he : ∀ (s : Shared) (H : Hp) (C : Addr) (cl : List (Str × Addr)) (fp : List Addr), PE (X.blk s H scope (compEnvC scope cl C X.env) fp) elt (rdE G c noX de)) (hs : ∀ x, foldedSetIterable iter X.env x = pure x) :
    PE X (.ListComp elt [⟨tg, iter, ifs, 0⟩] scope pos) (rdE G c Wx (dLcN (own.map (·.2)) di dg dt de)) :=
  (pe_lc hc hN hi ok hg ht he hs).imp fun σ H Q h => lc_rd (fun ys s => (W.adr s.objs.length, s.new (.lst ys))) lc_place h
/-- name = [..] on one line -/
theorem vs_lcF {i : Nat} {y : Str} {py spos : Pos} (hc : X.calm = true) (hN : X.N.Nodup) (hy : X.N[i]? = some y) (hyl : X.env.scope.names.lookup y = some .local)
    (hsw : swapsWith (.ListComp elt [⟨tg, iter, ifs, 0⟩] scope pos) (some (.Name y py)) spos.line X.env = pure true) (hi : PI X tg iter (rdI G c Wx di)) (ok : BlkOk X.N X.env.scope scope own)
    (hg : ∀ (s : Shared) (H : Hp) (C : Addr) (cl : List (Str × Addr)) (fp : List Addr), PG (X.blk s H scope (compEnvC scope cl C X.env) fp) tg (rdG G (own.map (·.2)) dg))
    (ht : ∀ (s : Shared) (H : Hp) (C : Addr) (cl : List (Str × Addr)) (fp : List Addr), PTs (X.blk s H scope (compEnvC scope cl C X.env) fp) ifs (rdT G c noX dt))
    (he : ∀ (s : Shared) (H : Hp) (C : Addr) (cl : List (Str × Addr)) (fp : List Addr), PE (X.blk s H scope (compEnvC scope cl C X.env) fp) elt (rdE G c noX de)) (hs : ∀ x, foldedSetIterable iter X.env x = pure x) :
    PS X (.Assign [.Name y py] (.ListComp elt [⟨tg, iter, ifs, 0⟩] scope pos) spos) (rdS G c Wx (sSet (dLc (own.map (·.2)) di dg dt de) (dgName i))) := by
  refine (ps_setLc hc hN hy hyl hsw hi ok hg ht he hs).imp fun D σ H ⟨gh, as, env, s, R, E, h⟩ => lc_rd (fun ys s => (W.lst ys, s)) lc_frozen ⟨gh, as, env, s, R, E, rdE_in ((Pst.bind h).imp fun x s1 as1 H1 e1 R1 h1 v1 r1 => ?_)⟩
  exact h1 as1 H1 (Ext.refl _ _) R1 _ ((E.mono e1).set r1 i)
theorem vs_lcN {i : Nat} {y : Str} {py spos : Pos} (hc : X.calm = true) (hN : X.N.Nodup) (hy : X.N[i]? = some y) (hyl : X.env.scope.names.lookup y = some .local)
    (hsw : swapsWith (.ListComp elt [⟨tg, iter, ifs, 0⟩] scope pos) (some (.Name y py)) spos.line X.env = pure true) (hi : PI X tg iter (rdI G c Wx di)) (ok : BlkOk X.N X.env.scope scope own)
    (hg : ∀ (s : Shared) (H : Hp) (C : Addr) (cl : List (Str × Addr)) (fp : List Addr), PG (X.blk s H scope (compEnvC scope cl C X.env) fp) tg (rdG G (own.map (·.2)) dg))
    (ht : ∀ (s : Shared) (H : Hp) (C : Addr) (cl : List (Str × Addr)) (fp : List Addr), PTs (X.blk s H scope (compEnvC scope cl C X.env) fp) ifs (rdT G c noX dt))
    (he : ∀ (s : Shared) (H : Hp) (C : Addr) (cl : List (Str × Addr)) (fp : List Addr), PE (X.blk s H scope (compEnvC scope cl C X.env) fp) elt (rdE G c noX de)) (hs : ∀ x, foldedSetIterable iter X.env x = pure x) :
    PS X (.Assign [.Name y py] (.ListComp elt [⟨tg, iter, ifs, 0⟩] scope pos) spos) (rdS G c Wx (sSet (dLcN (own.map (·.2)) di dg dt de) (dgName i))) := by
  refine (ps_setLc hc hN hy hyl hsw hi ok hg ht he hs).imp fun D σ H ⟨gh, as, env, s, R, E, h⟩ => lc_rd (fun ys s => (W.adr s.objs.length, s.new (.lst ys))) lc_place ⟨gh, as, env, s, R, E, rdE_in ((Pst.bind h).imp fun x s1 as1 H1 e1 R1 h1 v1 r1 => ?_)⟩
  exact h1 as1 H1 (Ext.refl _ _) R1 _ ((E.mono e1).set r1 i)
end
end
end Vi
set_option Elab.async false
set_option linter.all false
set_option maxRecDepth 100000
set_option maxHeartbeats 4000000
/-! Vi13: behind a call. -/
namespace Vi
open PySem PySem.Spec PyProof.Rows L2

theorem Ext.cut {as as1 : List Addr} {H H1 : Hp} (e : Ext as H as1 H1) : Ext as H as H1 := ⟨List.prefix_refl _, fun b h n => absurd h n, e.im, e.kp⟩
theorem cut_off {as as1 : List Addr} (p : as <+: as1) {gh : List Addr} {a : Addr} (h : a ∉ as1 ∧ a ∉ gh) : a ∉ as ∧ a ∉ gh := ⟨fun z => h.1 (p.subset z), h.2⟩
theorem cut_get {as as1 : List Addr} (p : as <+: as1) {n : Nat} (h : n < as.length) : as1[n]? = as[n]? := by
  obtain ⟨r, q⟩ := p
  rw [← q, List.getElem?_append_left h]
mutual
theorem RD.lower {G : GI} {as as1 : List Addr} {H : Hp} (p : as <+: as1) : ∀ (w : W) (v : V), belowW as.length w = true → RD G as1 H w v → RD G as H w v
  | .non, _, _, h => by cases h; exact .non
  | .bl b, _, _, h => by cases h; exact .bl b
  | .int b, _, _, h => by cases h; exact .int b
  | .str b, _, _, h => by cases h; exact .str b
  | .tup ws, _, k, h => by
    cases h with
    | tup h1 h2 => exact .tup h1 (RDs.lower p ws _ k h2)
  | .lst ws, _, k, h => by
    cases h with
    | lst h1 h2 h3 => exact .lst h1 (cut_off p h2) (RDs.lower p ws _ k h3)
  | .dct ws, _, k, h => by
    cases h with
    | dct h1 h2 h3 => exact .dct h1 (cut_off p h2) (RDk.lower p ws _ k h3)
  | .rc c ws, _, k, h => by
    cases h with
    | rc h0 h1 h2 h3 h4 => exact .rc h0 h1 (cut_off p h2) h3 (RDs.lower p ws _ k h4)
  | .adr n, _, k, h => by
    cases h with
    | adr h0 => exact .adr (by rw [← cut_get p (of_decide_eq_true k)]; exact h0)
  | .fn g, _, _, h => by
    cases h with
    | fn h0 => exact .fn h0
  | .clo _ _, _, _, h => by cases h
  | .exc c ws, _, k, h => by
    cases h with
    | exc h0 h1 h2 h3 h4 => exact .exc h0 h1 h2 h3 (RDs.lower p ws _ k h4)
theorem RDs.lower {G : GI} {as as1 : List Addr} {H : Hp} (p : as <+: as1) : ∀ (ws : List W) (vs : List V), belowWs as.length ws = true → RDs G as1 H ws vs → RDs G as H ws vs
  | [], _, _, h => by cases h; exact .nil
  | w :: ws, _, k, h => by
    have k : (belowW as.length w && belowWs as.length ws) = true := k
    rw [Bool.and_eq_true] at k
    cases h with
    | cons h1 h2 => exact .cons (RD.lower p w _ k.1 h1) (RDs.lower p ws _ k.2 h2)
theorem RDk.lower {G : GI} {as as1 : List Addr} {H : Hp} (p : as <+: as1) : ∀ (ws : List (W × W)) (vs : List (Key × V)), belowKs as.length ws = true → RDk G as1 H ws vs → RDk G as H ws vs
  | [], _, _, h => by cases h; exact .nil
  | (k, w) :: ws, _, q, h => by
    have q : (belowW as.length k && belowW as.length w && belowKs as.length ws) = true := q
    rw [Bool.and_eq_true, Bool.and_eq_true] at q
    cases h with
    | cons h0 h1 h2 => exact .cons (RD.lower p k _ q.1.1 h0) (RD.lower p w _ q.1.2 h1) (RDk.lower p ws _ q.2 h2)
end
theorem ROk.cut {G : GI} {as as1 : List Addr} {H : Hp} (p : as <+: as1) {a : Addr} : ∀ {o : O}, belowO as.length o = true → ROk G as1 H a o → ROk G as H a o
  | .lst _, k, ⟨xs, h1, h2⟩ => ⟨xs, h1, RDs.lower p _ _ k h2⟩
  | .dct _, k, ⟨xs, h1, h2⟩ => ⟨xs, h1, RDk.lower p _ _ k h2⟩
  | .ins _ l, k, ⟨C, dx, fs, h0, h1, h2, h3, h4, h5⟩ => ⟨C, dx, fs, h0, h1, h2, h3, fun i g w a b => by
      obtain ⟨v, q, r⟩ := h4 i g w a b
      exact ⟨v, q, RD.lower p _ _ (List.all_eq_true.mp k (some w) (List.mem_of_getElem? b)) r⟩, h5⟩
section
variable {G : GI} {as as1 : List Addr} {H : Hp} {objs : List O}
/-- a value with what was made since frozen -/
structure FzOk (G : GI) (as as1 : List Addr) (H : Hp) (objs : List O) : Prop where
  p : as <+: as1
  nd : as1.Nodup
  gk : ∀ b ∈ G.gh, b ∉ as1
  ob : ∀ (n : Nat) (a : Addr) (o : O), as1[n]? = some a → objs[n]? = some o → ROk G as1 H a o
theorem FzOk.off (F : FzOk G as as1 H objs) {m : Nat} {a : Addr} (h : as1[m]? = some a) (hm : ¬ m < as.length) : a ∉ as ∧ a ∉ G.gh := by
  refine ⟨fun z => ?_, fun z => F.gk a z (List.mem_of_getElem? h)⟩
  obtain ⟨j, hj, e⟩ := List.getElem_of_mem z
  have e1 : as1[j]? = some a := by rw [cut_get F.p hj, List.getElem?_eq_getElem hj, e]
  have l1 := List.getElem?_eq_some_iff.mp e1
  have l2 := List.getElem?_eq_some_iff.mp h
  have z := (List.getElem_inj F.nd).mp (l1.2.trans l2.2.symm)
  omega
mutual
theorem RD.freeze (F : FzOk G as as1 H objs) : ∀ (k : Nat) (w w' : W) (v : V), freezeW objs as.length k w = some w' → RD G as1 H w v → RD G as H w' v
  | 0, _, _, _, e, _ => by cases e
  | k + 1, .non, _, _, e, h => by cases e; cases h; exact .non
  | k + 1, .bl _, _, _, e, h => by cases e; cases h; exact .bl _
  | k + 1, .int _, _, _, e, h => by cases e; cases h; exact .int _
  | k + 1, .str _, _, _, e, h => by cases e; cases h; exact .str _
  | k + 1, .fn _, _, _, e, h => by
    cases e
    cases h with
    | fn h => exact .fn h
  | k + 1, .clo _ _, _, _, e, _ => by cases e
  | k + 1, .tup l, _, _, e, h => by
    obtain ⟨l', e1, rfl⟩ := Option.map_eq_some_iff.mp e
    cases h with
    | tup h1 h2 => exact .tup h1 (RDs.freeze F k l l' _ e1 h2)
  | k + 1, .lst l, _, _, e, h => by
    obtain ⟨l', e1, rfl⟩ := Option.map_eq_some_iff.mp e
    cases h with
    | lst h1 h2 h3 => exact .lst h1 (cut_off F.p h2) (RDs.freeze F k l l' _ e1 h3)
  | k + 1, .dct l, _, _, e, h => by
    obtain ⟨l', e1, rfl⟩ := Option.map_eq_some_iff.mp e
    cases h with
    | dct h1 h2 h3 => exact .dct h1 (cut_off F.p h2) (RDk.freeze F k l l' _ e1 h3)
  | k + 1, .rc c l, _, _, e, h => by
    obtain ⟨l', e1, rfl⟩ := Option.map_eq_some_iff.mp e
    cases h with
    | rc h0 h1 h2 h3 h4 => exact .rc h0 h1 (cut_off F.p h2) h3 (RDs.freeze F k l l' _ e1 h4)
  | k + 1, .exc c l, _, _, e, h => by
    obtain ⟨l', e1, rfl⟩ := Option.map_eq_some_iff.mp e
    cases h with
    | exc h0 h1 h2 h3 h4 => exact .exc h0 h1 h2 h3 (RDs.freeze F k l l' _ e1 h4)
  | k + 1, .adr m, _, _, e, h => by
    cases h with
    | adr h0 =>
      unfold freezeW at e
      split at e
      · rename_i hm
        cases e
        exact .adr (by rw [← cut_get F.p hm]; exact h0)
      · rename_i hm
        have off := F.off h0 hm
        split at e
        · rename_i l el
          obtain ⟨l', e1, rfl⟩ := Option.map_eq_some_iff.mp e
          obtain ⟨xs, h1, h2⟩ := F.ob m _ _ h0 el
          exact .lst (.inl h1) off (RDs.freeze F k l l' _ e1 h2)
        · rename_i l el
          obtain ⟨l', e1, rfl⟩ := Option.map_eq_some_iff.mp e
          obtain ⟨xs, h1, h2⟩ := F.ob m _ _ h0 el
          exact .dct h1 off (RDk.freeze F k l l' _ e1 h2)
        · cases e
theorem RDs.freeze (F : FzOk G as as1 H objs) : ∀ (k : Nat) (ws ws' : List W) (vs : List V), freezeWs objs as.length k ws = some ws' → RDs G as1 H ws vs → RDs G as H ws' vs
  | k, [], _, _, e, h => by
    cases h
    cases k <;> cases e <;> exact .nil
  | 0, _ :: _, _, _, e, _ => by cases e
  | k + 1, w :: ws, _, _, e, h => by
    unfold freezeWs at e
    split at e
    · rename_i y ys e1 e2
      cases e
      cases h with
      | cons h1 h2 => exact .cons (RD.freeze F k w y _ e1 h1) (RDs.freeze F k ws ys _ e2 h2)
    · cases e
theorem RDk.freeze (F : FzOk G as as1 H objs) : ∀ (k : Nat) (ws ws' : List (W × W)) (vs : List (Key × V)), freezeKs objs as.length k ws = some ws' → RDk G as1 H ws vs → RDk G as H ws' vs
  | k, [], _, _, e, h => by
    cases h
    cases k <;> cases e <;> exact .nil
  | 0, _ :: _, _, _, e, _ => by cases e
  | k + 1, (a, b) :: ws, _, _, e, h => by
    unfold freezeKs at e
    split at e
    · rename_i y z ys e1 e2 e3
      cases e
      cases h with
      | cons h0 h1 h2 => exact .cons (RD.freeze F k a y _ e1 h0) (RD.freeze F k b z _ e2 h1) (RDk.freeze F k ws ys _ e3 h2)
    · cases e
end
theorem Rep.back {H1 : Hp} {s s1 : S} (R : Rep G as H s) (R1 : Rep G as1 H1 s1) (e : Ext as H as1 H1) {t : List Nat} (hk : s1.keep = s.objs.length :: t) : Rep G as H1 (S.back s s1 t) := by
  have hp := e.pre
  have hl : as.length ≤ as1.length := hp.length_le
  have hn : s.objs.length ≤ s1.objs.length := by rw [← R.len, ← R1.len]; exact hl
  have low : ∀ (n : Nat) (o : O), n < s.objs.length → s1.objs[n]? = some o → belowO s.objs.length o = true := R1.cl _ (by rw [hk]; exact List.mem_cons_self)
  have ol : (S.back s s1 t).objs.length = s.objs.length := by
    show (s1.objs.take s.objs.length).length = _
    rw [List.length_take]
    omega
  have og : ∀ n o, (S.back s s1 t).objs[n]? = some o → n < s.objs.length ∧ s1.objs[n]? = some o := fun n o h => by
    have h : (s1.objs.take s.objs.length)[n]? = some o := h
    rw [List.getElem?_take] at h
    split at h
    · exact ⟨by assumption, h⟩
    · cases h
  have kk : ∀ k ∈ keptBy s t, k ≤ s.objs.length ∧ (k ∈ s.keep ∧ False ∨ ∃ j ∈ s1.keep, k = j ∨ k = s.objs.length) ∨ (k ∈ s.keep ∧ t = s.keep) := fun k hk' => by
    unfold keptBy at hk'
    split at hk'
    · rename_i q
      exact .inr ⟨hk', q⟩
    · obtain ⟨j, hj, ej⟩ := List.mem_map.mp hk'
      refine .inl ⟨by omega, .inr ⟨j, by rw [hk]; exact List.mem_cons_of_mem _ hj, by omega⟩⟩
  refine ⟨by rw [ol, R.len], R.nd, fun n a o h1 h2 => ?_, fun k hk' => ?_, fun k hk' n o h1 h2 => ?_, fun p hp' => R1.tb p hp', fun b hb => ⟨(R.gk b hb).1, (R1.gk b hb).2⟩⟩
  · obtain ⟨q1, q2⟩ := og n o h2
    have h1' : as1[n]? = some a := by rw [cut_get hp (by rw [R.len]; exact q1)]; exact h1
    exact (R1.ob n a o h1' q2).cut hp (by rw [R.len]; exact low n o q1 q2)
  · rw [ol]
    rcases kk k hk' with ⟨z, _⟩ | ⟨z, _⟩
    · exact z
    · exact R.kp k z
  · obtain ⟨q1, q2⟩ := og n o h2
    rcases kk k hk' with ⟨_, z⟩ | ⟨z, q⟩
    · rcases z with ⟨_, z⟩ | ⟨j, hj, z⟩
      · exact z.elim
      · rcases z with z | z
        · rw [z] at h1 ⊢
          exact R1.cl j hj n o h1 q2
        · rw [z]
          exact low n o q1 q2
    · exact R1.cl k (by rw [hk, q]; exact List.mem_cons_of_mem _ z) n o h1 q2
theorem Rep.popped {H1 : Hp} {s1 : S} (R1 : Rep G as1 H1 s1) {k : Nat} {t : List Nat} (hk : s1.keep = k :: t) : Rep G as1 H1 ⟨s1.objs, t⟩ := R1.keep (fun j hj => R1.kp j (by rw [hk]; exact List.mem_cons_of_mem _ hj)) fun j hj => R1.cl j (by rw [hk]; exact List.mem_cons_of_mem _ hj)
theorem RX.cut {H1 : Hp} {x : W} {cls : Value} {dd : Option Addr} (p : as <+: as1) (k : belowW as.length x = true) (h : RX G as1 H1 x cls dd) : RX G as H1 x cls dd := by
  obtain ⟨c, C, ws, fs, xs, rfl, h1, h2, h3, h4, h5⟩ := h
  exact ⟨c, C, ws, fs, xs, rfl, h1, h2, h3, h4, RDs.lower p _ _ k h5⟩
/-- from the call's answer to the body's -/
theorem left_ok {fz : Bool} {s : S} {Q : VK} {E : XK} (R : Rep G as H s) {w : W} {s1 : S} (h : Pst G as H E (okE G Q) (leaveOk fz s w s1)) : ∀ as1 H1, Ext as H as1 H1 → Rep G as1 H1 s1 → ∀ v, RW G as1 H1 w v → Q v H1 := by
  intro as1 H1 e R1 v r
  unfold leaveOk at h
  split at h
  · exact h.elim
  · rename_i k t hk
    split at h
    · rename_i dw
      have rd := r.data dw
      split at h
      · rename_i ek
        have ek := ek.2
        subst ek
        split at h
        · rename_i bw
          exact h as H1 e.cut (R.back R1 e hk) v (.d (RD.lower e.pre _ _ (by rw [R.len]; exact bw) rd))
        · split at h
          · rename_i w' fw
            have F : FzOk G as as1 H1 s1.objs := ⟨e.pre, R1.nd, fun b hb => (R1.gk b hb).1, R1.ob⟩
            rw [← R.len] at fw
            exact h as H1 e.cut (R.back R1 e hk) v (.d (RD.freeze F _ _ _ _ fw rd))
          · exact h as1 H1 e (R1.popped hk) v r
      · exact h as1 H1 e (R1.popped hk) v r
    · exact h.elim
theorem left_exc {s : S} {Q : VK} {E : XK} (R : Rep G as H s) {x : W} {s1 : S} (h : Pst G as H E (okE G Q) (leaveExc s x s1)) : ∀ as1 H1 cls dd, Ext as H as1 H1 → Rep G as1 H1 s1 → RX G as1 H1 x cls dd → E cls dd H1 := by
  intro as1 H1 cls dd e R1 r
  unfold leaveExc at h
  split at h
  · exact h.elim
  · rename_i k t hk
    split at h
    · rename_i q
      rw [Bool.and_eq_true, decide_eq_true_eq] at q
      obtain ⟨q1, q2⟩ := q
      subst q1
      exact h as H1 cls dd e.cut (R.back R1 e hk) (r.cut e.pre (by rw [R.len]; exact q2))
    · exact h as1 H1 cls dd e (R1.popped hk) r
theorem left {fz : Bool} {s : S} {Q : VK} {E : XK} (R : Rep G as H s) : ∀ {r : Res Flow}, Pst G as H E (okE G Q) (leave fz s r) → Pst G as H (anyX fun cls dd _ H => E cls dd H) (okS G { nx := fun _ H' => Q .non H', rt := Q }) r
  | .ok (.rt w) s1, h => fun as1 H1 e R1 v r => left_ok R h as1 H1 e R1 v r
  | .ok (.nx env) s1, h => fun as1 H1 e R1 σ _ => left_ok R h as1 H1 e R1 .non (.d .non)
  | .ok (.bk _) _, h => h.elim
  | .ok (.ct _) _, h => h.elim
  | .exc x s1, h => fun as1 H1 cls dd e R1 r _ => left_exc R h as1 H1 cls dd e R1 r
  | .bad, h => h.elim
end
end Vi
set_option Elab.async false
set_option linter.all false
set_option maxRecDepth 100000
set_option maxHeartbeats 4000000
/-! Vi14: defs, calls of defs. -/
namespace Vi
open PySem PySem.Spec PyProof.Rows L2

theorem RWs.get {G : GI} {as : List Addr} {H : Hp} {l : List W} {vs : List V} (r : RWs G as H l vs) : ∀ {i : Nat} {w : W}, l[i]? = some w → ∃ v, vs[i]? = some v ∧ RW G as H w v := by
  induction r with
  | nil => intro i w h; simp at h
  | cons h1 h2 ih =>
    intro i w h
    cases i with
    | zero =>
      simp at h
      subst h
      exact ⟨_, rfl, h1⟩
    | succ i => exact ih (i := i) (by simpa using h)
/-- a def's promise, where no guard stands -/
structure FnV (P : Program) (w : World) (K : PySem.W.Frag) (mg : Str → Option Value) (base : Heap) (k : Nat) (f : Addr) (fd : FuncData) (ps : List Str) (sp : Sp) : Prop where
  len : ∀ vs H Q E, sp vs H Q E → vs.length = ps.length
  run : ∀ (A : Around) (outer : List PySem.Env) (s : Shared) (H : Hp) (args : Args) (us : List Value) (vs : List V) (Q : VK) (E : XK), Room k A → A.guards = some [] → Env0 P w K mg base A outer s H → BindsTo s fd args (ps.zip us) → Vals vs us → sp vs H Q E →
    codeAny (model P w) A (.call (.ref f) args) (CR (L2.CX P w) outer P w H s Q E) s
/-- what is said of the call of the function value w0 with l -/
def spV (G : GI) (pg : Pg) (k : Nat) (w0 : W) (n : Nat) : Sp := fun vs H Q E => vs.length = n ∧ ∃ gh as s l, Rep (G.g gh) as H s ∧ RWs (G.g gh) as H l vs ∧ Pst (G.g gh) as H E (okE (G.g gh) Q) (callAt pg k w0 l s)
def ctAt (pg : Pg) (k : Nat) : Ct := ⟨callAt pg k, pg.fuel, pg.sub⟩
theorem start_ok {G : GI} {as : List Addr} {H : Hp} {l : List W} {vs : List V} {N : List Str} (r : RWs G as H l vs) (h : l.length ≤ N.length) : EOk G as H (startEnv N.length l) (L2.start N vs) := by
  have hl := r.length
  refine ⟨?_, fun i w q => ?_⟩
  · unfold startEnv L2.start
    simp
    omega
  · unfold startEnv at q
    by_cases hi : i < l.length
    · rw [List.getElem?_append_left (by simpa using hi), List.getElem?_map] at q
      obtain ⟨x, hx, e⟩ := Option.map_eq_some_iff.mp q
      cases e
      obtain ⟨v, hv, rv⟩ := r.get hx
      refine ⟨v, ?_, rv⟩
      unfold L2.start
      rw [List.getElem?_append_left (by simpa [← hl] using hi), List.getElem?_map, hv]
      rfl
    · rw [List.getElem?_append_right (by simpa using hi), List.getElem?_replicate] at q
      split at q <;> cases q
/-- a def of the text -/
theorem fnV {fz : Bool} {P : Program} {w : World} {K : PySem.W.Frag} {mg : Str → Option Value} {base : Heap} {r k g : Nat} {f : Addr} {name qual : Str} {params : Arguments} {body : List Stmt} {scope : Scope} {dV kV doc pm cdv ct oc : Value} {an od : Option Addr}
    {osl : Array (Option Value)} {N ps : List Str} {G : GI} {pg : Pg} {d : DS} (lk : K.lookup f = some ⟨oc, od, .func (PySem.W.fnOf name qual params body scope dV kV doc pm an cdv ct), osl⟩) (hcd : PySem.W.codeIn K cdv qual = true) (S : FnScope N ps scope)
    (hd : pg.defs[g]? = some ⟨ps.length, N.length, fz, d⟩)
    (hbody : ∀ (A : Around) (outer : List PySem.Env) (s : Shared) (H : Hp) (E : XK), Room r (A.deeper (envOfC qual scope s.heap.objs.size f cdv)) → A.guards = some [] →
      PSs (cxOf (L2.CX P w) P w K mg base N qual scope f cdv A outer s H E) body (rdS G (ctAt pg k) (fun cls dd _ H => E cls dd H) d)) :
    FnV P w K mg base (r + 1) f (PySem.W.fnOf name qual params body scope dV kV doc pm an cdv ct) ps (spV G pg (k + 1) (.fn g) ps.length) := by
  refine ⟨fun vs H Q E h => h.1, fun A outer s H args us vs Q E hr hg e0 hb rv h => ?_⟩
  obtain ⟨hl, gh, as, st, l, R, rl, h⟩ := h
  refine LamX.run_ofS lk hcd S hr e0 hb rv hl fun hr' => ⟨_, hbody A outer s H E hr' hg, gh, as, startEnv N.length l, st.enter, R.enter, ?_, ?_⟩
  · have pl : ps.length ≤ N.length := by
      have z := congrArg List.length S.pre
      rw [List.length_take] at z
      omega
    exact start_ok rl (by rw [rl.length, hl]; exact pl)
  · have e : callAt pg (k + 1) (.fn g) l st = if l.length = ps.length then leave fz st (d (ctAt pg k) (startEnv N.length l) st.enter) else .bad := by
      show (match pg.defs[g]? with
        | some d => if l.length = d.np then leave d.fz st (d.body ⟨callAt pg k, pg.fuel, pg.sub⟩ (startEnv d.ns l) st.enter) else .bad
        | none => .bad) = _
      rw [hd]
      rfl
    rw [e, if_pos (by rw [rl.length, hl])] at h
    have e2 : Ext as H as H := Ext.refl _ _
    exact left R h

/-! ### binding -/
def ConstW (w : W) (u : Value) : Prop := ∃ v, RelV v u ∧ ∀ (G : GI) (as : List Addr) (H : Hp), RD G as H w v
inductive PickR (ms : List Value) : List (Nat ⊕ W) → List Value → Prop
  | nil : PickR ms [] []
  | arg {i : Nat} {u : Value} {r : List (Nat ⊕ W)} {zs : List Value} : ms[i]? = some u → PickR ms r zs → PickR ms (.inl i :: r) (u :: zs)
  | dfl {w : W} {u : Value} {r : List (Nat ⊕ W)} {zs : List Value} : ConstW w u → PickR ms r zs → PickR ms (.inr w :: r) (u :: zs)
structure BndW (K : PySem.W.Frag) (fd : FuncData) (ps : List Str) (n : Nat) (ks : List Str) (pick : List (Nat ⊕ W)) : Prop where
  to : ∀ (s : Shared) (us ws : List Value), K.In s.heap → us.length = n → ws.length = ks.length → ∃ zs, PickR (us ++ ws) pick zs ∧ zs.length = ps.length ∧ BindsTo s fd ⟨us, ks.zip ws⟩ (ps.zip zs)
theorem vals_get {vs : List V} {us : List Value} (h : Vals vs us) : ∀ {i : Nat} {u : Value} {v : V}, us[i]? = some u → vs[i]? = some v → RelV v u := by
  induction h with
  | nil => intro i u v h; simp at h
  | cons h1 h2 ih =>
    intro i u v a b
    cases i with
    | zero =>
      simp at a b
      subst a
      subst b
      exact h1
    | succ i => exact ih (i := i) (by simpa using a) (by simpa using b)
theorem RWs.append {G : GI} {as : List Addr} {H : Hp} : ∀ {ws ws' : List W} {vs vs' : List V}, RWs G as H ws vs → RWs G as H ws' vs' → RWs G as H (ws ++ ws') (vs ++ vs')
  | _, _, _, _, .nil, k => k
  | _, _, _, _, .cons h1 h2, k => .cons h1 (RWs.append h2 k)
theorem picked {G : GI} {as : List Addr} {H : Hp} {l : List W} {vs : List V} {ms : List Value} (r : RWs G as H l vs) (rv : Vals vs ms) {pick : List (Nat ⊕ W)} {zs : List Value} (h : PickR ms pick zs) : ∀ {m : List W}, pickW l pick = some m → ∃ xs, RWs G as H m xs ∧ Vals xs zs := by
  induction h with
  | nil =>
    intro m e
    cases e
    exact ⟨[], .nil, .nil⟩
  | arg h1 h2 ih =>
    intro m e
    unfold pickW at e
    split at e
    · rename_i w m' e1 e2
      cases e
      obtain ⟨xs, a, b⟩ := ih e2
      obtain ⟨v, hv, q⟩ := r.get e1
      exact ⟨v :: xs, .cons q a, .cons (vals_get rv h1 hv) b⟩
    · cases e
  | dfl h1 h2 ih =>
    intro m e
    obtain ⟨m', e2, rfl⟩ := Option.map_eq_some_iff.mp e
    obtain ⟨xs, a, b⟩ := ih e2
    obtain ⟨v, rv, k⟩ := h1
    exact ⟨v :: xs, .cons (.d (k _ _ _)) a, .cons rv b⟩
section
variable {X : Cx} {G : GI} {pg : Pg} {Wx : WX} {lv k g n : Nat} {f : Addr} {fd : FuncData} {ps ks : List Str} {x : Str} {p pos kpos : Pos} {e : Expr} {es : List Expr} {kws : List Keyword} {pick : List (Nat ⊕ W)}
/-- the callee runs -/
theorem run_fnV {sp : Sp} {pins : List (Addr × Obj)} {σ : L2.St} {H : Hp} {s : Shared} {Q : VK} {zs us : List Value} {xs : List V} {kw : List (Str × Value)} (F : FnV X.prog X.w X.K X.mg X.base lv f fd ps sp) (hr : Room lv X.A) (hgd : X.A.guards = some []) (tk : Takes X Wx)
    (I : Inv X pins σ H s) (r : Vals xs zs) (hb : BindsTo s fd ⟨us, kw⟩ (ps.zip zs)) (h : sp xs H Q (fun cls d H' => Wx cls d σ H')) : wpAny (model X.prog X.w) X.A (call (.ref f) us kw) (EP X pins σ Q) X.xe s := by
  refine wpAny_call (codeAny_mono (F.run X.A X.stack s H ⟨us, kw⟩ zs xs Q _ hr hgd I.env0 hb r h) fun r s' hq => ?_)
  cases r with
  | error e => exact tk e s' (XE.of_call I (fun _ _ _ h => h) hq)
  | ok fl =>
    cases fl with
    | ret u => exact I.after hq
    | next => exact False.elim hq
    | brk => exact False.elim hq
    | cont => exact False.elim hq
theorem run_pick {pins : List (Addr × Obj)} {σ : L2.St} {H : Hp} {s : Shared} {Q : VK} {us ws : List Value} {l : List W} {vs : List V} {gh as : List Addr} {st : S} (F : FnV X.prog X.w X.K X.mg X.base lv f fd ps (spV G pg k (.fn g) ps.length)) (hr : Room lv X.A) (hgd : X.A.guards = some []) (tk : Takes X Wx)
    (hb : BndW X.K fd ps n ks pick) (I : Inv X pins σ H s) (hn : us.length = n) (hw : ws.length = ks.length) (r : Vals vs (us ++ ws)) (R : Rep (G.g gh) as H st) (rl : RWs (G.g gh) as H l vs)
    (h : Pst (G.g gh) as H (fun cls dd H' => Wx cls dd σ H') (okE (G.g gh) Q) (callP (ctAt pg k) g pick l st)) : wpAny (model X.prog X.w) X.A (call (.ref f) us (ks.zip ws)) (EP X pins σ Q) X.xe s := by
  obtain ⟨zs, hz, hl, hbt⟩ := hb.to s us ws I.kIn hn hw
  unfold callP at h
  split at h
  · rename_i m em
    obtain ⟨xs, a, b⟩ := picked rl r hz em
    exact run_fnV F hr hgd tk I b hbt ⟨by rw [b.length, hl], gh, as, st, m, R, a, h⟩
  · exact h.elim
/-- the answer's length is known -/
def DaLen (d : DA) (n : Nat) : Prop := ∀ c env s l s', d c env s = .ok l s' → l.length = n
theorem Res.bind_ok {α β : Type} {r : Res α} {f : α → S → Res β} {b : β} {s : S} (h : r.bind f = .ok b s) : ∃ a s1, r = .ok a s1 ∧ f a s1 = .ok b s := by
  cases r with
  | ok a s1 => exact ⟨a, s1, rfl, h⟩
  | exc x s1 => cases h
  | bad => cases h
theorem len_nil : DaLen daNil 0 := fun c env s l s' h => by cases h; rfl
theorem len_cons {a : DE} {r : DA} {n : Nat} (h : DaLen r n) : DaLen (daCons a r) (n + 1) := fun c env s l s' e => by
  obtain ⟨x, s1, _, e⟩ := Res.bind_ok e
  obtain ⟨xs, s2, e2, e⟩ := Res.bind_ok e
  cases e
  rw [List.length_cons, h _ _ _ _ _ e2]
theorem args_of {β : Type} {c : Ct} {d : DA} {f : List W → S → Res β} {ok : β → S → List Addr → Hp → Prop} {σ : L2.St} {H : Hp} {gh as : List Addr} {env : Env} {st : S} (hl : DaLen d n) (R : Rep (G.g gh) as H st) (E : EOk (G.g gh) as H env σ) (h : Pst (G.g gh) as H (fun cls dd H' => Wx cls dd σ H') ok ((d c env st).bind f)) :
    rdA G c Wx d σ H fun vs H1 => ∃ as1 st1 l, Ext as H as1 H1 ∧ Rep (G.g gh) as1 H1 st1 ∧ RWs (G.g gh) as1 H1 l vs ∧ vs.length = n ∧ Pst (G.g gh) as1 H1 (fun cls dd H' => Wx cls dd σ H') ok (f l st1) := by
  refine ⟨gh, as, env, st, R, E, ?_⟩
  have h := Pst.bind h
  cases er : d c env st with
  | bad =>
    rw [er] at h
    exact h.elim
  | exc x s' =>
    rw [er] at h
    exact h
  | ok l s' =>
    rw [er] at h
    intro as1 H1 e1 R1 vs rl
    exact ⟨as1, s', l, e1, R1, rl, by rw [← rl.length]; exact hl _ _ _ _ _ er, h as1 H1 e1 R1⟩
/-- f(e, ..) -/
theorem ve_call {d : DA} (F : FnV X.prog X.w X.K X.mg X.base lv f fd ps (spV G pg k (.fn g) ps.length)) (hr : Room lv X.A) (hgd : X.A.guards = some []) (tk : Takes X Wx) (hb : BndW X.K fd ps n [] pick) (hg : Gl X x) (hm : X.mg x = some (.ref f)) (hk : PySem.W.keepIn X.K (.ref f) = true)
    (ha : PA X (e :: es) (rdA G (ctAt pg k) Wx d)) (hlen : DaLen d n) (hs : (e :: es).all noStar = true) (hdb : (x == ("__debug__" : Str)) = false) : PE X (.Call (.Name x p) (e :: es) [] pos) (rdE G (ctAt pg k) Wx (dCall g pick d)) := by
  have hs' : noStar e = true ∧ es.all noStar = true := by rw [List.all_cons, Bool.and_eq_true] at hs; exact hs
  refine ⟨fun pins s σ H Q I ⟨gh, as, env, st, R, E, h⟩ => ?_⟩
  refine wpAny_Call_Name_kw (ld_glob I hg hm ?_ hdb)
  refine PySem.W.callWith_K (h₀ := X.base) I.ok.mod.kin hk (thn (ha.run pos pins s σ H _ I (args_of hlen R E h)) fun us s1 ⟨vs, H1, I1, rv, as1, st1, l, e1, R1, rl, hl, h1⟩ => ⟨I1.kIn, ?_⟩) (star_of hs'.1 es X.env) (plain_args hs'.2 pos X.env)
  exact run_pick (ks := []) (ws := []) F hr hgd tk hb I1 (rv.length.symm.trans hl) rfl (by rw [List.append_nil]; exact rv) R1 rl h1
theorem ve_call0 (F : FnV X.prog X.w X.K X.mg X.base lv f fd ps (spV G pg k (.fn g) ps.length)) (hr : Room lv X.A) (hgd : X.A.guards = some []) (tk : Takes X Wx) (hb : BndW X.K fd ps 0 [] pick) (hg : Gl X x) (hm : X.mg x = some (.ref f)) (hk : PySem.W.keepIn X.K (.ref f) = true)
    (hdb : (x == ("__debug__" : Str)) = false) : PE X (.Call (.Name x p) [] [] pos) (rdE G (ctAt pg k) Wx (dCall g pick daNil)) := by
  refine ⟨fun pins s σ H Q I ⟨gh, as, env, st, R, E, h⟩ => ?_⟩
  refine wpAny_Call_Name_kw (ld_glob I hg hm ?_ hdb)
  exact PySem.W.callWith_K0 I.kIn hk (run_pick (ks := []) (us := []) (ws := []) (l := []) F hr hgd tk hb I rfl rfl .nil R .nil h)
/-! ### keywords -/
theorem vk_nil {c : Ct} : PK X [] (rdA G c Wx daNil) := ⟨fun pos pins s σ H Q I ⟨gh, as, env, st, R, E, h⟩ => pk_nil.run pos pins s σ H Q I (h as H (Ext.refl _ _) R [] .nil)⟩
theorem vk_cons {c : Ct} {d : DE} {r : DA} {nm : Option Str} (he : PE X e (rdE G c Wx d)) (hr : PK X kws (rdA G c Wx r)) : PK X (⟨nm, e, kpos⟩ :: kws) (rdA G c Wx (daCons d r)) := ⟨fun pos pins s σ H Q I ⟨gh, as, env, st, R, E, h⟩ => by
  refine (pk_cons he hr).run pos pins s σ H Q I ⟨gh, as, env, st, R, E, (Pst.bind h).imp fun x s1 as1 H1 e1 R1 h1 v1 r1 => ⟨gh, as1, env, s1, R1, E.mono e1, (Pst.bind h1).imp fun l s2 as2 H2 e2 R2 h2 vs r2 => ?_⟩⟩
  exact h2 as2 H2 (Ext.refl _ _) R2 (v1 :: vs) (.cons (r1.mono e2) r2)⟩
theorem kw_facts (pos : Pos) (env : PySem.Env) : ∀ {kws : List Keyword} {ks : List Str}, kws.map (·.arg) = ks.map some →
    (backToKw pos (keywordEach kws env)).all (·.1.isSome) = true ∧ (backToKw pos (keywordEach kws env)).filterMap (·.1) = ks ∧ (backToKw pos (keywordEach kws env)).any (·.1.isNone) = false
  | [], [], _ => ⟨rfl, rfl, rfl⟩
  | [], _ :: _, h => by cases h
  | _ :: _, [], h => by cases h
  | ⟨nm, v, p⟩ :: kws, k :: ks, h => by
    rw [List.map_cons, List.map_cons, List.cons.injEq] at h
    obtain ⟨h1, h2⟩ := h
    have h1 : nm = some k := h1
    subst h1
    obtain ⟨a, b, c⟩ := kw_facts pos env h2
    refine ⟨?_, ?_, ?_⟩
    · show (true && (backToKw pos (keywordEach kws env)).all (·.1.isSome)) = true
      rw [a]
      rfl
    · show k :: (backToKw pos (keywordEach kws env)).filterMap (·.1) = _
      rw [b]
    · show (false || (backToKw pos (keywordEach kws env)).any (·.1.isNone)) = false
      rw [c]
      rfl
/-- f(k = v, ..) -/
theorem ve_callK0 {d : DA} (F : FnV X.prog X.w X.K X.mg X.base lv f fd ps (spV G pg k (.fn g) ps.length)) (hr : Room lv X.A) (hgd : X.A.guards = some []) (tk : Takes X Wx) (hb : BndW X.K fd ps 0 ks pick) (hg : Gl X x) (hm : X.mg x = some (.ref f)) (hk : PySem.W.keepIn X.K (.ref f) = true)
    (hkw : PK X kws (rdA G (ctAt pg k) Wx d)) (hlen : DaLen d ks.length) (hks : kws.map (·.arg) = ks.map some) (hdb : (x == ("__debug__" : Str)) = false) : PE X (.Call (.Name x p) [] kws pos) (rdE G (ctAt pg k) Wx (dCall g pick d)) := by
  obtain ⟨k1, k2, k3⟩ := kw_facts pos X.env hks
  refine ⟨fun pins s σ H Q I ⟨gh, as, env, st, R, E, h⟩ => ?_⟩
  refine wpAny_Call_Name_kw (ld_glob I hg hm ?_ hdb)
  refine PySem.W.callWith_KW0 (h₀ := X.base) I.ok.mod.kin hk k1 (thn (hkw.run pos pins s σ H _ I (args_of hlen R E h)) fun ws s1 ⟨vs, H1, I1, rv, as1, st1, l, e1, R1, rl, hl, h1⟩ => ⟨I1.kIn, ?_⟩) k3
  rw [k2]
  exact run_pick (us := []) F hr hgd tk hb I1 rfl (rv.length.symm.trans hl) rv R1 rl h1
/-- f(e, .., k = v, ..) -/
theorem ve_callK {d d2 : DA} (F : FnV X.prog X.w X.K X.mg X.base lv f fd ps (spV G pg k (.fn g) ps.length)) (hr : Room lv X.A) (hgd : X.A.guards = some []) (tk : Takes X Wx) (hb : BndW X.K fd ps n ks pick) (hg : Gl X x) (hm : X.mg x = some (.ref f)) (hk : PySem.W.keepIn X.K (.ref f) = true)
    (ha : PA X (e :: es) (rdA G (ctAt pg k) Wx d)) (hlen : DaLen d n) (hkw : PK X kws (rdA G (ctAt pg k) Wx d2)) (hlen2 : DaLen d2 ks.length) (hks : kws.map (·.arg) = ks.map some) (hs : (e :: es).all noStar = true) (hdb : (x == ("__debug__" : Str)) = false) :
    PE X (.Call (.Name x p) (e :: es) kws pos) (rdE G (ctAt pg k) Wx (dCall g pick (daApp d d2))) := by
  obtain ⟨k1, k2, k3⟩ := kw_facts pos X.env hks
  have hs' : noStar e = true ∧ es.all noStar = true := by rw [List.all_cons, Bool.and_eq_true] at hs; exact hs
  refine ⟨fun pins s σ H Q I ⟨gh, as, env, st, R, E, h⟩ => ?_⟩
  have h : Pst (G.g gh) as H (fun cls dd H' => Wx cls dd σ H') (okE (G.g gh) Q) ((d (ctAt pg k) env st).bind fun l s => (d2 (ctAt pg k) env s).bind fun m s => callP (ctAt pg k) g pick (l ++ m) s) := by
    unfold dCall daApp at h
    rw [Res.bind_assoc] at h
    have e : (fun l s => ((d2 (ctAt pg k) env s).bind fun m s => Res.ok (l ++ m) s).bind fun l s => callP (ctAt pg k) g pick l s) = fun l s => (d2 (ctAt pg k) env s).bind fun m s => callP (ctAt pg k) g pick (l ++ m) s := by
      funext l s
      rw [Res.bind_assoc]
      rfl
    rw [e] at h
    exact h
  refine wpAny_Call_Name_kw (ld_glob I hg hm ?_ hdb)
  have hpl : ((PySem.backTo pos (starEach (e :: es) X.env)).any (·.1) || (backToKw pos (keywordEach kws X.env)).any (·.1.isNone)) = false := by
    rw [plain_args hs pos X.env, k3]
    rfl
  refine PySem.W.callWith_KW (h₀ := X.base) I.ok.mod.kin hk k1 (thn (ha.run pos pins s σ H _ I (args_of hlen R E h)) fun us s1 ⟨vs, H1, I1, rv, as1, st1, l, e1, R1, rl, hl, h1⟩ => ?_) hpl (star_of hs'.1 es X.env)
  refine thn (hkw.run pos pins s1 σ H1 _ I1 (args_of hlen2 R1 (E.mono e1) h1)) fun ws s2 ⟨zs, H2, I2, rz, as2, st2, m, e2, R2, rm, hm2, h2⟩ => ⟨I2.kIn, ?_⟩
  rw [k2]
  exact run_pick F hr hgd tk hb I2 (rv.length.symm.trans hl) (rz.length.symm.trans hm2) (rv.append rz) R2 ((RWs.mono e2 rl).append rm) h2
end
end Vi
set_option Elab.async false
set_option linter.all false
set_option maxRecDepth 100000
set_option maxHeartbeats 4000000
/-! Vi15: objects that are known whole for a while. -/
namespace Vi
open PySem PySem.Spec PyProof.Rows L2

def hid (H : Hp) (Z : List Addr) : Hp := fun b => if b ∈ Z then none else H b
def track (H : Hp) (h : Heap) (Z : List Addr) : Hp := fun b => if b ∈ Z then (h.get? b).map XO else H b
theorem hid_in {H : Hp} {Z : List Addr} {b : Addr} (h : b ∈ Z) : hid H Z b = none := if_pos h
theorem hid_out {H : Hp} {Z : List Addr} {b : Addr} (h : b ∉ Z) : hid H Z b = H b := if_neg h
theorem track_in {H : Hp} {h : Heap} {Z : List Addr} {b : Addr} (m : b ∈ Z) : track H h Z b = (h.get? b).map XO := if_pos m
theorem track_out {H : Hp} {h : Heap} {Z : List Addr} {b : Addr} (m : b ∉ Z) : track H h Z b = H b := if_neg m
/-- the heaps agree, but for the objects that are known whole -/
def Agree (H H' : Hp) : Prop := ∀ b o, H b = some o → (∀ ob, o ≠ XO ob) → H' b = some o
theorem Agree.sqT {K : PySem.W.Frag} {H H' : Hp} (k : Agree H H') {a : Addr} {xs : List V} (h : SqT K H a xs) : SqT K H' a xs := by
  rcases h with (h | ⟨o, h⟩) | h
  · exact .inl (.inl (k a _ h fun _ z => by cases z))
  · exact .inl (.inr ⟨o, k a _ h fun _ z => by cases z⟩)
  · exact .inr h
theorem Agree.rd {H H' : Hp} (k : Agree H H') {a : Addr} {xs : List V} (h : Rd H a (.lst xs)) : Rd H' a (.lst xs) := by
  rcases h with h | ⟨o, h⟩
  · exact .inl (k a _ h fun _ z => by cases z)
  · exact .inr ⟨o, k a _ h fun _ z => by cases z⟩
theorem Agree.xd {H H' : Hp} (k : Agree H H') : ∀ {d : Option Addr} {fs : List (Str × V)}, xdP H d fs → xdP H' d fs
  | none, _, h => h
  | some d, _, h => k d _ h fun _ z => by cases z
mutual
theorem RD.agree {G : GI} {as : List Addr} {H H' : Hp} (k : Agree H H') : ∀ (w : W) (v : V), RD G as H w v → RD G as H' w v
  | .non, _, h => by cases h; exact .non
  | .bl b, _, h => by cases h; exact .bl b
  | .int b, _, h => by cases h; exact .int b
  | .str b, _, h => by cases h; exact .str b
  | .tup ws, _, h => by
    cases h with
    | tup h1 h2 => exact .tup (k.sqT h1) (RDs.agree k ws _ h2)
  | .lst ws, _, h => by
    cases h with
    | lst h1 h2 h3 => exact .lst (k.rd h1) h2 (RDs.agree k ws _ h3)
  | .dct ws, _, h => by
    cases h with
    | dct h1 h2 h3 => exact .dct (k _ _ h1 fun _ z => by cases z) h2 (RDk.agree k ws _ h3)
  | .rc c ws, _, h => by
    cases h with
    | rc h0 h1 h2 h3 h4 => exact .rc h0 (k _ _ h1 fun _ z => by cases z) h2 h3 (RDs.agree k ws _ h4)
  | .adr n, _, h => by
    cases h with
    | adr h0 => exact .adr h0
  | .fn g, _, h => by
    cases h with
    | fn h0 => exact .fn h0
  | .clo _ _, _, h => by cases h
  | .exc c ws, _, h => by
    cases h with
    | exc h0 h1 h2 h3 h4 => exact .exc h0 (k _ _ h1 fun _ z => by cases z) (k.xd h2) h3 (RDs.agree k ws _ h4)
theorem RDs.agree {G : GI} {as : List Addr} {H H' : Hp} (k : Agree H H') : ∀ (ws : List W) (vs : List V), RDs G as H ws vs → RDs G as H' ws vs
  | [], _, h => by cases h; exact .nil
  | w :: ws, _, h => by
    cases h with
    | cons h1 h2 => exact .cons (RD.agree k w _ h1) (RDs.agree k ws _ h2)
theorem RDk.agree {G : GI} {as : List Addr} {H H' : Hp} (k : Agree H H') : ∀ (ws : List (W × W)) (vs : List (Key × V)), RDk G as H ws vs → RDk G as H' ws vs
  | [], _, h => by cases h; exact .nil
  | (a, w) :: ws, _, h => by
    cases h with
    | cons h0 h1 h2 => exact .cons (RD.agree k a _ h0) (RD.agree k w _ h1) (RDk.agree k ws _ h2)
end
theorem ROk.agree {G : GI} {as : List Addr} {H H' : Hp} (k : Agree H H') {a : Addr} : ∀ {o : O}, ROk G as H a o → ROk G as H' a o
  | .lst _, ⟨xs, h1, h2⟩ => ⟨xs, k _ _ h1 (fun _ z => by cases z), RDs.agree k _ _ h2⟩
  | .dct _, ⟨xs, h1, h2⟩ => ⟨xs, k _ _ h1 (fun _ z => by cases z), RDk.agree k _ _ h2⟩
  | .ins _ _, ⟨C, dx, fs, h0, h1, h2, h3, h4, h5⟩ => ⟨C, dx, fs, h0, k _ _ h1 (fun _ z => by cases z), h2, h3, fun i f w a b => by
      obtain ⟨v, q, r⟩ := h4 i f w a b
      exact ⟨v, q, RD.agree k _ _ r⟩, h5⟩
theorem Rep.agree {G : GI} {as : List Addr} {H H' : Hp} {s : S} (k : Agree H H') (R : Rep G as H s) : Rep G as H' s := by
  refine ⟨R.len, R.nd, fun n a o h1 h2 => (R.ob n a o h1 h2).agree k, R.kp, R.cl, fun p hp => ?_, fun b hb => ⟨(R.gk b hb).1, (R.gk b hb).2.imp fun xs q => k b _ q fun _ z => by cases z⟩⟩
  obtain ⟨ps, e1, e2, e3⟩ := R.tb p hp
  refine ⟨ps, k _ _ e1 (fun _ z => by cases z), e2, fun pos cv q => ?_⟩
  obtain ⟨c, r1, r2⟩ := e3 pos cv q
  exact ⟨c, r1, k _ _ r2 (fun _ z => by cases z)⟩
theorem RX.agree {G : GI} {as : List Addr} {H H' : Hp} {x : W} {cls : Value} {dd : Option Addr} (k : Agree H H') (h : RX G as H x cls dd) : RX G as H' x cls dd := by
  obtain ⟨c, C, ws, fs, xs, rfl, h1, h2, h3, h4, h5⟩ := h
  exact ⟨c, C, ws, fs, xs, rfl, h1, h2, k.xd h3, h4, RDs.agree k _ _ h5⟩
/-- what stands at Z is known whole -/
def Whole (H : Hp) (Z : List Addr) : Prop := ∀ z ∈ Z, ∃ ob, H z = some (XO ob)
theorem agree_hid {H : Hp} {Z : List Addr} (hz : Whole H Z) : Agree H (hid H Z) := fun b o e n => by
  by_cases m : b ∈ Z
  · obtain ⟨ob, q⟩ := hz b m
    rw [e] at q
    exact absurd (Option.some.inj q) (n ob)
  · rw [hid_out m]
    exact e
theorem agree_sup {H H' : Hp} (k : ∀ b o, H b = some o → H' b = some o) : Agree H H' := fun b o e _ => k b o e
section
variable {P : Program} {w : World} {H H' : Hp} {h h' B : Heap} {Z : List Addr} {fs ex : List Addr} {as as' : List Addr}
theorem track_sup (hn : ∀ z ∈ Z, H z = none) : ∀ b o, H b = some o → track H h Z b = some o := fun b o e => by
  rw [track_out fun m => by rw [hn b m] at e; cases e]
  exact e
theorem hok_track (ok : HOk P w H h) (hn : ∀ z ∈ Z, H z = none) : HOk P w (track H h Z) h := fun b o e => by
  by_cases m : b ∈ Z
  · rw [track_in m] at e
    obtain ⟨ob, q, rfl⟩ := Option.map_eq_some_iff.mp e
    exact ⟨q, True.intro, ⟨ob, q⟩, fun _ _ _ _ => True.intro⟩
  · rw [track_out m] at e
    exact (ok b o e).stay (fun _ _ _ q => q) (fun c q => track_sup hn c _ q) fun c xs q => track_sup hn c _ q
theorem hok_hid (ok : HOk P w H h) (hz : Whole H Z) : HOk P w (hid H Z) h := fun b o e => by
  by_cases m : b ∈ Z
  · rw [hid_in m] at e
    cases e
  · rw [hid_out m] at e
    exact (ok b o e).stay (fun _ _ _ q => q) (fun c q => agree_hid hz c _ q fun _ z => by cases z) fun c xs q => agree_hid hz c _ q fun _ z => by cases z
theorem whole_later (u : ∀ b o v, track H h Z b = some (.frz o v) → H' b = some (.frz o v)) (ho : ∀ z ∈ Z, ∃ o, h.get? z = some o) : Whole H' Z ∧ ∀ z ∈ Z, ∀ o, h.get? z = some o → H' z = some (XO o) := by
  have q : ∀ z ∈ Z, ∀ o, h.get? z = some o → H' z = some (XO o) := fun z m o e => u z o _ (by rw [track_in m, e]; rfl)
  refine ⟨fun z m => ?_, q⟩
  obtain ⟨o, e⟩ := ho z m
  exact ⟨o, q z m o e⟩
theorem un_hid (u : Un fs ex (track H h Z) H' h h') (ok : HOk P w H' h') (hn : ∀ z ∈ Z, H z = none) (ho : ∀ z ∈ Z, ∃ o, h.get? z = some o) (hf : ∀ z ∈ Z, z ∉ fs) : Un fs ex H (hid H' Z) h h' := by
  obtain ⟨hw, at_⟩ := whole_later u.frzs ho
  have nz : ∀ b o, H b = some o → b ∉ Z := fun b o e m => by
    rw [hn b m] at e
    cases e
  refine ⟨fun b o e n h1 h2 => ?_, fun b o e n h1 h2 => ?_, fun b o e n h2 => ?_, u.there, fun b xs e => ?_, fun b o v e => ?_, fun b ps e => ?_⟩
  · by_cases m : b ∈ Z
    · exact (ok b _ (at_ b m o e)).1
    · exact u.keep b o e (by rw [track_out m]; exact n) h1 h2
  · exact u.slot b o e (by rw [track_out fun m => hf b m h1]; exact n) h1 h2
  · by_cases m : b ∈ Z
    · exact hid_in m
    · rw [hid_out m]
      exact u.free b o e (by rw [track_out m]; exact n) h2
  · rw [hid_out (nz b _ e)]
    exact u.tups b xs (by rw [track_out (nz b _ e)]; exact e)
  · rw [hid_out (nz b _ e)]
    exact u.frzs b o v (by rw [track_out (nz b _ e)]; exact e)
  · obtain ⟨more, q⟩ := u.tbls b ps (by rw [track_out (nz b _ e)]; exact e)
    exact ⟨more, by rw [hid_out (nz b _ e)]; exact q⟩
theorem ub_hid (u : UB fs (track H h Z) H' h B h') (ok : HOk P w H' B) (hn : ∀ z ∈ Z, H z = none) (ho : ∀ z ∈ Z, ∃ o, h.get? z = some o) (hf : ∀ z ∈ Z, z ∉ fs) : UB fs H (hid H' Z) h B h' := by
  obtain ⟨hw, at_⟩ := whole_later u.frzs ho
  have nz : ∀ b o, H b = some o → b ∉ Z := fun b o e m => by
    rw [hn b m] at e
    cases e
  refine ⟨fun b o e n h1 => ?_, u.slot, fun b o e n => ?_, u.there, fun b xs e => ?_, fun b o v e => ?_, fun b ps e => ?_⟩
  · by_cases m : b ∈ Z
    · exact (ok b _ (at_ b m o e)).1
    · exact u.keep b o e (by rw [track_out m]; exact n) h1
  · by_cases m : b ∈ Z
    · exact hid_in m
    · rw [hid_out m]
      exact u.free b o e (by rw [track_out m]; exact n)
  · rw [hid_out (nz b _ e)]
    exact u.tups b xs (by rw [track_out (nz b _ e)]; exact e)
  · rw [hid_out (nz b _ e)]
    exact u.frzs b o v (by rw [track_out (nz b _ e)]; exact e)
  · obtain ⟨more, q⟩ := u.tbls b ps (by rw [track_out (nz b _ e)]; exact e)
    exact ⟨more, by rw [hid_out (nz b _ e)]; exact q⟩
theorem ext_hid (e : Ext as (track H h Z) as' H') (hn : ∀ z ∈ Z, H z = none) : Ext as H as' (hid H' Z) := by
  have nz : ∀ b o, H b = some o → b ∉ Z := fun b o e m => by
    rw [hn b m] at e
    cases e
  refine ⟨e.pre, fun b m n o q => e.fr b m n o (by rw [track_out (nz b o q)]; exact q), fun b o q i => ?_, fun b o q n t => ?_⟩
  · rw [hid_out (nz b o q)]
    exact e.im b o (by rw [track_out (nz b o q)]; exact q) i
  · rw [hid_out (nz b o q)]
    exact e.kp b o (by rw [track_out (nz b o q)]; exact q) n t
end
/-- a call, entered with Z known whole, comes back with Z let go -/
theorem cr_hid {P : Program} {w : World} {outer : List PySem.Env} {H : Hp} {s s' : Shared} {Z : List Addr} {Q Q' : VK} {E E' : XK} {r : Result} (hn : ∀ z ∈ Z, H z = none) (ho : ∀ z ∈ Z, ∃ o, s.heap.get? z = some o) (hf : ∀ z ∈ Z, z ∉ frs outer)
    (hQ : ∀ v H', Whole H' Z → Q' v H' → Q v (hid H' Z)) (hE : ∀ cls d H', Whole H' Z → E' cls d H' → E cls d (hid H' Z)) (c : CR (L2.CX P w) outer P w (track H s.heap Z) s Q' E' r s') : CR (L2.CX P w) outer P w H s Q E r s' := by
  cases r with
  | error e =>
    obtain ⟨a, B, H', cls, d, rfl, fl, ok, ub, na, os, ag, q⟩ := c
    have wh := (whole_later ub.frzs ho).1
    refine ⟨a, B, hid H' Z, cls, d, rfl, fl, hok_hid ok wh, ub_hid ub ok hn ho hf, ?_, os, ag, hE _ _ _ wh q⟩
    by_cases m : a ∈ Z
    · exact hid_in m
    · rw [hid_out m]
      exact na
  | ok fl =>
    cases fl with
    | ret u =>
      obtain ⟨v, H', os, ag, un, ok, rv, q⟩ := c
      have wh := (whole_later un.frzs ho).1
      exact ⟨v, hid H' Z, os, ag, un_hid un ok hn ho hf, hok_hid ok wh, rv, hQ _ _ wh q⟩
    | next => exact c
    | brk => exact c
    | cont => exact c
theorem env0_track {P : Program} {w : World} {K : PySem.W.Frag} {mg : Str → Option Value} {base : Heap} {A : Around} {outer : List PySem.Env} {s : Shared} {H : Hp} {Z : List Addr} (e : Env0 P w K mg base A outer s H) (hn : ∀ z ∈ Z, H z = none) (hb : ∀ z ∈ Z, base.get? z = none) (hf : ∀ z ∈ Z, z ∉ frs outer) :
    Env0 P w K mg base A outer s (track H s.heap Z) := by
  refine ⟨e.frames, e.mod, fun b o q => ⟨(e.bs b o q).1, ?_⟩, e.bsz, e.funs, fun b hb' => ?_, hok_track e.hok hn, e.bare⟩
  · rw [track_out fun m => by rw [hb b m] at q; cases q]
    exact (e.bs b o q).2
  · rw [track_out fun m => hf b m hb']
    exact e.frf b hb'
end Vi
set_option Elab.async false
set_option linter.all false
set_option maxRecDepth 100000
set_option maxHeartbeats 4000000
/-! Vi16: lambdas are made and handed over. -/
namespace Vi
open PySem PySem.Spec PyProof.Rows L2

section
variable {X : Cx} {pins : List (Addr × Obj)} {σ : L2.St} {H : Hp} {s : Shared}
/-- as LamX.lam_make2, and the function's object is new -/
theorem lam_new {T : List (Addr × Str)} {c P : Addr} {pa : Arguments} {b : Expr} {sc : Scope} {lp : Pos} {E : Value → Shared → Prop} {Q : Value → Shared → Prop} (I : Inv X pins σ H s) (TB : LamX.TabB X.base X.mg c P) (hcode : X.env.code = .ref c)
    (hm : (P, X.env.qual ++ "<lambda>") ∈ T) (hu : ∀ p ∈ T, p.1 = P → p.2 = X.env.qual ++ "<lambda>") (hT : LamX.Tabs T H) (hdef : defaultsOf pa X.env = ([], [])) (hfree : ∀ y ∈ sc.names, y.2 = .free → ∃ c, X.env.cells.lookup y.1 = some c)
    (h : ∀ (f k : Addr) (pm tv : Value) (H1 : Hp) (s1 : Shared), s.heap.objs.size ≤ f → Inv X pins σ H1 s1 → LamX.ExtN H H1 → LamX.Tabs T H1 →
      s1.heap.get? f = some (PySem.W.kla_obj "<lambda>" (X.env.qual ++ "<lambda>") pa b sc (cloFrom X.env.cells sc.names []) pm k tv) → H1 f = none → H1 k = some (LamX.CodeO k (X.env.qual ++ "<lambda>")) → Q (.ref f) s1) :
    wpAny (model X.prog X.w) X.A (eval (.Lambda pa b sc lp) X.env) Q E s := by
  obtain ⟨tab, eP, tri, known⟩ := hT _ hm
  have blt : s.heap.BuiltinsAt X.mg P := TB.bm.keeps I.bk
  have tabAt : s.heap.get? P = some { cls := .none, data := .fields tab } := I.hok P _ eP
  refine PySem.W.kla_eval hdef ?_
  cases look : codeAmong lp tab.toList with
  | some cv =>
    obtain ⟨k, ek, ok⟩ := known lp cv look
    rw [ek] at look
    refine PySem.W.kla_makeFunctionHit (mg := X.mg) (c := c) (P := P) (ps := tab) (closure_ok hfree) I.ok.glob (I.mod.glob.keeps I.bk) hcode (TB.code.keeps I.bk) tabAt tri look blt fun tv g tk grow big => ?_
    refine h g.objs.size k _ tv H _ big (I.kept (h' := g.push _) (t' := tk) fun a o e => Heap.get?_push_of_some _ (grow a o e)) (LamX.ExtN.refl H) hT (Heap.get?_push_size _ rfl) (I.hok.fresh big) ok
  | none =>
    refine PySem.W.kla_makeFunction (mg := X.mg) (c := c) (P := P) (ps := tab) (closure_ok hfree) I.ok.glob (I.mod.glob.keeps I.bk) hcode (TB.code.keeps I.bk) tabAt tri look TB.gP blt fun k tv g tk grow big small record table => ?_
    obtain ⟨k2, ob, fs, t, e2, at_, dat, nm⟩ := record
    cases e2
    have big2 : s.heap.objs.size ≤ g.objs.size := Nat.le_of_lt (Nat.lt_of_le_of_lt big small)
    have freshK : H k = none := I.hok.fresh big
    have J := LamX.inv_table (t' := tk) (more := #[rawInt lp.line, rawInt lp.col, .ref k]) (h' := g.push (PySem.W.kla_obj "<lambda>" (X.env.qual ++ "<lambda>") pa b sc (cloFrom X.env.cells sc.names []) ((X.mg "__name__").getD .none) k tv)) I eP
      (fun a o ne e => Heap.get?_push_of_some _ (grow a o ne e)) (Heap.get?_push_of_some _ table) big ⟨ob, fs, t, Heap.get?_push_of_some _ at_, dat, nm⟩
    have stays : LamX.ExtN H (upd (upd H P (.tbl (tab ++ #[rawInt lp.line, rawInt lp.col, .ref k]))) k (LamX.CodeO k (X.env.qual ++ "<lambda>"))) := fun a o e n => by
      have h1 : a ≠ k := ne_of_none e freshK
      have h2 : a ≠ P := fun z => by
        rw [z, eP] at e
        exact n tab (Option.some.inj e).symm
      rw [upd_ne h1, upd_ne h2]
      exact e
    have lst : (tab ++ #[rawInt lp.line, rawInt lp.col, .ref k]).toList = tab.toList ++ [rawInt lp.line, rawInt lp.col, .ref k] := by simp
    refine h g.objs.size k _ tv _ _ big2 J stays (fun p hp => ?_) (Heap.get?_push_size _ rfl) ?_ upd_same
    · by_cases same : p.1 = P
      · rw [hu p hp same, same]
        refine ⟨_, by rw [upd_ne (ne_of_none eP freshK), upd_same], by rw [lst]; exact PySem.TriplesOk_snoc _ _ _ _ tri, fun q cv found => ?_⟩
        rw [lst] at found
        rcases LamX.among_app _ tri found with z | z
        · obtain ⟨c0, a1, a2⟩ := known q cv z
          exact ⟨c0, a1, stays _ _ a2 LamX.codeO_ne⟩
        · exact ⟨k, z, upd_same⟩
      · obtain ⟨tab2, a1, a2, a3⟩ := hT p hp
        refine ⟨tab2, by rw [upd_ne (ne_of_none a1 freshK), upd_ne same]; exact a1, a2, fun q cv found => ?_⟩
        obtain ⟨c0, b1, b2⟩ := a3 q cv found
        exact ⟨c0, b1, stays _ _ b2 LamX.codeO_ne⟩
    · have d1 : g.objs.size ≠ k := Nat.ne_of_gt small
      have d2 : g.objs.size ≠ P := Nat.ne_of_gt (Nat.lt_of_lt_of_le (Heap.lt_size tabAt) big2)
      rw [upd_ne d1, upd_ne d2]
      exact I.hok.fresh big2
end
theorem Rep.grow {G : GI} {as : List Addr} {H H1 : Hp} {s : S} (R : Rep G as H s) (k : ∀ b o, H b = some o → nTb o → H1 b = some o) (tb : LamX.Tabs G.T H1) : Rep G as H1 s := by
  refine ⟨R.len, R.nd, fun n a o h1 h2 => (R.ob n a o h1 h2).mono (Ext.kept k) fun u q => k a u q ?_, R.kp, R.cl, tb, fun b hb => ⟨(R.gk b hb).1, (R.gk b hb).2.imp fun xs q => k b _ q fun _ z => by cases z⟩⟩
  obtain ⟨u', q', m⟩ := (R.ob n a o h1 h2).kind
  rw [q] at q'
  cases q'
  intro ps z
  rw [z] at m
  exact m
theorem grab_at {env : Env} : ∀ {cap : List Nat} {cs : List W}, grab env cap = some cs → cs.length = cap.length ∧ ∀ (i : Nat) (w : W), cs[i]? = some w → ∃ n, cap[i]? = some n ∧ env[n]? = some (some w)
  | [], _, h => by
    cases h
    exact ⟨rfl, fun i w e => by simp at e⟩
  | n :: r, _, h => by
    unfold grab at h
    split at h
    · rename_i w ew
      obtain ⟨ws, e2, rfl⟩ := Option.map_eq_some_iff.mp h
      obtain ⟨l, q⟩ := grab_at e2
      refine ⟨congrArg (· + 1) l, fun i x e => ?_⟩
      cases i with
      | zero =>
        simp at e
        subst e
        exact ⟨n, rfl, ew⟩
      | succ i =>
        obtain ⟨m, a, b⟩ := q i x (by simpa using e)
        exact ⟨m, by simpa using a, b⟩
    · cases h
def chkD (r : Res W) : Res W := r.bind fun w s => if isD w then .ok w s else .bad
theorem pst_track {G : GI} {as : List Addr} {H H1 : Hp} {h : Heap} {Z : List Addr} {Q : VK} {E : XK} (hn : ∀ z ∈ Z, H1 z = none) (e1 : Ext as H as H1) : ∀ {r : Res W}, Pst G as H E (okE G Q) (chkD r) →
    Pst G as (track H1 h Z) (fun cls d H' => Whole H' Z → E cls d (hid H' Z)) (okE G fun v H' => Whole H' Z → Q v (hid H' Z)) r
  | .ok w s, q => fun as' H' e R v rv wh => by
    have q : Pst G as H E (okE G Q) (if isD w then .ok w s else .bad) := q
    split at q
    · rename_i dw
      exact q as' (hid H' Z) (e1.trans (ext_hid e hn)) (R.agree (agree_hid wh)) v (.d (RD.agree (agree_hid wh) _ _ (rv.data dw)))
    · exact q.elim
  | .exc x s, q => fun as' H' cls dd e R rx wh => q as' (hid H' Z) cls dd (e1.trans (ext_hid e hn)) (R.agree (agree_hid wh)) (rx.agree (agree_hid wh))
  | .bad, q => q
/-- a lambda of the text where it is made -/
structure LamIn (X : Cx) (G : GI) (j : Nat) (cap : List Nat) (pa : Arguments) (b : Expr) (sc : Scope) : Prop where
  lt : ∃ L, G.lamT j = some L ∧ L.params = pa ∧ L.body = b ∧ L.scope = sc ∧ L.cap.length = cap.length ∧ ∀ (i : Nat) (x : Str), L.cap[i]? = some x → ∃ n, cap[i]? = some n ∧ X.N[n]? = some x ∧ (X.env.scope.names.lookup x = some .cell ∨ X.env.scope.names.lookup x = some .free) ∧ (x, NameKind.free) ∈ sc.names
  hdef : defaultsOf pa X.env = ([], [])
  free : ∀ y ∈ sc.names, y.2 = .free → X.env.scope.names.lookup y.1 = some .cell ∨ X.env.scope.names.lookup y.1 = some .free
  fn : ∀ y ∈ sc.names, y.2 = .free → X.fn y.1 = true
  code : ∃ c P, LamX.TabB X.base X.mg c P ∧ X.env.code = .ref c ∧ (P, X.env.qual ++ "<lambda>") ∈ G.T ∧ ∀ p ∈ G.T, p.1 = P → p.2 = X.env.qual ++ "<lambda>"
section
variable {X : Cx} {G : GI} {pg : Pg} {Wx : WX} {lv k g n : Nat} {f : Addr} {fd : FuncData} {ps ks : List Str} {x : Str} {p pos kpos lpos : Pos} {e : Expr} {es : List Expr} {pick : List (Nat ⊕ W)} {j : Nat} {cap : List Nat} {pa : Arguments} {b : Expr} {sc : Scope}
theorem LamIn.has {pins : List (Addr × Obj)} {σ : L2.St} {H : Hp} {s : Shared} (Li : LamIn X G j cap pa b sc) (I : Inv X pins σ H s) : ∀ y ∈ sc.names, y.2 = .free → ∃ c, X.env.cells.lookup y.1 = some c := fun y hy e => I.ok.has _ (Li.free y hy e)
theorem LamIn.cell {pins : List (Addr × Obj)} {σ : L2.St} {H : Hp} {s : Shared} (Li : LamIn X G j cap pa b sc) (I : Inv X pins σ H s) {y : Str} {a : Addr} (h : (y, a) ∈ cloFrom X.env.cells sc.names []) : (y, NameKind.free) ∈ sc.names ∧ X.env.cells.lookup y = some a := by
  rcases cloFrom_mem h with z | ⟨z1, z2⟩
  · cases z
  · obtain ⟨c1, hc⟩ := Li.has I _ z1 rfl
    have hc : X.env.cells.lookup y = some c1 := hc
    refine ⟨z1, ?_⟩
    rw [z2, hc]
    rfl
/-- where a lambda is made: the closure's value, its objects known whole -/
theorem lam_value {gh as : List Addr} {pins : List (Addr × Obj)} {σ : L2.St} {H H1 : Hp} {s1 : Shared} {st : S} {env : Env} {cs : List W} {fo c' : Addr} {pm tv : Value} (Li : LamIn X G j cap pa b sc) (R : Rep (G.g gh) as H st) (E : EOk (G.g gh) as H env σ) (hg : grab env cap = some cs) (I : Inv X pins σ H1 s1) (eN : LamX.ExtN H H1)
    (hf : s1.heap.get? fo = some (PySem.W.kla_obj "<lambda>" (X.env.qual ++ "<lambda>") pa b sc (cloFrom X.env.cells sc.names []) pm c' tv)) (hfn : H1 fo = none) (hc : H1 c' = some (LamX.CodeO c' (X.env.qual ++ "<lambda>"))) :
    RW (G.g gh) as (track H1 s1.heap (fo :: (cloFrom X.env.cells sc.names []).map (·.2))) (.clo j cs) (.ref fo) ∧ (∀ z ∈ fo :: (cloFrom X.env.cells sc.names []).map (·.2), H1 z = none) ∧ ∀ z ∈ (cloFrom X.env.cells sc.names []).map (·.2), ∃ y, X.fn y = true ∧ X.env.cells.lookup y = some z := by
  obtain ⟨L, lt, rfl, rfl, rfl, hl, hcap⟩ := Li.lt
  have cellZ : ∀ z ∈ (cloFrom X.env.cells L.scope.names []).map (·.2), ∃ y, X.fn y = true ∧ X.env.cells.lookup y = some z := fun z hz => by
    obtain ⟨⟨y, a⟩, h1, rfl⟩ := List.mem_map.mp hz
    obtain ⟨h2, h3⟩ := Li.cell I h1
    exact ⟨y, Li.fn _ h2 rfl, h3⟩
  have hn : ∀ z ∈ fo :: (cloFrom X.env.cells L.scope.names []).map (·.2), H1 z = none := fun z hz => by
    rcases List.mem_cons.mp hz with e | e
    · rw [e]
      exact hfn
    · obtain ⟨y, _, h3⟩ := cellZ z e
      exact I.freeC y z h3
  refine ⟨?_, hn, cellZ⟩
  generalize hZ : fo :: (cloFrom X.env.cells L.scope.names []).map (·.2) = Z at hn
  have nz : ∀ b o, H1 b = some o → b ∉ Z := fun b o e m => by
    rw [hn b m] at e
    cases e
  obtain ⟨gl, gat⟩ := grab_at hg
  obtain ⟨m, hns, look⟩ := I.loc
  have inZ : ∀ y a, (cloFrom X.env.cells L.scope.names []).lookup y = some a → a ∈ Z := fun y a h => by
    rw [← hZ]
    exact List.mem_cons_of_mem _ (List.mem_map.mpr ⟨(y, a), PySem.mem_of_lookup h, rfl⟩)
  have ex : ∀ i : Nat, ∃ q : Addr × Obj × Value × V, ∀ (x : Str) (w : W), L.cap[i]? = some x → cs[i]? = some w → ((cloFrom X.env.cells L.scope.names []).lookup x = some q.1 ∧ s1.heap.get? q.1 = some q.2.1 ∧ q.2.1.data = .cell (some q.2.2.1) ∧ RelV q.2.2.2 q.2.2.1) ∧ RW (G.g gh) as H w q.2.2.2 := fun i => by
    cases ex : L.cap[i]? with
    | none => exact ⟨(0, { cls := .none, data := .fields #[] }, Value.none, V.non), fun x w h => by cases h⟩
    | some x =>
      cases ew : cs[i]? with
      | none => exact ⟨(0, { cls := .none, data := .fields #[] }, Value.none, V.non), fun x w _ h => by cases h⟩
      | some w =>
        obtain ⟨n, en, env_n⟩ := gat i w ew
        obtain ⟨n', en', hN, kind, fr⟩ := hcap i x ex
        rw [en] at en'
        cases en'
        obtain ⟨v, hv, rv⟩ := E.at_ n w env_n
        obtain ⟨u, ru, lk⟩ := look n x v hN hv (.inr kind)
        obtain ⟨a, la⟩ := mem_lookup (cloFrom_has (cells := X.env.cells) (acc := []) fr)
        obtain ⟨_, lc⟩ := Li.cell I (PySem.mem_of_lookup la)
        rcases lk with ⟨kl, _⟩ | ⟨_, c2, e2, ic⟩
        · have kl : X.env.scope.names.lookup x = some .local := kl
          rcases kind with z | z <;> rw [kl] at z <;> cases z
        · rw [lc] at e2
          cases e2
          obtain ⟨oc, ho, hd⟩ := ic
          refine ⟨(a, oc, u, v), fun x' w' h1 h2 => ?_⟩
          cases h1
          cases h2
          exact ⟨⟨la, ho, hd, ru⟩, rv⟩
  obtain ⟨q, hq⟩ := Classical.axiomOfChoice ex
  have at_ : ∀ {a : Addr} {o : Obj}, a ∈ Z → s1.heap.get? a = some o → track H1 s1.heap Z a = some (XO o) := fun m e => by rw [track_in m, e]; rfl
  have capL : cs.length = L.cap.length := by rw [gl, hl]
  refine .clo (q := X.env.qual ++ "<lambda>") (cells := cloFrom X.env.cells L.scope.names []) (pm := pm) (ctv := tv) (fun i => (q i).1) (fun i => (q i).2.1) (fun i => (q i).2.2.1) (fun i => (q i).2.2.2) lt (at_ (by rw [← hZ]; exact List.mem_cons_self) hf) ?_ capL ⟨fun ⟨y, a⟩ h => ?_, fun y y2 a h1 h2 => ?_, fun y hy ey => ?_⟩ (fun i x hx => ?_) fun i w hw => ?_
  · rw [track_out (nz _ _ hc)]
    exact hc
  · obtain ⟨_, lc⟩ := Li.cell I h
    obtain ⟨v, o, ho, hd⟩ := I.cell y a lc
    exact ⟨o, v, at_ (by rw [← hZ]; exact List.mem_cons_of_mem _ (List.mem_map.mpr ⟨(y, a), h, rfl⟩)) ho, hd⟩
  · obtain ⟨_, l1⟩ := Li.cell I (PySem.mem_of_lookup h1)
    obtain ⟨_, l2⟩ := Li.cell I (PySem.mem_of_lookup h2)
    exact I.ok.inj _ _ _ l1 l2
  · have hy : (y.1, NameKind.free) ∈ L.scope.names := by rw [← ey]; exact hy
    exact mem_lookup (cloFrom_has (cells := X.env.cells) (acc := []) hy)
  · have hi : i < cs.length := by rw [capL]; exact (List.getElem?_eq_some_iff.mp hx).1
    obtain ⟨⟨h1, h2, h3, h4⟩, _⟩ := hq i x _ hx (List.getElem?_eq_getElem hi)
    exact ⟨h1, at_ (inZ _ _ h1) h2, h3, h4⟩
  · have hi : i < L.cap.length := by rw [← capL]; exact (List.getElem?_eq_some_iff.mp hw).1
    obtain ⟨_, rw_⟩ := hq i _ w (List.getElem?_eq_getElem hi) hw
    refine rw_.mono (Ext.kept fun b o e t => ?_)
    have e1 := eN b o e t
    have nb := nz b o e1
    unfold hideC
    rw [if_neg fun z => nb (by rw [← hZ]; exact List.mem_cons_of_mem _ z), track_out nb]
    exact e1
/-- f(lambda: ..) -/
theorem ve_callLam (F : FnV X.prog X.w X.K X.mg X.base lv f fd ps (spV G pg k (.fn g) ps.length)) (hr : Room lv X.A) (hgd : X.A.guards = some []) (tk : Takes X Wx) (hb : BndW X.K fd ps 1 [] pick) (hg : Gl X x) (hm : X.mg x = some (.ref f)) (hk : PySem.W.keepIn X.K (.ref f) = true)
    (Li : LamIn X G j cap pa b sc) (hdb : (x == ("__debug__" : Str)) = false) : PE X (.Call (.Name x p) [.Lambda pa b sc lpos] [] pos) (rdE G (ctAt pg k) Wx (dCallLam g pick daNil j cap)) := by
  refine ⟨fun pins s σ H Q I ⟨gh, as, env, st, R, E, h⟩ => ?_⟩
  obtain ⟨c, P, TB, hcode, hmT, hu⟩ := Li.code
  have h : Pst (G.g gh) as H (fun cls dd H' => Wx cls dd σ H') (okE (G.g gh) Q) (match grab env cap with
    | some cs => chkD (callP (ctAt pg k) g pick ([] ++ [.clo j cs]) st)
    | none => .bad) := h
  split at h
  · rename_i cs eg
    refine wpAny_Call_Name_kw (ld_glob I hg hm ?_ hdb)
    refine PySem.W.callWith_K (h₀ := X.base) I.ok.mod.kin hk ?_ rfl rfl
    show wpAny _ _ (spliced ((false, eval (.Lambda pa b sc lpos) X.env) :: PySem.backTo pos (starEach [] X.env))) _ _ s
    refine Calls.spliced_cons (lam_new I TB hcode hmT hu R.tb Li.hdef (Li.has I) fun fo c' pm tv H1 s1 big I1 eN T1 hf hfn hco => ?_)
    refine Calls.spliced_nil ⟨I1.kIn, ?_⟩
    obtain ⟨rv, hn, cz⟩ := lam_value Li R E eg I1 eN hf hfn hco
    generalize hZ : fo :: (cloFrom X.env.cells sc.names []).map (·.2) = Z at rv hn
    have isZ : ∀ z ∈ Z, z = fo ∨ ∃ y, X.fn y = true ∧ X.env.cells.lookup y = some z := fun z hz => by
      rw [← hZ] at hz
      rcases List.mem_cons.mp hz with e | e
      · exact .inl e
      · exact .inr (cz z e)
    have hbase : ∀ z ∈ Z, X.base.get? z = none := fun z hz => by
      cases q : X.base.get? z with
      | none => rfl
      | some o =>
        have lt : z < X.s_0.heap.objs.size := Nat.lt_of_lt_of_le (Heap.lt_size q) I.ok.bsz
        rcases isZ z hz with e | ⟨y, h2, h3⟩
        · rw [e] at lt
          exact absurd (Nat.lt_of_lt_of_le lt (Nat.le_trans I.sz big)) (Nat.lt_irrefl _)
        · exact absurd (Nat.lt_of_lt_of_le lt (I.ok.cab y z h2 h3)) (Nat.lt_irrefl _)
    have hfr : ∀ z ∈ Z, z ∉ frs X.stack := fun z hz m => by
      rcases isZ z hz with e | ⟨y, h2, h3⟩
      · rcases List.mem_cons.mp (I.stkSub _ m) with q | q
        · exact absurd (Nat.lt_of_lt_of_le (I.lt) (by rw [← q, e]; exact big)) (Nat.lt_irrefl _)
        · exact I.nofs (by rw [e]; exact big) q
      · rcases List.mem_cons.mp (I.stkSub _ m) with q | q
        · exact I.cne y z h3 q
        · obtain ⟨_, o2, e3, _⟩ := I.ok.funs.mem q
          exact absurd (Nat.lt_of_lt_of_le (Heap.lt_size e3) (I.ok.cab y z h2 h3)) (Nat.lt_irrefl _)
    have hob : ∀ z ∈ Z, ∃ o, s1.heap.get? z = some o := fun z hz => by
      rcases isZ z hz with e | ⟨y, h2, h3⟩
      · rw [e]
        exact ⟨_, hf⟩
      · obtain ⟨v, o, ho, _⟩ := I1.cell y z h3
        exact ⟨o, ho⟩
    have e1 : Ext as H as H1 := Ext.kept fun b o e t => eN b o e t
    have R1 : Rep (G.g gh) as H1 st := R.grow (fun b o e t => eN b o e t) T1
    have R2 : Rep (G.g gh) as (track H1 s1.heap Z) st := R1.agree (agree_sup (track_sup hn))
    obtain ⟨zs, hz, hl, hbt⟩ := hb.to s1 [.ref fo] [] I1.kIn rfl rfl
    have h2 := pst_track (h := s1.heap) hn e1 h
    unfold callP at h2
    split at h2
    · rename_i m em
      obtain ⟨xs, a, b⟩ := picked (ms := [Value.ref fo] ++ []) (vs := [V.ref fo]) (.cons rv .nil) (show Vals [V.ref fo] [Value.ref fo] from .cons (show RelV (V.ref fo) (Value.ref fo) from rfl) .nil) hz em
      refine wpAny_call (codeAny_mono (F.run X.A X.stack s1 (track H1 s1.heap Z) ⟨[.ref fo], []⟩ zs xs (fun v H' => Whole H' Z → Q v (hid H' Z)) (fun cls d H' => Whole H' Z → Wx cls d σ (hid H' Z)) hr hgd (env0_track I1.env0 hn hbase hfr) hbt b ⟨by rw [b.length, hl], gh, as, st, m, R2, a, h2⟩) fun r s' hq0 => ?_)
      have hq : CR (L2.CX X.prog X.w) X.stack X.prog X.w H1 s1 Q (fun cls d H' => Wx cls d σ H') r s' := cr_hid hn hob hfr (fun v H' wh q => q wh) (fun cls d H' wh q => q wh) hq0
      cases r with
      | error e => exact tk e s' (XE.of_call I1 (fun _ _ _ h => h) hq)
      | ok fl =>
        cases fl with
        | ret u => exact I1.after hq
        | next => exact False.elim hq
        | brk => exact False.elim hq
        | cont => exact False.elim hq
    · exact h2.elim
  · exact h.elim
end
end Vi
set_option Elab.async false
set_option linter.all false
set_option maxRecDepth 100000
set_option maxHeartbeats 4000000
/-! Vi17: closures are called. -/
namespace Vi
open PySem PySem.Spec PyProof.Rows L2

def re (H H' : Hp) (Z : List Addr) : Hp := fun b => if b ∈ Z then H b else H' b
theorem re_in {H H' : Hp} {Z : List Addr} {b : Addr} (h : b ∈ Z) : re H H' Z b = H b := if_pos h
theorem re_out {H H' : Hp} {Z : List Addr} {b : Addr} (h : b ∉ Z) : re H H' Z b = H' b := if_neg h
def NoneAt (H : Hp) (Z : List Addr) : Prop := ∀ z ∈ Z, H z = none
theorem re_sup {H H' : Hp} {Z : List Addr} (n : NoneAt H' Z) : ∀ b o, H' b = some o → re H H' Z b = some o := fun b o e => by
  rw [re_out fun m => by rw [n b m] at e; cases e]
  exact e
section
variable {P : Program} {w : World} {H H' : Hp} {h h' B : Heap} {Z : List Addr} {fs ex : List Addr} {as as' : List Addr}
theorem whole_not {b : Addr} {o : HO} (hz : Whole H Z) (e : H b = some o) (n : ∀ ob, o ≠ XO ob) : b ∉ Z := fun m => by
  obtain ⟨ob, q⟩ := hz b m
  rw [e] at q
  exact n ob (Option.some.inj q)
theorem un_re (u : Un fs ex (hid H Z) H' h h') (hz : Whole H Z) : Un fs ex H (re H H' Z) h h' := by
  have hn : ∀ b, H b = none → hid H Z b = none := fun b n => by
    unfold hid
    split
    · rfl
    · exact n
  have nz : ∀ b, H b = none → b ∉ Z := fun b n m => by
    obtain ⟨ob, q⟩ := hz b m
    rw [n] at q
    cases q
  refine ⟨fun b o e n => u.keep b o e (hn b n), fun b o e n => u.slot b o e (hn b n), fun b o e n h2 => ?_, u.there, fun b xs e => ?_, fun b o v e => ?_, fun b ps e => ?_⟩
  · rw [re_out (nz b n)]
    exact u.free b o e (hn b n) h2
  · have m := whole_not hz e fun _ z => by cases z
    rw [re_out m]
    exact u.tups b xs (by rw [hid_out m]; exact e)
  · by_cases m : b ∈ Z
    · rw [re_in m]
      exact e
    · rw [re_out m]
      exact u.frzs b o v (by rw [hid_out m]; exact e)
  · have m := whole_not hz e fun _ z => by cases z
    rw [re_out m]
    exact u.tbls b ps (by rw [hid_out m]; exact e)
theorem ub_re (u : UB fs (hid H Z) H' h B h') (hz : Whole H Z) : UB fs H (re H H' Z) h B h' := by
  have hn : ∀ b, H b = none → hid H Z b = none := fun b n => by
    unfold hid
    split
    · rfl
    · exact n
  have nz : ∀ b, H b = none → b ∉ Z := fun b n m => by
    obtain ⟨ob, q⟩ := hz b m
    rw [n] at q
    cases q
  refine ⟨fun b o e n => u.keep b o e (hn b n), u.slot, fun b o e n => ?_, u.there, fun b xs e => ?_, fun b o v e => ?_, fun b ps e => ?_⟩
  · rw [re_out (nz b n)]
    exact u.free b o e (hn b n)
  · have m := whole_not hz e fun _ z => by cases z
    rw [re_out m]
    exact u.tups b xs (by rw [hid_out m]; exact e)
  · by_cases m : b ∈ Z
    · rw [re_in m]
      exact e
    · rw [re_out m]
      exact u.frzs b o v (by rw [hid_out m]; exact e)
  · have m := whole_not hz e fun _ z => by cases z
    rw [re_out m]
    exact u.tbls b ps (by rw [hid_out m]; exact e)
theorem hok_re (ok : HOk P w H' h') (n : NoneAt H' Z) (at_ : ∀ z ∈ Z, ∀ ob, H z = some (XO ob) → h'.get? z = some ob) (hz : Whole H Z) : HOk P w (re H H' Z) h' := fun b o e => by
  by_cases m : b ∈ Z
  · rw [re_in m] at e
    obtain ⟨ob, q⟩ := hz b m
    have e2 := e
    rw [q] at e2
    cases e2
    have g := at_ b m ob q
    exact ⟨g, True.intro, ⟨ob, g⟩, fun _ _ _ _ => True.intro⟩
  · rw [re_out m] at e
    exact (ok b o e).stay (fun _ _ _ q => q) (fun c q => re_sup n c _ q) fun c xs q => re_sup n c _ q
theorem ext_re (e : Ext as (hid H Z) as' H') (n : NoneAt H' Z) (k : ∀ b ∈ as', ∃ o, H' b = some o) : Ext as H as' (re H H' Z) := by
  refine ⟨e.pre, fun b m n2 o q t => ?_, fun b o q i => ?_, fun b o q n2 t => ?_⟩
  · by_cases z : b ∈ Z
    · obtain ⟨o2, q2⟩ := k b m
      rw [n b z] at q2
      cases q2
    · exact e.fr b m n2 o (by rw [hid_out z]; exact q) t
  · by_cases z : b ∈ Z
    · rw [re_in z]
      exact q
    · rw [re_out z]
      exact e.im b o (by rw [hid_out z]; exact q) i
  · by_cases z : b ∈ Z
    · rw [re_in z]
      exact q
    · rw [re_out z]
      exact e.kp b o (by rw [hid_out z]; exact q) n2 t
end
/-- a call, entered with Z let go, comes back with Z as it was -/
theorem cr_re {P : Program} {w : World} {outer : List PySem.Env} {H : Hp} {s s' : Shared} {Z : List Addr} {Q Q' : VK} {E E' : XK} {r : Result} (hz : Whole H Z) (hok : HOk P w H s.heap) (hf : ∀ z ∈ Z, z ∉ frs outer)
    (hQ : ∀ v H', NoneAt H' Z → Q' v H' → Q v (re H H' Z)) (hE : ∀ cls d H', NoneAt H' Z → E' cls d H' → E cls d (re H H' Z)) (c : CR (L2.CX P w) outer P w (hid H Z) s Q' E' r s') : CR (L2.CX P w) outer P w H s Q E r s' := by
  have at0 : ∀ z ∈ Z, ∀ ob, H z = some (XO ob) → s.heap.get? z = some ob := fun z _ ob q => (hok z _ q).1
  have ob0 : ∀ z ∈ Z, ∃ ob, s.heap.get? z = some ob := fun z m => by
    obtain ⟨ob, q⟩ := hz z m
    exact ⟨ob, at0 z m ob q⟩
  cases r with
  | error e =>
    obtain ⟨a, B, H', cls, d, rfl, fl, ok, ub, na, os, ag, q⟩ := c
    have nn : NoneAt H' Z := fun z m => by
      obtain ⟨ob, g⟩ := ob0 z m
      exact ub.free z ob g (hid_in m)
    refine ⟨a, B, re H H' Z, cls, d, rfl, fl, hok_re ok nn (fun z m ob q => ub.keep z ob (at0 z m ob q) (hid_in m) (hf z m)) hz, ub_re ub hz, ?_, os, ag, hE _ _ _ nn q⟩
    by_cases m : a ∈ Z
    · obtain ⟨ob, g⟩ := ob0 a m
      have g2 := ub.keep a ob g (hid_in m) (hf a m)
      have g3 := fl.2.1
      rw [g2] at g3
      cases g3
    · rw [re_out m]
      exact na
  | ok fl =>
    cases fl with
    | ret u =>
      obtain ⟨v, H', os, ag, un, ok, rv, q⟩ := c
      have nn : NoneAt H' Z := fun z m => by
        obtain ⟨ob, g⟩ := ob0 z m
        exact un.free z ob g (hid_in m) (by simp)
      exact ⟨v, re H H' Z, os, ag, un_re un hz, hok_re ok nn (fun z m ob q => un.keep z ob (at0 z m ob q) (hid_in m) (hf z m) (by simp)) hz, rv, hQ _ _ nn q⟩
    | next => exact c
    | brk => exact c
    | cont => exact c
theorem env0_hid {P : Program} {w : World} {K : PySem.W.Frag} {mg : Str → Option Value} {base : Heap} {A : Around} {outer : List PySem.Env} {s : Shared} {H : Hp} {Z : List Addr} (e : Env0 P w K mg base A outer s H) (hz : Whole H Z) : Env0 P w K mg base A outer s (hid H Z) := by
  have hn : ∀ b, H b = none → hid H Z b = none := fun b n => by
    unfold hid
    split
    · rfl
    · exact n
  exact ⟨e.frames, e.mod, fun b o q => ⟨(e.bs b o q).1, hn b (e.bs b o q).2⟩, e.bsz, e.funs, fun b hb => hn b (e.frf b hb), hok_hid e.hok hz, e.bare⟩
theorem pst_re {G : GI} {as : List Addr} {H : Hp} {Z : List Addr} {Q : VK} {E : XK} : ∀ {r : Res W}, Pst G as H E (okE G Q) (chkD r) →
    Pst G as (hid H Z) (fun cls d H' => NoneAt H' Z → E cls d (re H H' Z)) (okE G fun v H' => NoneAt H' Z → Q v (re H H' Z)) r
  | .ok w s, q => fun as' H' e R v rv nn => by
    have q : Pst G as H E (okE G Q) (if isD w then .ok w s else .bad) := q
    split at q
    · rename_i dw
      exact q as' (re H H' Z) (ext_re e nn fun b m => (R.kind m).imp fun _ z => z.1) (R.agree (agree_sup (re_sup nn))) v (.d (RD.agree (agree_sup (re_sup nn)) _ _ (rv.data dw)))
    · exact q.elim
  | .exc x s, q => fun as' H' cls dd e R rx nn => q as' (re H H' Z) cls dd (ext_re e nn fun b m => (R.kind m).imp fun _ z => z.1) (R.agree (agree_sup (re_sup nn))) (rx.agree (agree_sup (re_sup nn)))
  | .bad, q => q
/-! ### the body of a lambda -/
def lamX (P : Program) (w : World) (K : PySem.W.Frag) (mg : Str → Option Value) (base : Heap) (N : List Str) (q : Str) (sc : Scope) (f c' : Addr) (cells : List (Str × Addr)) (A : Around) (outer : List PySem.Env) (s : Shared) (H : Hp) (E : XK) : Cx where
  prog := P
  w := w
  K := K
  mg := mg
  base := base
  A := A.deeper (PySem.W.envX q sc s.heap.objs.size f (.ref c') cells)
  N := N
  s_0 := s
  H_0 := H
  env := PySem.W.envX q sc s.heap.objs.size f (.ref c') cells
  outer := outer
  stack := PySem.W.envX q sc s.heap.objs.size f (.ref c') cells :: outer
  ex := []
  fn := fun _ => false
  calm := true
  pn := []
  xe := fun e s' => wpAny (model P w) (A.deeper (PySem.W.envX q sc s.heap.objs.size f (.ref c') cells)) (leaving (PySem.W.envX q sc s.heap.objs.size f (.ref c') cells) e) (fun _ s'' => L2.CX P w outer H s E e s'') (fun e' s'' => L2.CX P w outer H s E e' s'') s'
/-- the names of a lambda: captured ones, then parameters -/
structure LamSc0 (L : LT) (ps : List Str) : Prop where
  kind : L.scope.kind = .function
  co : L.scope.isCoroutine = false
  gen : L.scope.isGenerator = false
  nocell : ∀ y ∈ L.scope.names, y.2 ≠ .cell
  par : ∀ x ∈ ps, L.scope.names.lookup x = some .local
  nd : ps.Nodup
  cap : ∀ x ∈ L.cap, L.scope.names.lookup x = some .free
structure LamSc (L : LT) (ps : List Str) : Prop extends LamSc0 L ps where
  bind : ∀ (q : Str) (cl : List (Str × Addr)) (pm cv tv : Value) (us : List Value), us.length = ps.length → bindArgs (PySem.W.kla_fn "<lambda>" q L.params L.body L.scope cl pm cv tv) ⟨us, []⟩ = pure (ps.zip us)
theorem lookup_of {l : List (Str × Value)} {x : Str} {u : Value} (h : (x, u) ∈ l) (h1 : ∀ v, (x, v) ∈ l → v = u) : l.lookup x = some u := by
  obtain ⟨c, e⟩ := mem_lookup h
  rw [e, h1 c (PySem.mem_of_lookup e)]
theorem zip_one {x : Str} : ∀ {ps : List Str} {us : List Value} {i : Nat} {u v : Value}, ps.Nodup → ps[i]? = some x → us[i]? = some u → (x, v) ∈ ps.zip us → v = u
  | [], _, _, _, _, _, h, _, _ => by simp at h
  | _ :: _, [], _, _, _, _, _, h, _ => by simp at h
  | p :: ps, z :: us, 0, u, v, nd, h1, h2, h3 => by
    simp at h1 h2
    subst h1
    subst h2
    rcases List.mem_cons.mp h3 with e | e
    · cases e
      rfl
    · exact absurd (List.of_mem_zip e).1 (List.nodup_cons.mp nd).1
  | p :: ps, z :: us, i + 1, u, v, nd, h1, h2, h3 => by
    have g1 : ps[i]? = some x := by simpa using h1
    have g2 : x ∈ ps := List.mem_of_getElem? g1
    rcases List.mem_cons.mp h3 with e | e
    · have ex : x = p := congrArg Prod.fst e
      rw [ex] at g2
      exact absurd g2 (List.nodup_cons.mp nd).1
    · exact zip_one (List.nodup_cons.mp nd).2 g1 (by simpa using h2) e
theorem zip_mem {x : Str} {u : Value} : ∀ {ps : List Str} {us : List Value} {i : Nat}, ps[i]? = some x → us[i]? = some u → (x, u) ∈ ps.zip us
  | [], _, _, h, _ => by simp at h
  | _ :: _, [], _, _, h => by simp at h
  | p :: ps, z :: us, 0, h1, h2 => by
    simp at h1 h2
    subst h1
    subst h2
    exact List.mem_cons_self
  | p :: ps, z :: us, i + 1, h1, h2 => List.mem_cons_of_mem _ (zip_mem (by simpa using h1) (by simpa using h2))
/-- at the entry of a lambda's body -/
theorem lam_start {P : Program} {w : World} {K : PySem.W.Frag} {mg : Str → Option Value} {base : Heap} {L : LT} {ps : List Str} {q : Str} {f c' : Addr} {cells : List (Str × Addr)} {A : Around} {outer : List PySem.Env} {s : Shared} {H : Hp} {E : XK} {h₁ : Heap} {tk : Nat} {us : List Value} {vs : List V} {cv : List V} {m : Str → Option Value}
    (S : LamSc0 L ps) (e0 : Env0 P w K mg base A outer s H) (hd : A.handled = none) (hns : h₁.Ns s.heap.objs.size m) (hm : ∀ x u, (x, u) ∈ ps.zip us → (∀ v, (x, v) ∈ ps.zip us → v = u) → m x = some u) (kp : ∀ b o, s.heap.get? b = some o → h₁.get? b = some o) (rv : Vals vs us) (hl : vs.length = ps.length)
    (inj : ∀ x y c, cells.lookup x = some c → cells.lookup y = some c → x = y) (has : ∀ y ∈ L.scope.names, y.2 = .free → ∃ c, cells.lookup y.1 = some c) (cell : ∀ p ∈ cells, H p.2 = none ∧ ∃ v, s.heap.IsCell p.2 v) (hcl : cv.length = L.cap.length)
    (capd : ∀ (i : Nat) (x : Str) (v : V), L.cap[i]? = some x → cv[i]? = some v → ∃ c u, cells.lookup x = some c ∧ s.heap.IsCell c (some u) ∧ RelV v u) :
    Inv (lamX P w K mg base (L.cap ++ ps) q L.scope f c' cells A outer s H E) [] ((cv ++ vs).map some) H { s with heap := h₁, toks := tk } := by
  have noA : ∀ b : Addr, b ∉ (lamX P w K mg base (L.cap ++ ps) q L.scope f c' cells A outer s H E).ex := fun b z => absurd (show b ∈ ([] : List Addr) from z) (by simp)
  have cellK : ∀ {c : Addr} {v : Option Value}, s.heap.IsCell c v → h₁.IsCell c v := fun ⟨o, ho, hd⟩ => ⟨o, kp _ _ ho, hd⟩
  refine ⟨⟨e0.mod, S.kind, rfl, rfl, Nat.le_refl _, inj, fun y hy => ?_, fun y c z _ => absurd (show false = true from z) (by decide), fun _ => hd, Around.frames_deeper e0.frames, .inr ⟨rfl, rfl⟩, fun b z => absurd z (noA b), e0.bs, e0.bsz, fun b _ _ => noA b, fun b z => absurd z (noA b), e0.funs, e0.frf⟩,
    rfl, e0.bare, Un.kept kp, ⟨_, hns, fun i y v e1 e2 e3 => ?_⟩, fun y c e => ?_, e0.hok.fresh (Nat.le_refl _), fun y c e => (cell _ (PySem.mem_of_lookup e)).1, fun r hr => absurd (show r ∈ ([] : List (Addr × Obj)) ++ [] from hr) (by simp), e0.hok.kept kp, ?_⟩
  · have hy : L.scope.names.lookup y = some .cell ∨ L.scope.names.lookup y = some .free := hy
    rcases hy with hy | hy
    · exact absurd rfl (S.nocell _ (PySem.mem_of_lookup hy))
    · exact has _ (PySem.mem_of_lookup hy) rfl
  · have e1 : (L.cap ++ ps)[i]? = some y := e1
    by_cases hi : i < L.cap.length
    · rw [List.getElem?_append_left hi] at e1
      rw [List.getElem?_map, List.getElem?_append_left (by omega)] at e2
      obtain ⟨v', q1, q2⟩ := Option.map_eq_some_iff.mp e2
      cases q2
      obtain ⟨c, u, h1, h2, h3⟩ := capd i y v e1 q1
      exact ⟨u, h3, .inr ⟨.inr (S.cap y (List.mem_of_getElem? e1)), c, h1, cellK h2⟩⟩
    · rw [List.getElem?_append_right (by omega)] at e1
      rw [List.getElem?_map, List.getElem?_append_right (by omega)] at e2
      obtain ⟨v', q1, q2⟩ := Option.map_eq_some_iff.mp e2
      cases q2
      rw [hcl] at q1
      obtain ⟨u, hu, ru⟩ := rv.get q1
      exact ⟨u, ru, .inl ⟨S.par y (List.mem_of_getElem? e1), hm y u (zip_mem e1 hu) fun v hv => zip_one S.nd e1 hu hv⟩⟩
  · obtain ⟨v, z⟩ := (cell _ (PySem.mem_of_lookup e)).2
    exact ⟨v, cellK z⟩
  · show ((cv ++ vs).map some).length = (L.cap ++ ps).length
    simp
    omega
end Vi
set_option Elab.async false
set_option linter.all false
set_option maxRecDepth 100000
set_option maxHeartbeats 4000000
/-! Vi18: closures are called. -/
namespace Vi
open PySem PySem.Spec PyProof.Rows L2

def LamV (P : Program) (w : World) (K : PySem.W.Frag) (mg : Str → Option Value) (base : Heap) (G : GI) (pg : Pg) (lv k : Nat) : Prop :=
  ∀ (j : Nat) (A : Around) (outer : List PySem.Env) (s : Shared) (H : Hp) (gh as : List Addr) (st : S) (cs l : List W) (f : Addr) (vs : List V) (us : List Value) (Q : VK) (E : XK), Room lv A → A.guards = some [] → Env0 P w K mg base A outer s H →
    RW (G.g gh) as H (.clo j cs) (.ref f) → Rep (G.g gh) as H st → RDs (G.g gh) as H l vs → Vals vs us → Pst (G.g gh) as H E (okE (G.g gh) Q) (chkD (callAt pg k (.clo j cs) l st)) →
    codeAny (model P w) A (.call (.ref f) ⟨us, []⟩) (CR (L2.CX P w) outer P w H s Q E) s
theorem RW.cloF {G : GI} {as : List Addr} {H : Hp} {j : Nat} {cs : List W} {v : V} (h : RW G as H (.clo j cs) v) : ∃ (L : LT) (f c' : Addr) (q : Str) (cells : List (Str × Addr)) (pm tv : Value), v = .ref f ∧ G.lamT j = some L ∧ H f = some (XO (PySem.W.kla_obj "<lambda>" q L.params L.body L.scope cells pm c' tv)) := by
  cases h with
  | d r => cases r
  | clo ca oc u v h1 h2 h3 h4 h7 h5 h6 => exact ⟨_, _, _, _, _, _, _, rfl, h1, h2⟩
theorem pst_ret {G : GI} {as : List Addr} {H : Hp} {E : XK} {Q : VK} : ∀ {r : Res W}, Pst G as H (anyX fun cls dd _ H => E cls dd H) (okS G { nx := fun _ H' => Q .non H', rt := Q }) (retOf r) → Pst G as H (fun cls dd H' => E cls dd H') (okE G Q) r
  | .ok w s, h => fun as' H' e R v r => h as' H' e R v r
  | .exc x s, h => fun as' H' cls dd e R rx => h as' H' cls dd e R rx []
  | .bad, h => h
theorem RDs.env {G : GI} {as : List Addr} {H : Hp} {l : List W} {vs : List V} (r : RDs G as H l vs) {i : Nat} {w : W} (h : l[i]? = some w) : ∃ v, vs[i]? = some v ∧ RW G as H w v := by
  obtain ⟨v, a, b⟩ := r.get h
  exact ⟨v, a, .d b⟩
theorem lamV {P : Program} {w : World} {K : PySem.W.Frag} {mg : Str → Option Value} {base : Heap} {G : GI} {pg : Pg} {lv k : Nat}
    (hbody : ∀ (j : Nat) (L : LT), G.lamT j = some L → ∃ ps d, LamSc L ps ∧ pg.lams[j]? = some ⟨L.cap.length, ps.length, d⟩ ∧
      ∀ (q : Str) (f c' : Addr) (cells : List (Str × Addr)) (A : Around) (outer : List PySem.Env) (s : Shared) (H : Hp) (E : XK), Room lv (A.deeper (PySem.W.envX q L.scope s.heap.objs.size f (.ref c') cells)) → A.guards = some [] →
        PE (lamX P w K mg base (L.cap ++ ps) q L.scope f c' cells A outer s H E) L.body (rdE G (ctAt pg k) (fun cls dd _ H => E cls dd H) d)) : LamV P w K mg base G pg (lv + 1) (k + 1) := by
  intro j A outer s H gh as st cs l f vs us Q E hr hgd e0 rv R rl rvs h
  cases rv with
  | d r => cases r
  | @clo _ _ _ L _ c' q cells pm tv ca oc u v h1 h2 h3 h4 h7 h5 h6 =>
    obtain ⟨ps, d, S, hd, hb⟩ := hbody j L h1
    have of : s.heap.get? f = some (PySem.W.kla_obj "<lambda>" q L.params L.body L.scope cells pm c' tv) := (e0.hok f _ h2).1
    obtain ⟨⟨oo, ovs, t, hoc, hdc, hvc⟩, _, _⟩ := e0.hok c' _ h3
    have ec : callAt pg (k + 1) (.clo j cs) l st = if l.length = ps.length ∧ cs.length = L.cap.length then leave true st (retOf (d (ctAt pg k) ((cs ++ l).map some) st.enter)) else .bad := by
      show (match pg.lams[j]? with
        | some d => if l.length = d.np ∧ cs.length = d.nc then leave true st (retOf (d.body ⟨callAt pg k, pg.fuel, pg.sub⟩ ((cs ++ l).map some) st.enter)) else .bad
        | none => .bad) = _
      rw [hd]
      rfl
    rw [ec] at h
    split at h
    · rename_i hlen
      have hlv : vs.length = ps.length := by rw [← rl.length]; exact hlen.1
      generalize hZ : cells.map (·.2) = Z
      have inZ : ∀ p ∈ cells, p.2 ∈ Z := fun p hp => by
        rw [← hZ]
        exact List.mem_map.mpr ⟨p, hp, rfl⟩
      have hz : Whole H Z := fun z m => by
        rw [← hZ] at m
        obtain ⟨p, hp, rfl⟩ := List.mem_map.mp m
        obtain ⟨o, ov, q1, _⟩ := h7.1 p hp
        exact ⟨o, q1⟩
      have hf : ∀ z ∈ Z, z ∉ frs outer := fun z m hm => by
        obtain ⟨o, q1⟩ := hz z m
        have q2 := e0.frf z hm
        rw [q1] at q2
        cases q2
      have hidC : hid H Z = hideC H cells := by
        rw [← hZ]
        rfl
      refine codeAny_mono (R := CR (L2.CX P w) outer P w (hid H Z) s (fun v H' => NoneAt H' Z → Q v (re H H' Z)) (fun cls d H' => NoneAt H' Z → E cls d (re H H' Z))) ?_ fun r s' hq => cr_re hz e0.hok hf (fun v H' nn q => q nn) (fun cls d H' nn q => q nn) hq
      refine PySem.W.kla_callFunE hr.depth of rfl S.co S.gen rfl ⟨c', oo, ovs, t, rfl, hoc, hdc, hvc⟩ ?_
      rw [S.bind q cells pm (.ref c') tv us (by rw [← rvs.length]; exact hlv)]
      have lim : s.heap.NoLimit := e0.mod.nolimit.keeps fun b o e => (e0.bs b o e).1
      refine wpAny_pure (wpAny_newFunctionEnv S.nocell (fun y hy => S.par _ (List.of_mem_zip hy).1) (fun h₁ hns hsb => ⟨lim.fresh _ hsb, ?_⟩) S.kind)
      show codeAny _ _ (.expr L.body (PySem.W.envX q L.scope s.heap.objs.size f (.ref c') cells)) _ _
      have kp : ∀ b o, s.heap.get? b = some o → h₁.get? b = some o := fun b o e => hsb.extBut b o (Nat.ne_of_lt (Heap.lt_size e)) (Heap.get?_push_of_some _ e)
      have e1 := env0_hid e0 hz
      have R1 : Rep (G.g gh) as (hid H Z) st := R.agree (agree_hid hz)
      have rl1 : RDs (G.g gh) as (hid H Z) l vs := RDs.agree (agree_hid hz) _ _ rl
      let cv : List V := (List.range cs.length).map v
      have cvl : cv.length = cs.length := by simp [cv]
      have cvg : ∀ i, i < cs.length → cv[i]? = some (v i) := fun i hi => by
        show ((List.range cs.length).map v)[i]? = _
        rw [List.getElem?_map, List.getElem?_range hi]
        rfl
      have J := lam_start (P := P) (w := w) (K := K) (mg := mg) (base := base) (L := L) (ps := ps) (q := q) (f := f) (c' := c') (cells := cells) (A := A) (outer := outer) (s := s) (H := hid H Z) (E := fun cls d H' => NoneAt H' Z → E cls d (re H H' Z)) (h₁ := h₁) (tk := s.toks + (ps.zip us).length) (us := us) (vs := vs) (cv := cv)
        S.toLamSc0 e1 hr.hd hns (fun x u hu h1 => lookup_of (List.mem_reverse.mpr hu) fun v hv => h1 v (List.mem_reverse.mp hv)) kp rvs hlv h7.2.1 h7.2.2 (fun p hp => ⟨hid_in (inZ p hp), by
          obtain ⟨o, ov, q1, q2⟩ := h7.1 p hp
          exact ⟨ov, o, (e0.hok _ _ q1).1, q2⟩⟩) (by rw [cvl]; exact hlen.2) fun i x w' hx hw => by
          obtain ⟨a1, a2, a3, a4⟩ := h5 i x hx
          have hi : i < cs.length := by rw [hlen.2]; exact (List.getElem?_eq_some_iff.mp hx).1
          rw [cvg i hi] at hw
          cases hw
          exact ⟨ca i, u i, a1, ⟨oc i, (e0.hok _ _ a2).1, a3⟩, a4⟩
      have E1 : EOk (G.g gh) as (hid H Z) ((cs ++ l).map some) ((cv ++ vs).map some) := by
        refine ⟨by simp [cvl, rl.length], fun i x hx => ?_⟩
        rw [List.getElem?_map] at hx
        obtain ⟨x', q1, q2⟩ := Option.map_eq_some_iff.mp hx
        cases q2
        rw [List.getElem?_map]
        by_cases hi : i < cs.length
        · rw [List.getElem?_append_left hi] at q1
          rw [List.getElem?_append_left (by omega), cvg i hi]
          exact ⟨v i, rfl, by rw [hidC]; exact h6 i x q1⟩
        · rw [List.getElem?_append_right (by omega)] at q1
          rw [List.getElem?_append_right (by omega), cvl]
          obtain ⟨y, a, b⟩ := rl1.env q1
          exact ⟨y, by rw [a]; rfl, b⟩
      have hp := pst_ret (left R1 (pst_re (Z := Z) h))
      refine PySem.W.kla_codeExpr (wpAny_mono ((hb q f c' cells A outer s (hid H Z) (fun cls d H' => NoneAt H' Z → E cls d (re H H' Z)) (hr.deeper _) hgd).run [] _ _ _ _ J ⟨gh, as, _, st.enter, R1.enter, E1, hp⟩) (fun x s' hq => ?_) fun e s' hq => hq)
      obtain ⟨w', H', J', rv', q'⟩ := hq
      exact ⟨w', H', J'.os, J'.bare, J'.base, J'.hok, rv', q'⟩
    · exact h.elim
section
variable {X : Cx} {G : GI} {pg : Pg} {Wx : WX} {lv k i n : Nat} {x : Str} {p pos : Pos} {e : Expr} {es : List Expr}
theorem run_lamV {pins : List (Addr × Obj)} {σ : L2.St} {H : Hp} {s : Shared} {Q : VK} {gh as : List Addr} {st : S} {j : Nat} {cs l : List W} {f : Addr} {vs : List V} {us : List Value} (LV : LamV X.prog X.w X.K X.mg X.base G pg lv k) (hr : Room lv X.A) (hgd : X.A.guards = some []) (tk : Takes X Wx) (I : Inv X pins σ H s)
    (rv : RW (G.g gh) as H (.clo j cs) (.ref f)) (R : Rep (G.g gh) as H st) (rl : RDs (G.g gh) as H l vs) (r : Vals vs us) (h : Pst (G.g gh) as H (fun cls dd H' => Wx cls dd σ H') (okE (G.g gh) Q) (chkD (callAt pg k (.clo j cs) l st))) :
    wpAny (model X.prog X.w) X.A (call (.ref f) us) (EP X pins σ Q) X.xe s := by
  refine wpAny_call (codeAny_mono (LV j X.A X.stack s H gh as st cs l f vs us Q _ hr hgd I.env0 rv R rl r h) fun r s' hq => ?_)
  cases r with
  | error e => exact tk e s' (XE.of_call I (fun _ _ _ h => h) hq)
  | ok fl =>
    cases fl with
    | ret u => exact I.after hq
    | next => exact False.elim hq
    | brk => exact False.elim hq
    | cont => exact False.elim hq
/-- a() of a closure -/
theorem ve_callV0 (LV : LamV X.prog X.w X.K X.mg X.base G pg lv k) (hr : Room lv X.A) (hgd : X.A.guards = some []) (tk : Takes X Wx) (hN : X.N[i]? = some x) (hv : Vis X.env.scope x) (hd : (x == ("__debug__" : Str)) = false) (hcd : (x == ("__classdict__" : Str)) = false) :
    PE X (.Call (.Name x p) [] [] pos) (rdE G (ctAt pg k) Wx (dCallV i daNil)) := by
  refine ⟨fun pins s σ H Q I ⟨gh, as, env, st, R, E, h⟩ => ?_⟩
  unfold dCallV at h
  split at h
  · rename_i j cs ef
    have h : Pst (G.g gh) as H (fun cls dd H' => Wx cls dd σ H') (okE (G.g gh) Q) (chkD (callAt pg k (.clo j cs) [] st)) := h
    obtain ⟨v, e1, rv⟩ := E.at_ i _ ef
    obtain ⟨L, f, c', q, cells, pm, tv, rfl, _, hf⟩ := rv.cloF
    refine wpAny_Call_Name_kw (thn ((pe_var (pos := p) (i := i) hN hv hd hcd).run pins s σ H (fun v H1 => v = .ref f ∧ H1 = H) I ⟨.ref f, e1, rfl, rfl⟩) fun u s1 ⟨v, H1, I1, r1, q1⟩ => ?_)
    obtain ⟨ev, eH⟩ := q1
    subst ev
    subst eH
    obtain rfl : u = Value.ref f := r1
    exact PySem.W.callWith_F0 ⟨_, _, _, _, (I1.hok f _ hf).1⟩ (run_lamV LV hr hgd tk I1 rv R .nil .nil h)
  · exact h.elim
/-- a(e, ..) of a closure -/
theorem ve_callV {d : DA} (LV : LamV X.prog X.w X.K X.mg X.base G pg lv k) (hr : Room lv X.A) (hgd : X.A.guards = some []) (tk : Takes X Wx) (hN : X.N[i]? = some x) (hv : Vis X.env.scope x) (hd : (x == ("__debug__" : Str)) = false) (hcd : (x == ("__classdict__" : Str)) = false)
    (ha : PA X (e :: es) (rdA G (ctAt pg k) Wx d)) (hs : (e :: es).all noStar = true) : PE X (.Call (.Name x p) (e :: es) [] pos) (rdE G (ctAt pg k) Wx (dCallV i d)) := by
  have hs' : noStar e = true ∧ es.all noStar = true := by rw [List.all_cons, Bool.and_eq_true] at hs; exact hs
  refine ⟨fun pins s σ H Q I ⟨gh, as, env, st, R, E, h⟩ => ?_⟩
  unfold dCallV at h
  split at h
  · rename_i j cs ef
    have h : Pst (G.g gh) as H (fun cls dd H' => Wx cls dd σ H') (okE (G.g gh) Q) ((d (ctAt pg k) env st).bind fun l s => if allD l then chkD (callAt pg k (.clo j cs) l s) else .bad) := h
    obtain ⟨v, e1, rv⟩ := E.at_ i _ ef
    obtain ⟨L, f, c', q, cells, pm, tv, rfl, _, hf⟩ := rv.cloF
    refine wpAny_Call_Name_kw (thn ((pe_var (pos := p) (i := i) hN hv hd hcd).run pins s σ H (fun v H1 => v = .ref f ∧ H1 = H) I ⟨.ref f, e1, rfl, rfl⟩) fun u s1 ⟨v, H1, I1, r1, q1⟩ => ?_)
    obtain ⟨ev, eH⟩ := q1
    subst ev
    subst eH
    obtain rfl : u = Value.ref f := r1
    have hf0 : s1.heap.get? f = some (PySem.W.kla_obj "<lambda>" q L.params L.body L.scope cells pm c' tv) := (I1.hok f _ hf).1
    have hA : rdA G (ctAt pg k) Wx d σ H1 fun vs H2 => H2 f = some (XO (PySem.W.kla_obj "<lambda>" q L.params L.body L.scope cells pm c' tv)) ∧ ∃ as2 st2 l, RW (G.g gh) as2 H2 (.clo j cs) (.ref f) ∧ Rep (G.g gh) as2 H2 st2 ∧ RDs (G.g gh) as2 H2 l vs ∧ Pst (G.g gh) as2 H2 (fun cls dd H' => Wx cls dd σ H') (okE (G.g gh) Q) (chkD (callAt pg k (.clo j cs) l st2)) := by
      refine ⟨gh, as, env, st, R, E, (Pst.bind h).imp fun l st2 as2 H2 e2 R2 h2 vs rl => ?_⟩
      split at h2
      · rename_i dl
        exact ⟨e2.im _ _ hf True.intro, as2, st2, l, rv.mono e2, R2, rl.data dl, h2⟩
      · exact h2.elim
    refine PySem.W.callWith_F ⟨_, _, _, _, hf0⟩ (thn (ha.run pos pins s1 σ H1 _ I1 hA) fun us s2 ⟨vs, H2, I2, rvs, hf2, as2, st2, l, rv2, R2, rl, h2⟩ => ⟨⟨_, _, _, _, (I2.hok f _ hf2).1⟩, ?_⟩) (star_of hs'.1 es X.env) (plain_args hs'.2 pos X.env)
    exact run_lamV LV hr hgd tk I2 rv2 R2 rl rvs h2
  · exact h.elim
end
end Vi
set_option Elab.async false
set_option linter.all false
set_option maxRecDepth 100000
set_option maxHeartbeats 4000000
/-! Vi19: an own exception whose __init__ calls super().__init__(text), then stores a field. -/
namespace Vi
open PySem PySem.Spec PyProof.Rows L2

section
variable {X : Cx} {pins : List (Addr × Obj)} {σ : L2.St} {H : Hp} {s : Shared} {A : Around} {E : Value → Shared → Prop}
/-- the bound ValueError.__init__ is called -/
theorem bound_init {a C u : Addr} {us : List Value} {Q : Value → Shared → Prop} (T : OexC X.K C) (I : Inv X pins σ H s) (e : H a = some (exo a C none)) (hu : s.heap.get? u = some (PySem.W.kxs_mw "ValueError.__init__" a)) (hl : us.length ≤ sizeLine)
    (h : ∀ s', Inv X pins σ H s' → Q .none s') : wpAny (model X.prog X.w) A (call (.ref u) us) Q E s := by
  obtain ⟨nm, q, N, bs, bm, sn, sub, ab, col, dd, k0, k1, k2, k3, k5, hC, hbm⟩ := T.cls
  obtain ⟨t1, ho⟩ := exo_at I.hok e
  obtain ⟨hp, g, d, t, os⟩ := s
  refine wpAny_call (codeAny_of_tree ?_)
  show wpAny _ A.in1 (callAny (.ref u) ⟨us, []⟩) _ _ _
  simp only [callAny]
  refine wpAny_bind (wpAny_load hu ?_)
  simp only [PySem.W.kxs_mw, show (Value.type "method-wrapper" == Value.type "method" || Value.type "method-wrapper" == Value.type "builtin_function_or_method" || Value.type "method-wrapper" == Value.type "method-wrapper") = true by decide, if_true]
  refine PySem.W.KFB.if_so (by decide) ?_
  refine wpAny_bind (PySem.W.check_bound_init F.excBase_ValueError.toExcCallFacts (I.kIn _ _ hC) ho rfl ?_)
  refine wpAny_bind (wpAny_pure (wpAny_pure ?_))
  refine ⟨plainId_quiet F.excBase_ValueError.init.plain _, codeAny_builtin F.excBase_ValueError.initEntry ?_⟩
  refine PySem.W.exc_init_tree (cls := .ref C) (t0 := t1) (dv := none) (c2 := .none) (c3 := .none) (b4 := .bool false) ho hl fun h' k hx _ => ?_
  have J := I.write (t' := t) (x := a) (e := a) (o := exo a C none) (by rw [e]; exact True.intro) (.inl rfl) k ⟨_, hx⟩ (exo_ok hx)
  have eu : upd H a (exo a C none) = H := by
    funext b
    by_cases hb : b = a
    · rw [hb, upd_same, e]
    · rw [upd_ne hb]
  rw [eu] at J
  exact h _ J
end
/-- what is told of the class and its __init__ -/
structure SupI (K : PySem.W.Frag) (P : Program) (mg : Str → Option Value) (C f : Addr) (fd : FuncData) (nself ntext nfld fld : Str) (scope : Scope) (p0 p1 p2 p3 p4 p5 p6 p7 p8 p9 : Pos) : Prop where
  fn : ∃ (name qual : Str) (params : Arguments) (dV kV doc pm ct oc : Value) (an od : Option Addr) (osl : Array (Option Value)) (cc cda : Addr),
    fd = PySem.W.ksFn name qual params [.Expr (.Call (.Attribute (.Call (.Name "super" p0) [] [] p1) "__init__" p2) [.Name ntext p3] [] p4) p5, .Assign [.Attribute (.Name nself p6) fld p7] (.Name nfld p8) p9] scope dV kV doc pm an (.ref cda) ct cc ∧
    K.lookup f = some ⟨oc, od, .func fd, osl⟩ ∧ PySem.W.codeIn K (.ref cda) qual = true ∧ (∃ ar, (params.posonlyargs ++ params.args).head? = some ar ∧ ar.arg = nself) ∧
    (∃ (cl : Value) (cld : Option Addr) (csl : Array (Option Value)), K.lookup cc = some ⟨cl, cld, .cell (some (.ref C)), csl⟩) ∧
    ∃ (ccl : Value) (cdd : Option Addr) (vs : Array Value) (ccs : Array (Option Value)) (file : Str) (tf : Tok), K.lookup cda = some ⟨ccl, cdd, .fields vs, ccs⟩ ∧ vs[2]? = some (.str file tf) ∧ ((P.main.file : Str) == file) = true
  T : OexC K C
  nm : mg "super" = none
  mi : PySem.W.ks_superIn K C C "__init__" = some (some (.builtin "ValueError.__init__"))
  sub : PySem.W.subIn K (.ref C) (.type "ValueError") = some true
  mro : PySem.W.mroIn K C (.ref C) = some true
  opq : PySem.W.nsIn K cStatics "thirdparty.any" = some none
  top : (P.main.scope.names.lookup ("super" : Str)).isSome = false
  fno : PySem.W.findIn K (.ref C) fld = some none
  sc : scope.names.lookup ("super" : Str) = some .globalImplicit ∧ LamSc0 ⟨default, .Name nself p6, scope, ["__class__"]⟩ [nself, ntext, nfld]
  fr : ∀ y ∈ scope.names, y.2 = .free → y.1 = ("__class__" : Str)
  line : (p2.endLine == p4.line) = true
  distinct : (ntext == ("__debug__" : Str)) = false ∧ (ntext == ("__classdict__" : Str)) = false ∧ (nself == ("__debug__" : Str)) = false ∧ (nself == ("__classdict__" : Str)) = false ∧ (nfld == ("__debug__" : Str)) = false ∧ (nfld == ("__classdict__" : Str)) = false
/-- what such an __init__ does -/
def spSup (C : Addr) (fld : Str) : Sp := fun vs H Q _ => ∃ (a : Addr) (t v : V), vs = [.ref a, t, v] ∧ H a = some (exo a C none) ∧ ∀ dx, H dx = none → dx ≠ a → Q .non (upd (upd H dx (exd dx [(fld, v)])) a (exo a C (some dx)))
theorem meth_he {o : Expr} {name : Str} {apos pos : Pos} {args : List Expr} {env : PySem.Env} (hl : (apos.endLine == pos.line) = true) (hf : methodCallForm (args.length + ([] : List Keyword).length) (PySem.backTo pos (starEach args env)) (backToKw pos (keywordEach [] env)) = true) :
    eval (.Call (.Attribute o name apos) args [] pos) env = (do
      let ov ← attributeBase o name env (eval o env)
      standAt apos.atName
      let (f, first) ← holding [ov] (getMethod ov name (do return (← importBound o env).getD true))
      callWith pos f first (PySem.backTo pos (starEach args env)) []) := by
  have h1 : methodCallPos true o env apos pos = pure pos := by
    unfold methodCallPos
    rw [hl]
    rfl
  show (do
      let ov ← attributeBase o name env (eval o env)
      standAt apos.atName
      methodCall o name apos pos env ov (args.length + ([] : List Keyword).length) (PySem.backTo pos (starEach args env)) (backToKw pos (keywordEach [] env))) = _
  unfold methodCall calleeOf
  rw [hf, h1]
  rfl
theorem sup_ok {K : PySem.W.Frag} {P : Program} {w : World} {mg : Str → Option Value} {base : Heap} {k : Nat} {C f : Addr} {fd : FuncData} {nself ntext nfld fld : Str} {scope : Scope} {p0 p1 p2 p3 p4 p5 p6 p7 p8 p9 : Pos}
    (U : SupI K P mg C f fd nself ntext nfld fld scope p0 p1 p2 p3 p4 p5 p6 p7 p8 p9) : FnOk P w K mg base (L2.CX P w) (k + 1) f fd [nself, ntext, nfld] (spSup C fld) := by
  refine ⟨fun vs H Q E ⟨a, t, v, e, _⟩ => by rw [e]; rfl, fun A outer s H args us vs Q E hr e0 hb r hsp => ?_⟩
  obtain ⟨a, tv, v, rfl, ea, hq⟩ := hsp
  cases r with
  | @cons _ ua _ ur ra r =>
  cases r with
  | @cons _ ut _ ur2 rt r =>
  cases r with
  | @cons _ uv _ ur3 rv r =>
  cases r
  obtain rfl : ua = Value.ref a := ra
  obtain ⟨name, qual, params, dV, kV, doc, pm, ct, oc, an, od, osl, cc, cda, rfl, lk, hcd, ⟨ar, har, hna⟩, ⟨cl, cld, csl, lcc⟩, ⟨ccl, cdd, cvs, ccs, file, tf, lcd, hvs, hfile⟩⟩ := U.fn
  have KX : K.In s.heap := e0.mod.kin.keeps fun b o e => (e0.bs b o e).1
  have lim : s.heap.NoLimit := e0.mod.nolimit.keeps fun b o e => (e0.bs b o e).1
  obtain ⟨hks, S⟩ := U.sc
  have hkc : scope.names.lookup ("__class__" : Str) = some .free := S.cap "__class__" List.mem_cons_self
  have ckept : ∀ {b : Addr} {o : Obj}, K.lookup b = some o → H b = none := fun {b o} e => (e0.bs b o (e0.mod.kin _ _ e)).2
  refine PySem.ks_codeAny_call_defAt (body := [.Expr (.Call (.Attribute (.Call (.Name "super" p0) [] [] p1) "__init__" p2) [.Name ntext p3] [] p4) p5, .Assign [.Attribute (.Name nself p6) fld p7] (.Name nfld p8) p9]) hr.depth (KX _ _ lk) rfl lim (PySem.W.codeRec_of KX hcd) rfl hb S.nocell (fun y hy => S.par _ (List.of_mem_zip hy).1) (fun h₁ hns kp => ?_) S.co S.gen S.kind
  have J := lam_start (P := P) (w := w) (K := K) (mg := mg) (base := base) (q := qual) (f := f) (c' := cda) (cells := [("__class__", cc)]) (A := A) (outer := outer) (s := s) (H := H) (E := E) (h₁ := h₁) (tk := s.toks + ([nself, ntext, nfld].zip [Value.ref a, ut, uv]).length) (us := [Value.ref a, ut, uv]) (vs := [V.ref a, tv, v]) (cv := [V.ref C])
    S e0 hr.hd hns (fun x u hu h1 => lookup_of (List.mem_reverse.mpr hu) fun v hv => h1 v (List.mem_reverse.mp hv)) kp (.cons (show RelV (V.ref a) (Value.ref a) from rfl) (.cons rt (.cons rv .nil))) rfl
    (fun x y c h1 h2 => by
      have z1 := PySem.mem_of_lookup h1
      have z2 := PySem.mem_of_lookup h2
      rw [List.mem_singleton] at z1 z2
      exact (Prod.mk.inj z1).1.trans (Prod.mk.inj z2).1.symm)
    (fun y hy ey => ⟨cc, by rw [U.fr y hy ey]; rfl⟩)
    (fun p hp => by
      rw [List.mem_singleton.mp hp]
      exact ⟨ckept lcc, _, _, KX _ _ lcc, rfl⟩) rfl
    (fun i x v' hx hv => by
      cases i with
      | zero =>
        simp at hx hv
        subst hx
        subst hv
        exact ⟨cc, .ref C, rfl, ⟨_, KX _ _ lcc, rfl⟩, rfl⟩
      | succ i => simp at hx)
  obtain ⟨d1, d2, d3, d4, d5, d6⟩ := U.distinct
  obtain ⟨t1, ho⟩ := exo_at J.hok ea
  obtain ⟨nm, q, N, bs, bm, sn, sub, ab, col, dd, k0, k1, k2, k3, k5, hC, hbm⟩ := U.T.cls
  have nC : a ≠ C := fun z => by
    have q := ckept hC
    rw [← z, ea] at q
    cases q
  have lself : scope.names.lookup nself = some .local := S.par _ (by simp)
  have ltext : scope.names.lookup ntext = some .local := S.par _ (by simp)
  have lfld : scope.names.lookup nfld = some .local := S.par _ (by simp)
  have at_ : ∀ (i : Nat) (x : Str) (u : Value), [nself, ntext, nfld][i]? = some x → [Value.ref a, ut, uv][i]? = some u → ([nself, ntext, nfld].zip [Value.ref a, ut, uv]).reverse.lookup x = some u := fun i x u h1 h2 =>
    lookup_of (List.mem_reverse.mpr (zip_mem h1 h2)) fun v hv => zip_one S.nd h1 h2 (List.mem_reverse.mp hv)
  obtain ⟨mb, hmb1, hmb2⟩ := J.mod.blt
  refine PySem.ks_wpAt_execs_cons (PySem.ks_wpAt_Expr_any (PySem.ks_wpAt_MethodCall ?_ (meth_he U.line rfl)) J.quiet)
  refine PySem.ks_wpAt_super_base (env := PySem.W.ksEnv qual scope s.heap.objs.size f (.ref cda) cc) hks hkc rfl rfl (kp _ _ (KX _ _ lk)) rfl har rfl (kp _ _ (KX _ _ lcd)) rfl hvs hfile U.top ?_
  refine PySem.W.ks_loadName_global S.kind hks (Calls.loadGlobal_builtin (J.mod.glob.keeps J.bk) U.nm (hmb1.keeps J.bk) ((hmb2 "super" (by decide)).trans (by kernel_rfl)) ⟨rfl, ?_⟩)
  refine wpAny_loadName_free S.kind hkc rfl ⟨_, kp _ _ (KX _ _ lcc), rfl⟩ ?_
  rw [hna]
  refine wpAny_loadName_local S.kind lself hns (at_ 0 nself _ rfl rfl) ?_
  refine PySem.ks_wpAny_isType_cls (kp _ _ (KX _ _ hC)) rfl ⟨rfl, ?_⟩
  refine PySem.ks_wpAny_call_super (kp _ _ (KX _ _ hC)) rfl ho rfl (fun c e => by cases e) (PySem.W.looks_mroIn J.kIn U.mro) (fun h2 e2 k2 => ?_)
  have J2 : Inv (lamX P w K mg base ([("__class__" : Str)] ++ [nself, ntext, nfld]) qual scope f cda [("__class__", cc)] A outer s H E) [] (([V.ref C] ++ [V.ref a, tv, v]).map some) H { s with heap := h2, toks := s.toks + ([nself, ntext, nfld].zip [Value.ref a, ut, uv]).length } := J.kept (h' := h2) (t' := s.toks + ([nself, ntext, nfld].zip [Value.ref a, ut, uv]).length) fun b o e => k2 b o e
  have hcl : PySem.W.clsIn K C = some { name := nm, bases := bs, mro := .ref C :: bm, ns := N, qualname := q, hasDict := true, slotNames := sn, subclasses := sub, abstract := ab, collection := col, hasDel := false } := by unfold PySem.W.clsIn; rw [hC] <;> rfl
  have hmi : PySem.W.alongIn K "__init__" (((Value.ref C :: bm).dropWhile (· != .ref C)).drop 1) = some (some (.builtin "ValueError.__init__")) := by
    have z := U.mi
    unfold PySem.W.ks_superIn at z
    rw [hcl] at z
    exact z
  have inst : PySem.W.InstAt h2 a ({ cls := .ref C, dict := none, data := .fields #[.ref t1, .none, .none, .none, .bool false, .none] } : Obj) C none := ⟨k2 _ _ ho, rfl, rfl, trivial⟩
  refine PySem.W.kxs_getMethod PySem.W.kxs_ValueError e2 (PySem.W.looks_opaque J2.kIn U.opq) (l₀ := .ref C :: bm) (fun A Q E s k q => wpAny_bind ((PySem.W.looks_clsIn J2.kIn hcl) A _ E s k (wpAny_pure q))) rfl J2.kIn hmi (inst.type.andThen (PySem.W.looks_subIn J2.kIn U.sub)) nC rfl ?_
  have J3 := J2.kept (h' := h2.push (PySem.W.kxs_mw "ValueError.__init__" a)) (t' := s.toks + ([nself, ntext, nfld].zip [Value.ref a, ut, uv]).length + 1) fun b o e => Heap.get?_push_of_some _ e
  have hu : (h2.push (PySem.W.kxs_mw "ValueError.__init__" a)).get? h2.objs.size = some (PySem.W.kxs_mw "ValueError.__init__" a) := Heap.get?_push_at rfl rfl
  have hns3 := (hns.keeps k2).keeps fun b o (e : h2.get? b = some o) => Heap.get?_push_of_some (PySem.W.kxs_mw "ValueError.__init__" a) e
  refine PySem.W.kxs_callWith (i := "ValueError.__init__") (x := a) rfl (Calls.evalArgs_plain (Calls.spliced_cons (wpAny_Name (wpAny_loadName_local (env := PySem.W.ksEnv qual scope s.heap.objs.size f (.ref cda) cc) S.kind ltext hns3 (at_ 1 ntext _ rfl rfl) ?_) d1)))
  refine Calls.spliced_nil ⟨hu, ?_⟩
  refine bound_init U.T J3 ea hu (by simp; decide) fun s4 J4 => ?_
  have pse : PE (lamX P w K mg base ([("__class__" : Str)] ++ [nself, ntext, nfld]) qual scope f cda [("__class__", cc)] A outer s H E) (.Name nself p6) (tVar 1) := pe_var rfl (.inl lself) d3 d4
  have pfl : PE (lamX P w K mg base ([("__class__" : Str)] ++ [nself, ntext, nfld]) qual scope f cda [("__class__", cc)] A outer s H E) (.Name nfld p8) (tVar 3) := pe_var rfl (.inl lfld) d5 d6
  refine PySem.wpAt_of_wpAny (wpAny_mono ((pss_one (ps_ost (pos := p9) (p' := p7) (f := fld) pse pfl rfl)).run [] s4 _ H { nx := fun _ H' => Q .non H', rt := Q } J4 ?_) (fun fl s5 hs => ?_) fun e s5 h => h)
  · refine ⟨v, rfl, .ref a, rfl, a, C, rfl, U.T, U.fno, .inl ⟨ea, fun dx n ne => hq dx n ne⟩⟩
  · cases fl with
    | ret u =>
      obtain ⟨v', σ', H', J', rv', q'⟩ := hs
      exact ⟨v', H', J'.os, J'.bare, J'.base, J'.hok, rv', q'⟩
    | next =>
      obtain ⟨σ', H', J', q'⟩ := hs
      exact ⟨.non, H', J'.os, J'.bare, J'.base, J'.hok, rfl, q'⟩
    | brk =>
      obtain ⟨_, _, _, q'⟩ := hs
      exact False.elim q'
    | cont =>
      obtain ⟨_, _, _, q'⟩ := hs
      exact False.elim q'
end Vi
set_option Elab.async false
set_option linter.all false
set_option maxRecDepth 100000
set_option maxHeartbeats 4000000
/-! Vi20: raise. -/
namespace Vi
open PySem PySem.Spec PyProof.Rows L2

theorem Pst.bindL {β : Type} {G : GI} {as : List Addr} {H : Hp} {Y : Value → Option Addr → Hp → Prop} {ok : β → S → List Addr → Hp → Prop} {c : Ct} {env : Env} {st : S} {d : DA} {n : Nat} {f : List W → S → Res β} (hl : DaLen d n) (h : Pst G as H Y ok ((d c env st).bind f)) :
    Pst G as H Y (fun l s1 as1 H1 => l.length = n ∧ Pst G as1 H1 Y ok (f l s1)) (d c env st) := by
  have z := Pst.bind h
  cases e : d c env st with
  | ok l s1 =>
    rw [e] at z
    exact fun as1 H1 e1 R1 => ⟨hl _ _ _ _ _ e, z as1 H1 e1 R1⟩
  | exc x s1 =>
    rw [e] at z
    exact z
  | bad =>
    rw [e] at z
    exact z
section
variable {X : Cx} {G : GI} {c : Ct} {Wx : WX} {x : Str} {p pos rpos : Pos} {e : Expr} {es : List Expr} {k : Nat} {C : Addr}
theorem allD_data {gh as : List Addr} {H : Hp} {m : List W} {xs : List V} (r : RWs (G.g gh) as H m xs) (h : allD m = true) : RDs (G.g gh) as H m xs := r.data h
/-- raise C(e, ..), C without own __init__ -/
theorem vs_raise0 {d : DA} {bmB : List Value} {B newId initId : String} (hc : X.calm = true) (tk : Takes X Wx) (Fb : ExcBaseFacts B newId initId bmB) (q : PySem.W.excIn X.K C bmB newId = true) (gC : X.mg x = some (.ref C)) (kC : PySem.W.keepIn X.K (.ref C) = true) (r : Raises X (.ref C)) (hg : Gl X x)
    (hk : G.clA k = some C) (hf : G.flds k = []) (hE : ExF G.K C) (ha : PA X (e :: es) (rdA G c Wx d)) (hs : (e :: es).all noStar = true) (hdb : (x == ("__debug__" : Str)) = false) : PS X (.Raise (some (.Call (.Name x p) (e :: es) [] pos)) none rpos) (rdS G c Wx (sRaise k [] d)) := by
  have hs' : noStar e = true ∧ es.all noStar = true := by rw [List.all_cons, Bool.and_eq_true] at hs; exact hs
  refine (ps_raise hc tk (pmk_ownA Fb q gC kC r hg ha hdb (star_of hs'.1 es X.env) (plain_args hs'.2 pos X.env))).imp fun D σ H ⟨gh, as, env, s, R, E, h⟩ => ⟨gh, as, env, s, R, E, rdE_in ((Pst.bind h).imp fun l s1 as1 H1 e1 R1 h1 vs r1 => ?_)⟩
  have h1 : Pst (G.g gh) as1 H1 (anyX Wx) (okS (G.g gh) D) (if allD [] && decide (l.length ≤ 1000) then .exc (.exc k []) s1 else .bad) := h1
  split at h1
  · rename_i z
    rw [Bool.and_eq_true, decide_eq_true_eq] at z
    refine ⟨by rw [← r1.length, sizeLine_eq]; have := z.2; omega, h1 as1 H1 (.ref C) none (Ext.refl _ _) R1 ⟨k, C, [], [], [], rfl, ⟨hk, hE⟩, rfl, rfl, ?_, .nil⟩ σ⟩
    show (G.flds k).map _ = _
    rw [hf]
    rfl
  · exact h1.elim
/-- raise C(text, v): C's own __init__ stores v -/
theorem vs_raise1 {d : DA} {f : Addr} {fd : FuncData} {fld : Str} {ds : List Value} {dvs : List V} {j n : Nat} {pick : List (Nat ⊕ W)} {ps0 : List Str} (hc : X.calm = true) (tk : Takes X Wx) (T : OexC X.K C) (iC : PySem.W.findIn X.K (.ref C) "__init__" = some (some (.ref f))) (tI : PySem.W.typeIn X.K (.ref f) = some (.type "function"))
    (F1 : FnOk X.prog X.w X.K X.mg X.base (L2.CX X.prog X.w) j f fd ps0 (spSup C fld)) (hr : Room (j + 1) X.A) (hb : Binds X.K fd ps0 ds) (hd : Vals dvs ds) (hg : Gl X x) (hm : X.mg x = some (.ref C)) (hk : G.clA k = some C) (hf : G.flds k = [fld]) (hE : ExF G.K C)
    (ha : PA X (e :: es) (rdA G c Wx d)) (hs : (e :: es).all noStar = true) (hdb : (x == ("__debug__" : Str)) = false)
    (hlen : DaLen d n) (hp : ∀ (gh as : List Addr) (H : Hp) (l : List W) (vs : List V) (m : List W), l.length = n → RWs (G.g gh) as H l vs → pickW l pick = some m → ∃ t v w, vs ++ dvs = [t, v] ∧ m = [w] ∧ RW (G.g gh) as H w v) :
    PS X (.Raise (some (.Call (.Name x p) (e :: es) [] pos)) none rpos) (rdS G c Wx (sRaise k pick d)) := by
  have hs' : noStar e = true ∧ es.all noStar = true := by rw [List.all_cons, Bool.and_eq_true] at hs; exact hs
  have hx : Passes (L2.CX X.prog X.w) X (fun _ _ _ => False) := fun _ _ _ _ _ _ _ c => by
    obtain ⟨_, _, _, _, _, _, _, _, _, _, _, _, z⟩ := c
    exact z.elim
  refine (ps_raise hc tk (pmk_oex T iC tI F1 hr hb hd hx hg hm ha hdb (star_of hs'.1 es X.env) (plain_args hs'.2 pos X.env))).imp fun D σ H ⟨gh, as, env, s, R, E, h⟩ => ⟨gh, as, env, s, R, E, rdE_in ((Pst.bindL hlen h).imp fun l s1 as1 H1 e1 R1 ⟨hln, h1⟩ vs r1 => ?_)⟩
  split at h1
  · rename_i m em
    split at h1
    · rename_i z
      rw [Bool.and_eq_true, decide_eq_true_eq] at z
      obtain ⟨t, v, w, ev, rfl, rw_⟩ := hp gh as1 H1 l vs m hln r1 em
      refine ⟨by rw [← r1.length]; exact z.2, fun a na => ⟨a, t, v, by rw [ev], upd_same, fun dx nd ne => ⟨rfl, dx, [(fld, v)], upd_same, ?_, ?_, ?_⟩⟩⟩
      · rw [upd_ne ne, upd_same]
      · rw [upd_ne ne] at nd
        exact nd
      · have nd1 : H1 dx = none := by
          rw [upd_ne ne] at nd
          exact nd
        have eH : upd (del (upd (upd (upd H1 a (exo a C none)) dx (exd dx [(fld, v)])) a (exo a C (some dx))) a) dx (.xd [(fld, v)]) = upd H1 dx (.xd [(fld, v)]) := by
          funext b
          by_cases h1 : b = dx
          · rw [h1, upd_same, upd_same]
          · rw [upd_ne h1, upd_ne h1]
            by_cases h2 : b = a
            · rw [h2, del_same, na]
            · rw [del_ne h2, upd_ne h2, upd_ne h1, upd_ne h2]
        rw [eH]
        have e2 : Ext as1 H1 as1 (upd H1 dx (.xd [(fld, v)])) := Ext.laid nd1
        have dw : isD w = true := by
          have z1 := z.1
          unfold allD at z1
          rw [List.all_cons, Bool.and_eq_true] at z1
          exact z1.1
        refine h1 as1 _ (.ref C) (some dx) e2 (R1.laid nd1) ⟨k, C, [w], [(fld, v)], [v], rfl, ⟨hk, hE⟩, rfl, upd_same, ?_, .cons (RD.mono e2 _ _ (rw_.data dw)) .nil⟩ σ
        show (G.flds k).map _ = _
        rw [hf]
        simp [List.lookup]
    · exact h1.elim
  · exact h1.elim
end
end Vi
set_option Elab.async false
set_option linter.all false
set_option maxRecDepth 100000
set_option maxHeartbeats 4000000
/-! Vi21: try: act / except C as n: m.append(n). -/
namespace Vi
open PySem PySem.Spec PyProof.Rows L2

section
variable {X : Cx} {pins : List (Addr × Obj)} {σ : L2.St} {H : Hp} {s : Shared}
/-- an object of ours is tracked from now on -/
theorem track_one {a : Addr} {o : HO} (I : Inv X pins σ H s) (na : H a = none) (h0 : X.s_0.heap.get? a = none) (nL : a ≠ X.env.locals) (nC : ∀ x c, X.env.cells.lookup x = some c → c ≠ a) (np : ∀ p ∈ X.pn ++ pins, p.1 ≠ a) (ok : ObjOk X.prog X.w (upd H a o) s.heap a o) : Inv X pins σ (upd H a o) s := by
  have sup : ∀ b u, H b = some u → upd H a o b = some u := fun b u e => by rw [upd_ne (ne_of_none e na)]; exact e
  refine ⟨I.ok, I.os, I.bare, ⟨I.base.keep, I.base.slot, fun b u e n x => ?_, I.base.there, fun b xs e => sup _ _ (I.base.tups b xs e), fun b u v e => sup _ _ (I.base.frzs b u v e), fun b ps e => (I.base.tbls b ps e).imp fun m q => sup _ _ q⟩, I.loc, I.cell, ?_, fun y c e => ?_, fun p hp => ?_, fun b u e => ?_, I.len⟩
  · rw [upd_ne fun z => by rw [z, h0] at e; cases e]
    exact I.base.free b u e n x
  · rw [upd_ne (Ne.symm nL)]
    exact I.free
  · rw [upd_ne (nC y c e)]
    exact I.freeC y c e
  · obtain ⟨q1, q2, q3⟩ := I.pin p hp
    exact ⟨q1, by rw [upd_ne (np p hp)]; exact q2, q3⟩
  · by_cases z : b = a
    · rw [z, upd_same] at e
      cases e
      rw [z]
      exact ok
    · rw [upd_ne z] at e
      exact (I.hok b u e).stay (fun _ _ _ q => q) (fun c q => sup _ _ q) fun c xs q => sup _ _ q
end
theorem eo_ok {P : Program} {w : World} {H : Hp} {h : Heap} {a C : Addr} {d : Option Addr} {oe : Obj} {vs : Array Value} (he : h.get? a = some oe) (hz : Zc (.ref C) d oe) (hd : oe.data = .fields vs) : ObjOk P w H h a (EO a C d) :=
  ⟨⟨oe, vs, he, hz.1, hz.2, hd⟩, ⟨oe, he⟩, fun h1 h2 ⟨o, v, q1, q2, q3, q4⟩ k => ⟨o, v, k _ q1, q2, q3, q4⟩⟩
section
variable {X : Cx} {G : GI} {c : Ct} {Wx : WX} {x n m : Str} {i j dc : Nat} {Dc : Addr} {act : Expr} {de : DE} {ap np mp mp2 np2 mp3 mp4 hpos pos : Pos}
theorem vs_tryApp (hij : i ≠ j) (hex : X.ex = []) (hs : X.stack = X.env :: X.outer) (hf : X.env.frame = some X.env.locals) (hN : X.N.Nodup) (hi : X.N[i]? = some n) (hln : X.env.kindOf n = some .local) (hj : X.N[j]? = some m) (hvm : Vis X.env.scope m) (hc : Names X x (.ref Dc)) (tk : Takes X Wx) (hK : X.K = G.K)
    (hsub : ∀ k C, G.clA k = some C → PySem.W.exmOne G.K (.ref C) (.ref Dc) = some (c.sub k dc)) (pa : PlainAttrs "list") (slot : Slot "list" "append" "list.append") (hty : typeOf (.builtin "list.append") = pure (.type "method_descriptor"))
    (d1 : (m == ("__debug__" : Str)) = false ∧ (m == ("__classdict__" : Str)) = false) (d2 : (n == ("__debug__" : Str)) = false ∧ (n == ("__classdict__" : Str)) = false) (hline : (mp2.endLine == mp3.line) = true)
    (hact : ∀ (W0 : WX) (pn : List (Addr × Obj)) (xe : Value → Shared → Prop), Takes (X.tr pn xe) W0 → PE (X.tr pn xe) act (rdE G c W0 de)) (hsw : swapsWith act none ap.line X.env = pure false)
    (hsw2 : swapsWith (.Call (.Attribute (.Name m mp) "append" mp2) [.Name n np2] [] mp3) none mp4.line X.env = pure false) :
    PS X (.Try [.Expr act ap] [.ExceptHandler (some (.Name x np)) (some n) [.Expr (.Call (.Attribute (.Name m mp) "append" mp2) [.Name n np2] [] mp3) mp4] hpos] [] [] pos) (rdS G c Wx (sTryApp dc de j i)) := by
  refine ⟨fun pins s σ H D I ⟨gh, as, env, st, R, E, h⟩ => ?_⟩
  have ok := I.ok
  have frames : X.A.frames = some (X.env :: X.outer) := by rw [ok.frames, hs]
  -- what the body's answer tells
  let Cat : WX := fun cls dd σ' H' => σ' = σ ∧ ∃ xw s1 as1, de c env st = .exc xw s1 ∧ Ext as H as1 H' ∧ Rep (G.g gh) as1 H' s1 ∧ RX (G.g gh) as1 H' xw cls dd
  have hbody : tDrop (rdE G c Cat de) { nx := fun σ' H' => D.nx σ' H', rt := D.rt, bk := D.bk, ct := D.ct } σ H := by
    refine ⟨gh, as, env, st, R, E, ?_⟩
    cases er : de c env st with
    | bad =>
      unfold sTryApp at h
      rw [er] at h
      exact h.elim
    | ok w s1 =>
      unfold sTryApp at h
      rw [er] at h
      exact fun as1 H1 e1 R1 v rv => h as1 H1 e1 R1 σ (E.mono e1)
    | exc xw s1 => exact fun as1 H1 cls dd e1 R1 rx => ⟨rfl, xw, s1, as1, er, e1, R1, rx⟩
  refine wpAny_Try_except ?_
  refine wpAny_mono ((pss_one (ps_expr (pos := ap) (hact Cat (X.pn ++ pins) (fun e s₁ => wpAny (model X.prog X.w) X.A (noteFrame e X.env) (fun _ s₂ => wpAny (model X.prog X.w) X.A (setFlight e none) (fun _ s₃ =>
    wpAny (model X.prog X.w) X.A (handleBy e X.env [.ExceptHandler (some (.Name x np)) (some n) [.Expr (.Call (.Attribute (.Name m mp) "append" mp2) [.Name n np2] [] mp3) mp4] hpos]) (SP X pins D) X.xe s₃) X.xe s₂) X.xe s₁) (fun u s' xx => ?_)) hsw)).run [] s σ H _ (I.toTry _) hbody) (fun fl s1 hsp => ?_) (fun e s1 he => he)
  · obtain ⟨a, B, sI, pins', σ', H', cls, d, rfl, J', nb, up, sky, na, os, ag, eσ, xw, st1, as1, er, e1, R1, rx⟩ := xx
    subst eσ
    have J : Inv X pins σ' H' sI := J'.ofTry ok
    have sky2 : Sky B (X.env :: X.outer) a (Zc cls d) X.env.locals s'.heap := by rw [← hs]; exact sky
    show wpAny (model X.prog X.w) X.A (noteFrame (.ref a) X.env) _ _ _
    refine Sky.land Zc.steady frames hf sky2 fun g3 fl3 up3 => ?_
    have J3 : Inv X pins σ' H' { s' with heap := g3 } := J.landed nb fl3.1 (up.trans up3) os ag
    obtain ⟨oe3, vs3, at3, zc3, dt3⟩ := fl3.there
    have offFr : a ∉ frs (X.env :: X.outer) := fun hm => by
      obtain ⟨_, o', q1, q2⟩ := fl3.2.2.1.mem hm
      rw [at3] at q1
      cases q1
      exact q2 _ dt3
    have nL : a ≠ X.env.locals := fun z => offFr (List.mem_filterMap.mpr ⟨X.env, List.mem_cons_self, by rw [hf, z]⟩)
    have nF : a ∉ X.fs := fun hm => by
      obtain ⟨e, q1, q2⟩ := List.mem_filterMap.mp hm
      exact offFr (List.mem_filterMap.mpr ⟨e, List.mem_cons_of_mem _ q1, q2⟩)
    have gone : ∀ o, sI.heap.get? a = some o → False := fun o q => by
      have z := nb a o q (by rw [hs]; exact offFr)
      have y := fl3.2.1
      rw [z] at y
      cases y
    have h0 : X.s_0.heap.get? a = none := by
      cases q : X.s_0.heap.get? a with
      | none => rfl
      | some o =>
        have hx : a ∉ X.ex := by
          rw [hex]
          simp
        obtain ⟨o', q'⟩ := J.base.there a o q hx
        exact (gone o' q').elim
    have nC : ∀ y c, X.env.cells.lookup y = some c → c ≠ a := fun y c q z => by
      obtain ⟨v, o, q1, _⟩ := J.cell y c q
      rw [z] at q1
      exact gone o q1
    have nP : ∀ p ∈ X.pn ++ pins, p.1 ≠ a := fun p hp z => by
      have q := (J.pin p hp).1
      rw [z] at q
      exact gone _ q
    obtain ⟨k, C, ws, fs, xs0, rfl, ⟨hk, hE⟩, rfl, hxd, hfl, hws⟩ := id rx
    have hm1 : PySem.W.exmOne X.K (.ref C) (.ref Dc) = some (c.sub k dc) := by
      rw [hK]
      exact hsub k C hk
    have h : Pst (G.g gh) as H (anyX Wx) (okS (G.g gh) D) (if c.sub k dc then (match env[j]? with
        | some (some y) => (match mAppend st1 y (.exc k ws) with
          | .ok _ s => .ok (.nx (env.set i none)) s
          | _ => .bad)
        | _ => .bad) else .exc (.exc k ws) st1) := by
      unfold sTryApp at h
      rw [er] at h
      exact h
    have S3 := J3.suite at3 dt3 na nL nF
    refine wpAny_handleBy_cons (codeAny_handlers_test ?_) (by intro q; cases q)
    have lookT : PySem.W.Looks (model X.prog X.w) g3 (typeOf (.ref a)) (.ref C) := fun A Q E s kk q => wpAny_typeOf_ref (kk _ _ at3) (by rw [zc3.1]; exact q)
    have lookM := PySem.W.exm_one (M := model X.prog X.w) J3.kIn lookT hm1
    have named : ∀ {Q : Value → Shared → Prop} {E : Value → Shared → Prop}, Q (.ref Dc) { s' with heap := g3 } → wpAny (model X.prog X.w) (X.A.mark (some (.ref a))) (eval (.Name x np) X.env) Q E { s' with heap := g3 } := fun {Q E} q => by
      obtain ⟨gl, db, hm | ⟨hm, hv, hnn⟩⟩ := hc
      · exact ld_glob (X := X.suite a ((a, oe3) :: (X.pn ++ pins))) S3 gl hm q db
      · exact ld_blt (X := X.suite a ((a, oe3) :: (X.pn ++ pins))) S3 gl hm hv q hnn db
    refine named (lookM.here ?_)
    cases hb : c.sub k dc with
    | true =>
      rw [hb, if_pos rfl] at h
      split at h
      · rename_i y ey
        split at h
        · rename_i u st2 ea
          refine codeAny_handlers_suite_as ?_
          refine HandSPX.lands_againZ fl3 fun g4 fl4 up4 => ?_
          have J4 : Inv X pins σ' H' { s' with heap := g4 } := J.landed nb fl4.1 ((up.trans up3).trans up4) os ag
          obtain ⟨oe4, vs4, at4, zc4, dt4⟩ := fl4.there
          have S4 := J4.suite at4 dt4 na nL nF
          refine store_ok (X := X.suite a ((a, oe4) :: (X.pn ++ pins))) (v := .ref a) S4 hN hi (.inl hln) rfl (fun s5 S5 => ?_) (.inr hln)
          have suite := pss_one (ps_expr (pos := mp4) (pe_bm (X := X.suite a ((a, oe4) :: (X.pn ++ pins))) (apos := mp2) (cpos := mp3) pa slot hty mt_append (pe_var (pos := mp) hj hvm d1.1 d1.2) (pa_cons (pe_var (pos := np2) hi (.inl hln) d2.1 d2.2) pa_nil rfl) rfl rfl hline rfl rfl) hsw2)
          have il : i < σ'.length := by
            rw [J.len]
            exact (List.getElem?_eq_some_iff.mp hi).1
          refine wpAny_mono (suite.run [] s5 _ H' { nx := fun σ6 H6 => σ6 = σ'.set i (some (.ref a)) ∧ D.nx (σ'.set i none) (upd H6 a (EO a C d)), rt := fun _ _ => False } S5 ?_) (fun fl s6 hsp => ?_) (fun _ _ z => False.elim z)
          · obtain ⟨v, ev, rv⟩ := (E.mono e1).at_ j y ey
            unfold mAppend at ea
            split at ea
            · rename_i q
              split at ea
              · rename_i l el
                split at ea
                · rename_i hcond
                  cases ea
                  rw [Bool.and_eq_true, decide_eq_true_eq] at hcond
                  obtain ⟨p, xs, rfl, h1, h2, h3⟩ := at_lst R1 rv el
                  have npa : p ≠ a := ne_of_none h2 na
                  refine ⟨.ref p, by rw [List.getElem?_set_ne hij]; exact ev, .inl ⟨rfl, xs, .inl (.inl h2)⟩, .ref a, List.getElem?_set_self il, p, xs, .ref a, rfl, rfl, h2, by rw [← h3.length, ← sizeMax_line]; exact hcond.2, rfl, ?_⟩
                  have eL : Ext as1 H' as1 (upd H' a (EO a C d)) := Ext.laid na
                  have rexc : RD (G.g gh) as1 (upd H' a (EO a C d)) (.exc k ws) (.ref a) := .exc ⟨hk, hE⟩ upd_same (xdP.mono (eL.to0 []) hxd) hfl (RDs.mono eL _ _ hws)
                  obtain ⟨eW, RW'⟩ := (R1.laid (o := EO a C d) na).writeL (w := .exc k ws) h1 el (by rw [upd_ne npa]; exact h2) ((RDs.mono eL _ _ h3).append (.cons rexc .nil)) fun kk hkk hw => by
                    rw [belowWs_app, hkk]
                    show (true && (belowW kk (.exc k ws) && true)) = true
                    rw [hw]
                    rfl
                  have eH : upd (upd H' a (EO a C d)) p (.lst (xs ++ [V.ref a])) = upd (upd H' p (.lst (xs ++ [V.ref a]))) a (EO a C d) := by
                    funext b
                    by_cases z1 : b = p
                    · rw [z1, upd_same, upd_ne npa, upd_same]
                    · rw [upd_ne z1]
                      by_cases z2 : b = a
                      · rw [z2, upd_same, upd_same]
                      · rw [upd_ne z2, upd_ne z2, upd_ne z1]
                  rw [eH] at eW RW'
                  exact h as1 _ (e1.trans (eL.trans eW)) RW' _ ((E.mono (e1.trans (eL.trans eW))).gone i none)
                · cases ea
              · cases ea
            · cases ea
          · cases fl with
            | next =>
              obtain ⟨σ6, H6, S6, eσ, q6⟩ := hsp
              have ok2 := ok.toTry ((a, oe4) :: (X.pn ++ pins)) X.xe
              have T6 : Inv (X.tr ((a, oe4) :: (X.pn ++ pins)) X.xe) [] σ6 H6 s6 := ⟨ok2, S6.os, S6.bare, S6.base, S6.loc, S6.cell, S6.free, S6.freeC, S6.pin, S6.hok, S6.len⟩
              refine gone_ok (X := X.tr ((a, oe4) :: (X.pn ++ pins)) X.xe) T6 hN hi hln fun s7 T7 => ?_
              obtain ⟨p1, p2, _⟩ := T7.pin (a, oe4) (by simp)
              have J7 : Inv X pins (σ6.set i none) H6 s7 := ⟨ok, T7.os, T7.bare, T7.base, T7.loc, T7.cell, T7.free, T7.freeC, fun p hp => T7.pin p (List.mem_append_left _ (List.mem_cons_of_mem _ hp)), T7.hok, T7.len⟩
              refine ⟨_, _, track_one J7 p2 h0 nL nC nP (eo_ok p1 zc4 dt4), ?_⟩
              rw [eσ, List.set_set]
              exact q6
            | brk =>
              obtain ⟨_, _, _, z⟩ := hsp
              exact z.elim
            | cont =>
              obtain ⟨_, _, _, z⟩ := hsp
              exact z.elim
            | ret u =>
              obtain ⟨_, _, _, _, _, z⟩ := hsp
              exact z.elim
        · exact h.elim
      · exact h.elim
    | false =>
      rw [hb, if_neg (by decide)] at h
      have wx : Wx (.ref C) d σ' H' := h as1 H' _ _ e1 R1 rx σ'
      show wpAny _ X.A (handleBy (.ref a) X.env []) _ _ _
      refine wpAny_handleBy_nil ?_
      obtain ⟨_, _, _, oe, vs, T, oT, ts', he, hz, hd, h1, hr⟩ := id fl3
      unfold PySem.passOn
      refine wpAny_bind (wpAny_field he hd h1 ?_)
      rw [if_neg (show ¬ ((Value.ref T == Value.none) = true) from by simp)]
      have fly : wpAny (model X.prog X.w) X.A (setFlight (.ref a) X.env.frame) (fun _ s4 => wpAny (model X.prog X.w) X.A (throw (.ref a) : Sem PySem.Flow) (SP X pins D) X.xe s4) X.xe { s' with heap := g3 } := by
        rw [hf]
        exact HandSPX.setFlight_upZ fl3 fun g4 hh4 up4 => wpAny_throw (tk _ _ ⟨a, B, sI, pins, σ', H', .ref C, d, rfl, J, nb, (up.trans up3).trans up4, .inr (.inr (by rw [hs]; exact hh4)), na, os, ag, wx⟩)
      first
        | exact wpAny_bind (wpAny_pure (wpAny_bind fly))
        | exact wpAny_bind fly
  · cases fl with
    | next =>
      obtain ⟨σ1, H1, J1, q⟩ := hsp
      exact wpAny_execs_nil ⟨σ1, H1, J1.ofTry ok, q⟩
    | brk =>
      obtain ⟨σ1, H1, J1, q⟩ := hsp
      exact ⟨σ1, H1, J1.ofTry ok, q⟩
    | cont =>
      obtain ⟨σ1, H1, J1, q⟩ := hsp
      exact ⟨σ1, H1, J1.ofTry ok, q⟩
    | ret u =>
      obtain ⟨v, σ1, H1, J1, rv, q⟩ := hsp
      exact ⟨v, σ1, H1, J1.ofTry ok, rv, q⟩
end
end Vi
set_option Elab.async false
set_option linter.all false
set_option maxRecDepth 100000
set_option maxHeartbeats 4000000
/-! Vi22: enumerate(reversed(tuple)). -/
namespace Vi
open PySem PySem.Spec PyProof.Rows L2 RT

section
variable {prog : Program} {w : World} {A : Around} {E : Value → Shared → Prop} {s : Shared}
theorem rev_item {r t : Addr} {i : Nat} {its : Array Value} {x : Value} {Q : Value → Shared → Prop} (hr : IsRt s.heap r t (i : Int)) (tup : IsTup s.heap t its) (gx : its[i]? = some x) (small : its.size ≤ sizeLine)
    (hQ : ∀ h', IsRt h' r t ((i : Int) - 1) → Heap.SameBut r s.heap h' → Q x { s with heap := h', toks := s.toks + 1 }) : wpAny (model prog w) A (Builtin.SmallTypes.nextOf (.ref r)) Q E s := by
  obtain ⟨ob, at_, cl, dt⟩ := id hr
  have il : i < its.size := (Array.getElem?_eq_some_iff.mp gx).1
  rw [sizeLine_eq] at small
  unfold Builtin.SmallTypes.nextOf
  refine wpAny_bind (wpAny_callSpecial?_slot (name := Str.ofString "__next__") hr.typeIs slot_rt_next (wpAny_call_entry slot_rt_next hr.typeIs entry_rt_next ?_ (args_rt_next _)))
  unfold Builtin.«reversed.__next__»
  refine wpAny_bind (wpAny_of_eq (a := (Value.ref r, [])) rfl ?_)
  try dsimp only
  refine wpAny_bind (wpAny_field at_ dt (x := .ref t) rfl ?_)
  try dsimp only
  refine wpAny_bind (wpAny_field at_ dt (x := rawInt (i : Int)) rfl ?_)
  show wpAny _ _ (if (i : Int) < 0 then _ else _) _ _ s
  rw [if_neg (by omega)]
  try dsimp only
  refine wpAny_bind (wpAny_specialOf (IsTup.typeOf' tup) get_tuple ?_)
  try dsimp only
  try rw [if_neg (by decide)]
  try dsimp only
  refine wpAny_bind (wpAny_mkInt (wpAny_bind (wpAny_attempt ?_)))
  refine PyProof.Rows.getItem_tuple (s := { s with toks := s.toks + 1 }) tup (by omega) (by omega) (seqIndex_of (by omega) (by omega)) gx ?_
  try dsimp only
  refine wpAny_bind (wpAny_field (s := { s with toks := s.toks + 1 }) at_ dt (x := rawInt (i : Int)) rfl ?_)
  try dsimp only
  refine wpAny_bind (wpAny_setField (s := { s with toks := s.toks + 1 }) at_ dt (by simp) ?_)
  first
  | refine wpAny_pure ⟨x, rfl, wpAny_pure (hQ _ ?_ (Heap.SameBut.update ..))⟩
  | refine wpAny_bind (wpAny_pure (wpAny_pure ⟨x, rfl, wpAny_pure (hQ _ ?_ (Heap.SameBut.update ..))⟩))
  exact ⟨_, Heap.get?_update_self _ at_ (Obj.isFreed_of_fields (Obj.data_mapFields dt _)), (Obj.cls_mapFields ..).trans cl, by rw [Obj.data_mapFields dt]; simp⟩
theorem rev_end {r t : Addr} {Q : Value → Shared → Prop} (hh : A.handled = none) (hr : IsRt s.heap r t (-1))
    (hE : ∀ h' e, Heap.ExtBut r s.heap h' → (∃ o, h'.get? e = some o ∧ o.cls = .type "StopIteration") → E (.ref e) { s with heap := h' }) : wpAny (model prog w) A (Builtin.SmallTypes.nextOf (.ref r)) Q E s := by
  obtain ⟨ob, at_, cl, dt⟩ := id hr
  unfold Builtin.SmallTypes.nextOf
  refine wpAny_bind (wpAny_callSpecial?_slot (name := Str.ofString "__next__") hr.typeIs slot_rt_next (wpAny_call_entry slot_rt_next hr.typeIs entry_rt_next ?_ (args_rt_next _)))
  unfold Builtin.«reversed.__next__»
  refine wpAny_bind (wpAny_of_eq (a := (Value.ref r, [])) rfl ?_)
  try dsimp only
  refine wpAny_bind (wpAny_field at_ dt (x := .ref t) rfl ?_)
  try dsimp only
  refine wpAny_bind (wpAny_field at_ dt (x := rawInt (-1)) rfl ?_)
  show wpAny _ _ (if (-1 : Int) < 0 then _ else _) _ _ s
  rw [if_pos (by decide)]
  try dsimp only
  refine wpAny_bind (wpAny_rule ?_)
  refine wpAny_bind ?_
  wp_delta
  refine wpAny_bind (wpAny_setField at_ dt (by simp) ?_)
  have at2 := Heap.get?_update_self (Obj.mapFields (·.setIfInBounds 1 (rawInt (-1)))) at_ (Obj.isFreed_of_fields (Obj.data_mapFields dt _))
  refine wpAny_setField (s := { s with heap := s.heap.update r (Obj.mapFields (·.setIfInBounds 1 (rawInt (-1)))) }) at2 (Obj.data_mapFields dt _) (by simp) ?_
  try dsimp only
  first
  | show wpAny _ _ (newExc (.type "StopIteration") [] >>= _) _ _ _
  | (refine wpAny_bind ?_; show wpAny _ _ (newExc (.type "StopIteration") [] >>= _) _ _ _)
  | (refine wpAny_bind ?_; wp_delta; show wpAny _ _ (newExc (.type "StopIteration") [] >>= _) _ _ _)
  refine wpAny_bind ?_
  simp only [newExc, newTuple]
  refine wpAny_bind (wpAny_newObj_type ?_ (by size_fits))
  refine wpAny_bind (m := firstArgMember _ _) (wpAny_of_eq (a := Value.none) (by first | rfl | (simp only [firstArgMember]; rfl)) ?_)
  refine wpAny_newObj_type ?_ (by size_fits)
  simp only [raiseNew]
  refine wpAny_bind (wpAny_handled ?_)
  first | rw [show A.in1.handled = none from hh] | rw [hh]
  refine wpAny_bind (wpAny_pure (wpAny_throw ?_))
  refine hE _ _ ?_ ⟨_, Heap.get?_push_size _ rfl, rfl⟩
  refine ((?_ : Heap.ExtBut r s.heap _).push _).push _
  exact fun b o hb e => (Heap.get?_update_other _ _ (Ne.symm hb)).trans ((Heap.get?_update_other _ _ (Ne.symm hb)).trans e)
end
theorem meets_enum_rev (r t : Addr) (i : Int) :
    Meets (Builtin.«enumerate.__new__» ⟨[.type "enumerate", .ref r], []⟩) (fun _ R s => IsRt s.heap r t i ∧
      R (.ok (.ret (.ref s.heap.objs.size))) { s with heap := s.heap.push { cls := .type "enumerate", data := .fields #[.none, .bool false, .ref r, rawInt 0, .none, .none] } }) :=
  .of_wp fun prog w A R s h => by
    obtain ⟨hp, g, d, tk, os⟩ := s
    obtain ⟨hr, h⟩ := h
    have hsub := sub_enumerate
    wp_walk
    refine wpAny_stack_any fun st => wpAny_pure ?_
    split
    · rename_i c _ _ _ _ _
      cases (c == Value.type "enumerate")
      · wp_walk using (iter_rt hr)
        exact ⟨_, rfl, h⟩
      · wp_walk using (iter_rt hr)
        exact ⟨_, rfl, h⟩
    · wp_walk using (iter_rt hr)
      exact ⟨_, rfl, h⟩

theorem draws_rev {prog : Program} {w : World} {A : Around} (hh : A.handled = none) (r t : Addr) (its : Array Value) (small : its.size ≤ sizeLine) :
    Draws prog w A r [r, t] its.size (fun i v => its[its.size - 1 - i]? = some v) (fun i h => i ≤ its.size ∧ IsRt h r t ((its.size : Int) - 1 - (i : Nat)) ∧ IsTup h t its ∧ r ≠ t) where
  live := fun _ _ st => let ⟨_, ⟨o, ho, _⟩, _⟩ := st; ⟨o, ho⟩
  frame := fun _ _ _ st k => ⟨st.1, st.2.1.at fun o e => k r (by simp) o e, by
    obtain ⟨_, _, ⟨o, e, c⟩, _⟩ := st
    exact ⟨o, k t (by simp) o e, c⟩, st.2.2.2⟩
  item := fun i s Q E hi st hQ => by
    obtain ⟨h1, h2, h3, h4⟩ := st
    have e1 : (its.size : Int) - 1 - ((i : Nat) : Int) = ((its.size - 1 - i : Nat) : Int) := by omega
    rw [e1] at h2
    have hl : its.size - 1 - i < its.size := by omega
    refine rev_item h2 h3 (x := its[its.size - 1 - i]) (by simp [hl]) small fun h' k sb => hQ _ h' _ (by simp [hl]) ⟨hi, ?_, ?_, h4⟩ sb
    · have e2 : (its.size : Int) - 1 - ((i + 1 : Nat) : Int) = ((its.size - 1 - i : Nat) : Int) - 1 := by omega
      rw [e2]
      exact k
    · obtain ⟨o, e, c⟩ := h3
      exact ⟨o, (sb.2 t (Ne.symm h4)).trans e, c⟩
  done := fun s Q E st hE => by
    obtain ⟨h1, h2, h3, h4⟩ := st
    have e1 : (its.size : Int) - 1 - ((its.size : Nat) : Int) = -1 := by omega
    rw [e1] at h2
    exact rev_end hh h2 hE
/-- the tuple at a from its end, numbered -/
def ItER (K : PySem.W.Frag) (a : Addr) (n : Nat) : It :=
  ⟨fun i H => i < n ∧ ∃ xs : List V, SqT K H a xs ∧ xs.length = n, fun i H v H' => ∃ T x, v = .ref T ∧ H T = none ∧ H' = upd H T (.tup [.int (i : Nat), x]) ∧ ∀ xs : List V, SqT K H a xs → xs[n - 1 - i]? = some x, fun i H => n ≤ i ∧ ∃ xs : List V, SqT K H a xs ∧ xs.length = n⟩
theorem turn_er {P : Program} {w : World} {K : PySem.W.Frag} {elts : List Expr} {kk : Nat} {tpos : Pos} (a e r n : Nat) :
    Turn P w K (.Tuple elts kk tpos) (ItER K a n) [e, r] e (fun i h => i ≤ n ∧ (∃ old, IsEnum h e r ((i : Nat) : Int) old) ∧ IsRt h r a ((n : Int) - 1 - (i : Nat)) ∧ e ≠ r ∧ e ≠ a ∧ r ≠ a) where
  mem := by simp
  obj := fun i h st b hb => by
    obtain ⟨_, ⟨old, he⟩, ⟨o, ho, hc, hd⟩, _⟩ := st
    have z : b = e ∨ b = r := by simpa using hb
    rcases z with z | z
    · rw [z]; exact ⟨_, he, fun v q => nomatch q⟩
    · rw [z]; exact ⟨o, ho, fun v q => by rw [hd] at q; cases q⟩
  keep := fun i h h' st k => ⟨st.1, st.2.1.imp fun old he => k e (by simp) _ he, st.2.2.1.at fun o q => k r (by simp) o q, st.2.2.2⟩
  item := by
    intro X hP hw hK hc i pins s σ H E I hf st hg
    subst hP hw hK
    obtain ⟨_, ⟨old, he⟩, hr, n1, n2, n3⟩ := st
    obtain ⟨hi, xs, hq, hl⟩ := hg
    obtain ⟨its, rv, tp, hz⟩ := I.tuple hq
    have il : its.toArray.size = n := by rw [List.size_toArray, ← rv.length]; exact hl
    have hel : e < s.heap.objs.size := Heap.lt_size he
    have hrl : r < s.heap.objs.size := by obtain ⟨_, q, _⟩ := hr; exact Heap.lt_size q
    have D := draws_rev (prog := X.prog) (w := X.w) (A := X.A.in1) (I.ok.hd hc) r a its.toArray (by rw [il, ← hl]; exact hz)
    rw [il] at D
    refine wpAny_pyNext_enum_itemD D he ⟨Nat.le_of_lt hi, hr, tp, n3⟩ hi n1 (by simp [n1, n2]) fun u h' tk hu ho hst hT hsz hk => ?_
    obtain ⟨x, hx, rx⟩ : ∃ x, xs[n - 1 - i]? = some x ∧ RelV x u := by
      have hu' : its[n - 1 - i]? = some u := by simpa using hu
      have hlt : n - 1 - i < xs.length := by omega
      refine ⟨xs[n - 1 - i], List.getElem?_eq_getElem hlt, vals_get rv hu' (List.getElem?_eq_getElem hlt)⟩
    refine ⟨_, rfl, wpAny_letOwnedTupleGo_enum (s := { s with heap := h', toks := tk + 1 }) ho fun h'' he' sb => ?_⟩
    have hT2 : h''.get? s.heap.objs.size = some { cls := .type "tuple", data := .seq #[.int i tk, u] } := (sb.2 _ (Nat.ne_of_gt hel)).trans hT
    have new : ObjOk X.prog X.w (upd H s.heap.objs.size (.tup [.int (i : Nat), x])) h'' s.heap.objs.size (.tup [.int (i : Nat), x]) :=
      ⟨by show 2 ≤ sizeLine; decide, [.int i tk, u], .cons ⟨_, rfl⟩ (.cons rx .nil), ⟨_, hT2, rfl, _, rfl⟩⟩
    have I1 : Inv X pins σ (upd H s.heap.objs.size (.tup [.int (i : Nat), x])) { s with heap := h'', toks := tk + 1 } :=
      I.turnedNew (ch := [e, r]) (fun b ob hb q => (sb.2 b (fun z => hb (by simp [z]))).trans (hk b ob (fun z => hb (by simp [z])) (fun z => hb (by simp [z])) q)) hf (Nat.le_refl _) new
    refine ⟨.ref s.heap.objs.size, _, I1, rfl, ⟨_, x, rfl, I.hok.fresh (Nat.le_refl _), rfl, fun ys hy => by rw [I.tuple_inj hy hq]; exact hx⟩, ⟨hi, ⟨u, ?_⟩, hst.2.1.at fun o q => (sb.2 r (Ne.symm n1)).trans q, n1, n2, n3⟩, fun b hb => ?_⟩
    · have e1 : ((i + 1 : Nat) : Int) = (i : Int) + 1 := by omega
      rw [e1]
      exact he'
    · have hb' : b < s.heap.objs.size := by
        have z : b = e ∨ b = r := by simpa using hb
        rcases z with z | z
        · rw [z]; exact hel
        · rw [z]; exact hrl
      rw [upd_ne (Nat.ne_of_lt hb')]
      exact (hf b hb).1
  done := by
    intro X hP hw hK hc i pins s σ H E I hf st hg
    subst hP hw hK
    obtain ⟨hin, ⟨old, he⟩, hr, n1, n2, n3⟩ := st
    obtain ⟨hge, xs, hq, hl⟩ := hg
    obtain ⟨its, rv, tp, hz⟩ := I.tuple hq
    have il : its.toArray.size = n := by rw [List.size_toArray, ← rv.length]; exact hl
    have ei : i = n := Nat.le_antisymm hin hge
    subst ei
    have D := draws_rev (prog := X.prog) (w := X.w) (A := X.A.in1) (I.ok.hd hc) r a its.toArray (by rw [il, ← hl]; exact hz)
    rw [il] at D
    obtain ⟨f0, f1, f2, f3, f4, f5⟩ := hf r (by simp)
    exact wpAny_pyNext_enum_endD D he ⟨Nat.le_refl _, hr, tp, n3⟩ fun h' eb => ⟨rfl, I.turned (t' := s.toks) (fun b o hb q => eb b o hb q) f0 f1 f3 f4 f5⟩
  self := fun A i s Q E st h => by
    obtain ⟨_, ⟨old, he⟩, _⟩ := st
    exact wpAny_pyIter_enum he h
theorem call_enum_rev {prog : Program} {w : World} {A : Around} {E : Value → Shared → Prop} {s : Shared} {r t : Addr} {i : Int} {Q : Value → Shared → Prop} (hr : IsRt s.heap r t i)
    (h : ∀ h', IsEnum h' s.heap.objs.size r 0 .none → (∀ b o, s.heap.get? b = some o → h'.get? b = some o) → Q (.ref s.heap.objs.size) { s with heap := h' }) : wpAny (model prog w) A (call (.type "enumerate") [.ref r]) Q E s := by
  refine callType_new F.called_enumerate (by decide) (F.typeCall_enumerate_1 _) (F.newCall_enumerate_1 _) (fun obj => F.args_object_init_2 obj _) F.entry_enumerate_new (meets_enum_rev r t i) ⟨hr, ?_⟩
  have he : IsEnum (s.heap.push { cls := .type "enumerate", data := .fields #[.none, .bool false, .ref r, rawInt 0, .none, .none] }) s.heap.objs.size r 0 .none := Heap.get?_push_size _ rfl
  exact ⟨⟨_, he, rfl⟩, h _ he fun b o q => Heap.get?_push_of_some _ q⟩
def iER (K : PySem.W.Frag) (te : TE) : TI := fun σ H R => te σ H fun v H1 => ∃ (a : Addr) (xs : List V), v = .ref a ∧ SqT K H1 a xs ∧ R (ItER K a xs.length) H1
section
variable {X : Cx} {elts : List Expr} {kk : Nat} {tpos p p2 pos pos2 : Pos} {e : Expr} {te : TE}
theorem pi_er (hg : Gl X "enumerate") (hm : X.mg "enumerate" = none) (hg2 : Gl X "reversed") (hm2 : X.mg "reversed" = none) (he : PE X e te) (hs : noStar e = true) : PI X (.Tuple elts kk tpos) (.Call (.Name "enumerate" p) [.Call (.Name "reversed" p2) [e] [] pos2] [] pos) (iER X.K te) := by
  refine ⟨fun pins s σ H R I h => ?_⟩
  refine Call_ (ld_blt I hg hm boot_enumerate (PyProof.Rows.callWith_type1 (args_cons ?_ rfl) rfl rfl))
  refine Call_ (ld_blt I hg2 hm2 PyProof.Rows.boot_reversed (PyProof.Rows.callWith_type1 (args_cons (thn (he.run pins s σ H _ I h) fun u s1 ⟨v, H1, I1, r1, q1⟩ => args_nil ?_) (star_of hs [] X.env)) (star_of hs [] X.env) rfl))
  obtain ⟨a, xs, ev, hq, q⟩ := q1
  subst ev
  obtain rfl : u = Value.ref a := r1
  obtain ⟨its, rv, tp, hz⟩ := I1.tuple hq
  have hl := rv.length
  have hn := line63
  have nra : s1.heap.objs.size ≠ a := fun z => by
    obtain ⟨o, ho, _⟩ := tp
    have y := Heap.lt_size ho
    rw [← z] at y
    exact absurd y (Nat.lt_irrefl _)
  refine call_reversed_tup tp (fun A E Q k => len_tuple tp (by simp only [List.size_toArray] <;> omega) k) (args_nil ?_)
  have hr : IsRt (s1.heap.push (rtObj a ((its.toArray.size : Int) - 1))) s1.heap.objs.size a ((its.toArray.size : Int) - 1) := ⟨_, Heap.get?_push_size _ rfl, rfl, rfl⟩
  refine call_enum_rev (s := { s1 with heap := s1.heap.push (rtObj a ((its.toArray.size : Int) - 1)), toks := s1.toks + 1 + 1 }) hr fun h' hen k => wpAny_pyIter_enum hen ?_
  have sz : (s1.heap.push (rtObj a ((its.toArray.size : Int) - 1))).objs.size = s1.heap.objs.size + 1 := Heap.size_push ..
  have k1 : ∀ b o, s1.heap.get? b = some o → h'.get? b = some o := fun b o q => k b o (Heap.get?_push_of_some _ q)
  have I2 : Inv X pins σ H1 { s1 with heap := h', toks := s1.toks + 1 + 1 } := I1.kept (t' := s1.toks + 1 + 1) k1
  refine ⟨(s1.heap.push (rtObj a ((its.toArray.size : Int) - 1))).objs.size, [(s1.heap.push (rtObj a ((its.toArray.size : Int) - 1))).objs.size, s1.heap.objs.size], _, _, H1, rfl, I2, turn_er a _ s1.heap.objs.size xs.length, ⟨Nat.zero_le _, ⟨.none, hen⟩, ?_, ?_, ?_, nra⟩, fun b hb => ?_, q⟩
  · have e1 : (xs.length : Int) - 1 - ((0 : Nat) : Int) = (its.toArray.size : Int) - 1 := by simp only [List.size_toArray]; omega
    rw [e1]
    exact hr.at fun o q => k _ o q
  · rw [sz]
    exact Nat.succ_ne_self _
  · intro z
    obtain ⟨o, ho, _⟩ := tp
    have y := Heap.lt_size ho
    rw [← z, sz] at y
    exact absurd (Nat.lt_of_succ_lt y) (Nat.lt_irrefl _)
  · have z : b = (s1.heap.push (rtObj a ((its.toArray.size : Int) - 1))).objs.size ∨ b = s1.heap.objs.size := by simpa using hb
    have hle : s1.heap.objs.size ≤ b := by
      rcases z with z | z
      · rw [z, sz]
        exact Nat.le_succ _
      · rw [z]
        exact Nat.le_refl _
    exact I1.fpOk hle (I1.hok.fresh hle)
variable {G : GI} {c : Ct} {Wx : WX}
theorem numbered_at : ∀ (l : List W) (n i : Nat), (numbered n l)[i]? = (l[i]?).map fun x => W.tup [.int ((n + i : Nat) : Int), x]
  | [], n, i => by simp [numbered]
  | x :: l, n, 0 => rfl
  | x :: l, n, i + 1 => by
    show (numbered (n + 1) l)[i]? = _
    rw [numbered_at l (n + 1) i]
    have e : n + 1 + i = n + (i + 1) := by omega
    rw [e]
    rfl
theorem RDs.rev {as : List Addr} {H : Hp} : ∀ {ws : List W} {vs : List V}, RDs G as H ws vs → RDs G as H ws.reverse vs.reverse
  | [], _, h => by cases h; exact .nil
  | w :: ws, _, h => by
    cases h with
    | cons h1 h2 =>
      rw [List.reverse_cons, List.reverse_cons]
      exact (RDs.rev h2).append (.cons h1 .nil)
theorem walk_er {as : List Addr} {H : Hp} {a : Addr} {ws : List W} {xs : List V} (h1 : SqT G.K H a xs) (h2 : RDs G as H ws xs) : Walk G (ItER G.K a xs.length) as H (.inl (numbered 0 ws.reverse)) := fun D hD as' H' s e R i => by
  have q1 : SqT G.K H' a xs := SqT.mono (e.to0 []) h1
  have q2 : RDs (G.g (D ++ G.gh)) as' H' ws xs := RDs.mono e _ _ (RDs.swap (G := G) (gh := G.gh) (more_f hD) _ _ h2)
  have q3 := RDs.rev q2
  refine ⟨fun x hx => ?_, fun hx => ?_⟩
  · rw [numbered_at] at hx
    obtain ⟨y, hy, rfl⟩ := Option.map_eq_some_iff.mp hx
    obtain ⟨v, ev, rv⟩ := q3.get hy
    have il : i < xs.length := by
      have z := (List.getElem?_eq_some_iff.mp ev).1
      simpa using z
    refine ⟨⟨il, xs, q1, rfl⟩, fun v' H2 ⟨T, x, e1, e2, e3, e4⟩ => ?_⟩
    subst e1
    subst e3
    have e5 := e4 xs q1
    rw [List.getElem?_reverse il, e5] at ev
    cases ev
    have eL : Ext as' H' as' (upd H' T (.tup [.int (i : Nat), v])) := Ext.laid e2
    refine ⟨eL, R.laid e2, .tup (SqT.of upd_same) (.cons ?_ (.cons (RD.mono eL _ _ rv) .nil))⟩
    rw [Nat.zero_add]
    exact .int _
  · rw [numbered_at] at hx
    have z : ws.reverse[i]? = none := by
      cases q : ws.reverse[i]? with
      | none => rfl
      | some y =>
        rw [q] at hx
        cases hx
    have y := q3.none z
    rw [List.length_reverse] at y
    exact ⟨y, xs, q1, rfl⟩
theorem vi_er {d : DE} (hK : X.K = G.K) (hg : Gl X "enumerate") (hm : X.mg "enumerate" = none) (hg2 : Gl X "reversed") (hm2 : X.mg "reversed" = none) (he : PE X e (rdE G c Wx d)) (hs : noStar e = true) :
    PI X (.Tuple elts kk tpos) (.Call (.Name "enumerate" p) [.Call (.Name "reversed" p2) [e] [] pos2] [] pos) (rdI G c Wx (diEnumRev d)) := by
  refine (pi_er hg hm hg2 hm2 he hs).imp fun σ H Q ⟨gh, as, env, s, R, E, h⟩ => ⟨gh, as, env, s, R, E, (Pst.bind h).imp fun x s1 as1 H1 e1 R1 h1 v1 r1 => ?_⟩
  split at h1
  · rename_i l
    obtain ⟨a, xs, rfl, h2, h3⟩ := (r1.data rfl).tupT
    rw [hK]
    exact ⟨a, xs, rfl, h2, h1 as1 H1 (Ext.refl _ _) R1 _ (walk_er (G := G.g gh) h2 h3)⟩
  · exact h1.elim
end
end Vi
set_option Elab.async false
set_option linter.all false
set_option maxRecDepth 100000
set_option maxHeartbeats 4000000
/-! Vi23: text * int, x += int, fields of exceptions, dict displays and stores. -/
namespace Vi
open PySem PySem.Spec PyProof.Rows L2

section
variable {X : Cx} {G : GI} {c : Ct} {Wx : WX}
/-! ### text * int -/
theorem mulS_ok {x : Str} {n : Int} (h : okMulS x n = true) : MulOk x n ∧ mulS x n = Txt.mul x n := by
  unfold okMulS at h
  rw [Bool.and_eq_true, Bool.and_eq_true, Bool.and_eq_true, decide_eq_true_eq, decide_eq_true_eq, decide_eq_true_eq, decide_eq_true_eq] at h
  obtain ⟨⟨⟨h1, h2⟩, h3⟩, h4⟩ := h
  refine ⟨⟨?_, fun hn _ => ?_, fun hn _ => ?_⟩, rfl⟩
  · rw [decide_eq_false (by omega), decide_eq_false (by omega)]
    rfl
  · have q : (1 : Int) ≤ n := by omega
    have q1 : (2 ^ 63 - 1) / 16777216 ≤ ((2 ^ 63 - 1 : Int) / n) := by
      refine (Int.le_ediv_iff_mul_le (by omega)).mpr ?_
      have : (2 ^ 63 - 1 : Int) / 16777216 * n ≤ (2 ^ 63 - 1 : Int) / 16777216 * 16777216 := Int.mul_le_mul_of_nonneg_left h2 (by decide)
      exact Int.le_trans this (by decide)
    have q2 : (16777216 : Int) ≤ (2 ^ 63 - 1) / 16777216 := by decide
    omega
  · unfold Builtin.Str.tooLong
    exact decide_eq_false (by rw [sizeLine_eq] <;> omega)
theorem op_mulS : OpR X (binaryOp .Mult) (fun x y H Q => ∃ z n, x = .str z ∧ y = .int n ∧ okMulS z n = true ∧ Q (.str (mulS z n)) H) := by
  intro pins s σ H x y v u Q I rx ry h
  obtain ⟨z, n, rfl, rfl, hk, q⟩ := h
  obtain ⟨t, rfl⟩ := rx
  obtain ⟨t', rfl⟩ := ry
  obtain ⟨h1, h2⟩ := mulS_ok hk
  refine SB.mul h1 fun t2 k => ⟨.str (mulS z n), H, I.tok k, ⟨t2, by rw [h2]⟩, q⟩
def rMul4 : R2 := fun x y H Q => rI CMulX (fun i j => .int (i * j)) x y H Q ∨ ∃ z n, x = .str z ∧ y = .int n ∧ okMulS z n = true ∧ Q (.str (mulS z n)) H
theorem o2_mul4 : Op2 G rMul4 opMul := by
  intro as H s x y z a b Q R ra rb e q
  unfold opMul at e
  split at e
  · split at e
    · rename_i k
      cases e
      cases ra.data rfl
      cases rb.data rfl
      exact .inr ⟨_, _, rfl, rfl, k, q as H _ (Ext.refl _ _) R (.d (.str _))⟩
    · cases e
  · exact .inl (o2_mul as H s x y z a b Q R ra rb e q)
/-! ### x += int -/
theorem vs_aug {i : Nat} {x : Str} {e : Expr} {d : DE} {p pos : Pos} (hN : X.N.Nodup) (hi : X.N[i]? = some x) (hx : Loc X.env.scope x) (he : PE X e (rdE G c Wx d)) (hf : X.fn x = true ∨ X.env.scope.names.lookup x = some .local) :
    PS X (.AugAssign (.Name x p) .Add e pos) (rdS G c Wx (sAug i opAddI d)) := by
  refine (ps_aug hN hi hx he ip_add hf).imp fun D σ H ⟨gh, as, env, s, R, E, h⟩ => ?_
  unfold sAug at h
  split at h
  · rename_i x0 ex
    obtain ⟨v, ev, rv⟩ := E.at_ i x0 ex
    refine ⟨v, ev, gh, as, env, s, R, E, rdE_in ((Pst.bind h).imp fun y s1 as1 H1 e1 R1 h1 v1 r1 => ?_)⟩
    split at h1
    · rename_i z ez
      unfold opAddI at ez
      split at ez
      · cases ez
        cases rv.data rfl
        cases r1.data rfl
        exact ⟨_, _, rfl, rfl, h1 as1 H1 (Ext.refl _ _) R1 _ ((E.mono e1).set (.d (.int _)) i)⟩
      · cases ez
    · exact h1.elim
  · exact h.elim
/-! ### a field of an exception -/
theorem map_get {fs : List (Str × V)} {xs : List V} : ∀ {ns : List Str} {i : Nat} {f : Str} {v : V}, ns.map (fun f => fs.lookup f) = xs.map some → ns[i]? = some f → xs[i]? = some v → fs.lookup f = some v := by
  intro ns i f v h h1 h2
  have e : (ns.map fun f => fs.lookup f)[i]? = (xs.map some)[i]? := by rw [h]
  rw [List.getElem?_map, List.getElem?_map, h1, h2] at e
  exact Option.some.inj e
theorem ve_fldX {e : Expr} {f : Str} {pos : Pos} {d : DE} {tab : List (Nat × Nat)} (hK : X.K = G.K) (hr : plainRecv e = true) (he : PE X e (rdE G c Wx d))
    (hX : ∀ k i, tab.lookup k = some i → ∀ C, G.clA k = some C → XfC G.K C ∧ PySem.W.findIn G.K (.ref C) f = some none ∧ (G.flds k)[i]? = some f) : PE X (.Attribute e f pos) (rdE G c Wx (d1 (opFldX tab) d)) := by
  refine ⟨fun pins s σ H Q I ⟨gh, as, env, st, R, E, h⟩ => ?_⟩
  have hd : rdE G c Wx d σ H fun v H1 => ∃ (a C : Addr) (dd : Option Addr) (fs : List (Str × V)) (val : V), v = .ref a ∧ H1 a = some (EO a C dd) ∧ xdP H1 dd fs ∧ fs.lookup f = some val ∧ XfC G.K C ∧ PySem.W.findIn G.K (.ref C) f = some none ∧ Q val H1 := by
    refine ⟨gh, as, env, st, R, E, (Pst.bind h).imp fun x s1 as1 H1 e1 R1 h1 v1 r1 => ?_⟩
    obtain ⟨z, ez, h2⟩ := h1.opt
    unfold opFldX at ez
    split at ez
    · rename_i k l
      obtain ⟨i, e2, e3⟩ := Option.bind_eq_some_iff.mp ez
      have rd := r1.data rfl
      cases rd with
      | exc g0 g1 g2 g3 g4 =>
        obtain ⟨x1, x2, x3⟩ := hX k i e2 _ g0.1
        obtain ⟨v, ev, rv⟩ := g4.get e3
        exact ⟨_, _, _, _, v, rfl, g1, g2, map_get g3 x3 ev, x1, x2, h2 as1 H1 (Ext.refl _ _) R1 v (.d rv)⟩
    · cases ez
  refine attr_of (base_of hr _ _ _) (thn (he.run pins s σ H _ I hd) fun u s1 hh => ?_)
  obtain ⟨v, H1, I1, rv, a, C, dd, fs, val, rfl, ea, xd, l, T, hno, q⟩ := hh
  obtain rfl : u = Value.ref a := rv
  rw [← hK] at T hno
  have oa : ObjOk X.prog X.w H1 s1.heap a (EO a C dd) := I1.hok a _ ea
  obtain ⟨⟨oe, vs, ho, hc, hdd, hdt⟩, _, _⟩ := oa
  cases dd with
  | none =>
    have xd : fs = [] := xd
    subst xd
    cases l
  | some dx =>
    have hx : ObjOk X.prog X.w H1 s1.heap dx (.xd fs) := I1.hok dx _ xd
    obtain ⟨mA, hns, hr⟩ := hx
    obtain ⟨od, ho2, hl⟩ := lookIn_ns hns
    obtain ⟨u, hu, ru⟩ := RelO.some_of (v := val) (o := mA f) (by rw [← l]; exact hr f)
    have J : PySem.W.InstAt s1.heap a oe C (some od) := ⟨ho, hc, by unfold PySem.W.notCls; rw [hdt] <;> rfl, by rw [hdd]; exact ho2⟩
    exact HandSPX.exc_get I1.kIn J T.ga T.gg T.exC (PySem.W.findObj_own T.hdC hno rfl (by rw [hl, hu])) (handed_of ru) ⟨val, H1, I1.tok _, ru, q⟩
/-! ### dicts -/
theorem RDk.append {as : List Addr} {H : Hp} : ∀ {ws ws' : List (W × W)} {vs vs' : List (Key × V)}, RDk G as H ws vs → RDk G as H ws' vs' → RDk G as H (ws ++ ws') (vs ++ vs')
  | [], _, _, _, h, k => by cases h; exact k
  | (a, w) :: ws, _, _, _, h, k => by
    cases h with
    | cons h0 h1 h2 => exact .cons h0 h1 (RDk.append h2 k)
theorem RDk.any {as : List Addr} {H : Hp} {k : W} {q : Key} (hk : RD G as H k (kV q)) : ∀ {ws : List (W × W)} {vs : List (Key × V)}, RDk G as H ws vs → ws.any (fun p => keyEq p.1 k) = vs.any fun p => decide (p.1 = q)
  | [], _, h => by cases h; rfl
  | (a, w) :: ws, _, h => by
    cases h with
    | cons h0 h1 h2 =>
      rw [List.any_cons, List.any_cons, RDk.any hk h2]
      show (keyEq a k || _) = _
      rw [keyEq_dec h0 hk]
theorem RDk.map {as : List Addr} {H : Hp} {k w : W} {q : Key} {v : V} (hk : RD G as H k (kV q)) (hw : RD G as H w v) : ∀ {ws : List (W × W)} {vs : List (Key × V)}, RDk G as H ws vs → RDk G as H (ws.map fun p => if keyEq p.1 k then (p.1, w) else p) (vs.map fun p => if p.1 = q then (p.1, v) else p)
  | [], _, h => by cases h; exact .nil
  | (a, u) :: ws, _, h => by
    cases h with
    | @cons _ _ q' _ _ _ h0 h1 h2 =>
      have ih := RDk.map hk hw h2
      rw [List.map_cons, List.map_cons]
      show RDk G as H ((if keyEq a k then (a, w) else (a, u)) :: _) _
      rw [keyEq_dec h0 hk]
      by_cases e : q' = q
      · rw [decide_eq_true e, if_pos rfl]
        show RDk G as H _ ((if q' = q then _ else _) :: _)
        rw [if_pos e]
        exact .cons h0 hw ih
      · rw [decide_eq_false e, if_neg (by decide)]
        show RDk G as H _ ((if q' = q then _ else _) :: _)
        rw [if_neg e]
        exact .cons h0 h1 ih
theorem RDk.put {as : List Addr} {H : Hp} {k w : W} {q : Key} {v : V} {ws : List (W × W)} {vs : List (Key × V)} (h : RDk G as H ws vs) (hk : RD G as H k (kV q)) (hw : RD G as H w v) : RDk G as H (putK k w ws) (L2.putK vs q v) := by
  unfold putK L2.putK
  rw [h.any hk]
  split
  · exact h.map hk hw
  · exact h.append (.cons hk hw .nil)
theorem belowKs_app (n : Nat) : ∀ (l m : List (W × W)), belowKs n (l ++ m) = (belowKs n l && belowKs n m)
  | [], m => rfl
  | (a, b) :: l, m => by
    show (belowW n a && belowW n b && belowKs n (l ++ m)) = (belowW n a && belowW n b && belowKs n l && belowKs n m)
    rw [belowKs_app n l m, ← Bool.and_assoc]
theorem belowKs_map (n : Nat) {k v : W} (hv : belowW n v = true) : ∀ (l : List (W × W)), belowKs n l = true → belowKs n (l.map fun p => if keyEq p.1 k then (p.1, v) else p) = true
  | [], _ => rfl
  | (a, b) :: l, h => by
    have h : (belowW n a && belowW n b && belowKs n l) = true := h
    rw [Bool.and_eq_true, Bool.and_eq_true] at h
    rw [List.map_cons]
    show belowKs n ((if keyEq a k then (a, v) else (a, b)) :: _) = true
    split
    · show (belowW n a && belowW n v && belowKs n _) = true
      rw [h.1.1, hv, belowKs_map n hv l h.2]
      rfl
    · show (belowW n a && belowW n b && belowKs n _) = true
      rw [h.1.1, h.1.2, belowKs_map n hv l h.2]
      rfl
theorem belowKs_put (n : Nat) {k v : W} {l : List (W × W)} (hk : belowW n k = true) (hv : belowW n v = true) (h : belowKs n l = true) : belowKs n (putK k v l) = true := by
  unfold putK
  split
  · exact belowKs_map n hv l h
  · rw [belowKs_app, h]
    show (true && (belowW n k && belowW n v && true)) = true
    rw [hk, hv]
    rfl
theorem key_ok {as : List Addr} {H : Hp} {k : W} {v : V} (r : RW G as H k v) (h : keyOk k = true) : (∃ q, v = kV q ∧ RD G as H k (kV q)) ∧ ∀ n, belowW n k = true := by
  cases k <;> first | cases h | skip
  · cases r.data rfl
    exact ⟨⟨.inl _, rfl, .int _⟩, fun n => rfl⟩
  · cases r.data rfl
    exact ⟨⟨.inr _, rfl, .str _⟩, fun n => rfl⟩
theorem vs_putK {o i v : Expr} {de dd dk : DE} {p pos : Pos} (hu : X.A.units + 1 < cLine) (hv : PE X v (rdE G c Wx de)) (ho : PE X o (rdE G c Wx dd)) (hi : PE X i (rdE G c Wx dk)) (hs : swapsWith v (some (.Subscript o i p)) pos.line X.env = pure false) :
    PS X (.Assign [.Subscript o i p] v pos) (rdS G c Wx (sPutK de dd dk)) := by
  refine (ps_dput hu ho hi hv hs).imp fun D σ H ⟨gh, as, env, s, R, E, h⟩ => ⟨gh, as, env, s, R, E, rdE_in ((Pst.bind h).imp fun w s1 as1 H1 e1 R1 h1 v1 r1 => ?_)⟩
  refine ⟨gh, as1, env, s1, R1, E.mono e1, rdE_in ((Pst.bind h1).imp fun x s2 as2 H2 e2 R2 h2 v2 r2 => ?_)⟩
  refine ⟨gh, as2, env, s2, R2, (E.mono e1).mono e2, rdE_in ((Pst.bind h2).imp fun y s3 as3 H3 e3 R3 h3 v3 r3 => ?_)⟩
  split at h3
  · rename_i n
    split at h3
    · rename_i l el
      split at h3
      · rename_i hk
        rw [Bool.and_eq_true, Bool.and_eq_true, decide_eq_true_eq] at hk
        obtain ⟨⟨k1, k2⟩, k3⟩ := hk
        obtain ⟨⟨q, rfl, rq⟩, kb⟩ := key_ok r3 k2
        have rw_ := (r1.mono (e2.trans e3)).data k1
        have rn := (r2.mono e3).data rfl
        cases rn with
        | adr hn =>
          obtain ⟨es, g1, g2⟩ := R3.ob n _ _ hn el
          have hl : es.length = l.length := by
            have len : ∀ {ws : List (W × W)} {vs : List (Key × V)}, RDk (G.g gh) as3 H3 ws vs → vs.length = ws.length := by
              intro ws
              induction ws with
              | nil => intro vs h; cases h; rfl
              | cons p ws ih =>
                intro vs h
                cases h with
                | cons h0 h1 h2 => exact congrArg (· + 1) (ih h2)
            exact len g2
          have eW : Ext as3 H3 as3 (upd H3 _ (.dK (L2.putK es q v1))) := Ext.put (List.mem_of_getElem? hn) g1 True.intro
          have RW' := R3.write (w := w) (ob := .dct (putK y w l)) hn ⟨_, upd_same, RDk.mono eW _ _ (g2.put rq rw_)⟩ fun k hk hn2 hw => belowKs_put k (kb k) hw (R3.cl k hk n _ hn2 el)
          exact ⟨_, _, rfl, .inl ⟨es, q, g1, rfl, by rw [hl, ← sizeMax_line]; exact k3, rfl⟩, h3 as3 _ eW RW' σ (((E.mono e1).mono e2).mono (e3.trans eW))⟩
      · exact h3.elim
    · exact h3.elim
  · exact h3.elim
inductive RPs (G : GI) (as : List Addr) (H : Hp) : List (W × W) → List (V × V) → Prop
  | nil : RPs G as H [] []
  | cons {k w : W} {u v : V} {ws : List (W × W)} {vs : List (V × V)} : RW G as H k u → RW G as H w v → RPs G as H ws vs → RPs G as H ((k, w) :: ws) ((u, v) :: vs)
theorem RPs.mono {as as' : List Addr} {H H' : Hp} (e : Ext as H as' H') : ∀ {ws : List (W × W)} {vs : List (V × V)}, RPs G as H ws vs → RPs G as' H' ws vs
  | _, _, .nil => .nil
  | _, _, .cons h0 h1 h2 => .cons (h0.mono e) (h1.mono e) (RPs.mono e h2)
theorem pairs_rd {gh : List Addr} {σ : L2.St} : ∀ {ds : List (DE × DE)} {as : List Addr} {H : Hp} {env : Env} {s : S} {Q : List (V × V) → Hp → Prop}, Rep (G.g gh) as H s → EOk (G.g gh) as H env σ →
    Pst (G.g gh) as H (fun cls dd H' => Wx cls dd σ H') (fun l s as H => ∀ ps, RPs (G.g gh) as H l ps → Q ps H) (dpAll ds c env s) → tPairs (ds.map fun p => (rdE G c Wx p.1, rdE G c Wx p.2)) σ H Q
  | [], as, H, env, s, Q, R, E, h => h as H (Ext.refl _ _) R [] .nil
  | (k, v) :: ds, as, H, env, s, Q, R, E, h => by
    refine ⟨gh, as, env, s, R, E, (Pst.bind h).imp fun x s1 as1 H1 e1 R1 h1 v1 r1 => ?_⟩
    refine ⟨gh, as1, env, s1, R1, E.mono e1, (Pst.bind h1).imp fun y s2 as2 H2 e2 R2 h2 v2 r2 => ?_⟩
    refine pairs_rd R2 ((E.mono e1).mono e2) ((Pst.bind h2).imp fun l s3 as3 H3 e3 R3 h3 ps rp => ?_)
    exact h3 as3 H3 (Ext.refl _ _) R3 _ (.cons (r1.mono (e2.trans e3)) (r2.mono e3) rp)
theorem pairs_keys {gh as : List Addr} {H : Hp} : ∀ {l : List (W × W)} {ps : List (V × V)}, RPs (G.g gh) as H l ps → l.all (fun p => keyOk p.1 && isD p.2) = true → ∃ kvs : List (Key × V), ps = kvs.map (fun kv => (kV kv.1, kv.2)) ∧ kvs.length = l.length ∧ ∀ (ws : List (W × W)) (es : List (Key × V)), RDk (G.g gh) as H ws es → RDk (G.g gh) as H (l.foldl (fun m p => putK p.1 p.2 m) ws) (kvs.foldl (fun acc kv => L2.putK acc kv.1 kv.2) es)
  | _, _, .nil, _ => ⟨[], rfl, rfl, fun ws es h => h⟩
  | _, _, .cons (k := k) (w := w) h0 h1 h2, hk => by
    rw [List.all_cons, Bool.and_eq_true, Bool.and_eq_true] at hk
    obtain ⟨kvs, e1, e2, e3⟩ := pairs_keys h2 hk.2
    obtain ⟨⟨q, rfl, rq⟩, _⟩ := key_ok h0 hk.1.1
    refine ⟨(q, _) :: kvs, by rw [e1]; rfl, congrArg (· + 1) e2, fun ws es h => ?_⟩
    exact e3 _ _ (h.put rq (h1.data hk.1.2))
theorem below_fold (n : Nat) : ∀ (l ws : List (W × W)), l.all (fun p => keyOk p.1 && isD p.2) = true → belowWs n (l.map (·.2)) = true → belowKs n ws = true → belowKs n (l.foldl (fun m p => putK p.1 p.2 m) ws) = true
  | [], ws, _, _, h => h
  | (k, v) :: l, ws, hk, hv, h => by
    rw [List.all_cons, Bool.and_eq_true, Bool.and_eq_true] at hk
    have hv : (belowW n v && belowWs n (l.map (·.2))) = true := hv
    rw [Bool.and_eq_true] at hv
    have kb : belowW n k = true := by
      have z := hk.1.1
      cases k <;> first | rfl | cases z
    exact below_fold n l _ hk.2 hv.2 (belowKs_put n kb hv.1 h)
theorem ve_disp {keys : List (Option Expr)} {values : List Expr} {ds : List (DE × DE)} {pos : Pos} (h : PPs X pos keys values (ds.map fun p => (rdE G c Wx p.1, rdE G c Wx p.2))) (hall : keys.all (·.isSome) = true) (hl : keys.length = values.length) (h0 : keys ≠ []) (h15 : keys.length ≤ 15) :
    PE X (.Dict keys values pos) (rdE G c Wx (dDisp ds)) := by
  refine (pe_disp h hall hl h0 h15).imp fun σ H Q ⟨gh, as, env, s, R, E, h⟩ p hp => ?_
  have e1 : Ext as H (as ++ [p]) (upd H p (.dK [])) := Ext.new hp
  have R1 : Rep (G.g gh) (as ++ [p]) (upd H p (.dK [])) (s.new (.dct [])) := R.new hp ⟨[], upd_same, .nil⟩
  have atp : (as ++ [p])[s.objs.length]? = some p := by rw [← R.len]; simp
  refine pairs_rd R1 (E.mono e1) ((Pst.bind (Pst.shift e1 h)).imp fun l s2 as2 H2 e2 R2 h2 ps rp => ?_)
  split at h2
  · rename_i eo
    split at h2
    · rename_i hk
      rw [Bool.and_eq_true, decide_eq_true_eq] at hk
      obtain ⟨kvs, e3, e4, e5⟩ := pairs_keys rp hk.1
      have at2 : as2[s.objs.length]? = some p := by
        obtain ⟨r, q⟩ := e2.pre
        rw [← q, List.getElem?_append_left (List.getElem?_eq_some_iff.mp atp).1]
        exact atp
      obtain ⟨es, g1, g2⟩ := R2.ob _ _ _ at2 eo
      have ee : es = [] := by
        cases g2
        rfl
      subst ee
      refine ⟨g1, kvs, e3, by rw [e4]; exact hk.2, ?_⟩
      have eW : Ext as2 H2 as2 (upd H2 p (.dK (mergeK [] kvs))) := Ext.put (List.mem_of_getElem? at2) g1 True.intro
      have RW' := R2.write (w := W.lst (l.map fun (x : W × W) => x.2)) (ob := O.dct (l.foldl (fun (m : List (W × W)) (p : W × W) => putK p.1 p.2 m) [])) at2 ⟨_, upd_same, RDk.mono eW _ _ (e5 [] [] .nil)⟩ fun k _ _ hw => below_fold k l [] hk.1 (show belowWs k (l.map (·.2)) = true from hw) rfl
      exact h2 as2 _ eW RW' _ (.d (.adr at2))
    · exact h2.elim
  · exact h2.elim
/-- {} as a new dict of the state -/
theorem ve_dict0 {pos : Pos} : PE X (.Dict [] [] pos) (rdE G c Wx fun _ _ s => newD [] s) := by
  refine pe_dnewK.imp fun σ H Q ⟨gh, as, env, s, R, E, h⟩ p hp => ?_
  have atp : (as ++ [p])[s.objs.length]? = some p := by rw [← R.len]; simp
  exact h _ _ (Ext.new hp) (R.new hp ⟨[], upd_same, .nil⟩) _ (.d (.adr atp))
end
end Vi
set_option Elab.async false
set_option linter.all false
set_option maxRecDepth 100000
set_option maxHeartbeats 4000000
/-! Vi24: tests by their forms; what is not read. -/
namespace Vi
open PySem PySem.Spec PyProof.Rows L2

section
variable {X : Cx} {G : GI} {c : Ct} {Wx : WX}
theorem ve_bad {e : Expr} : PE X e (rdE G c Wx dBad) := ⟨fun _ _ _ _ _ _ ⟨gh, as, env, st, R, E, h⟩ => h.elim⟩
theorem vt_bad {e : Expr} : PT X e (rdT G c Wx tBad) := ⟨fun _ _ _ _ _ _ ⟨gh, as, env, st, R, E, h⟩ => h.elim⟩
theorem vw_bad {e : Expr} : PW X e (rdT G c Wx tBad) := ⟨fun _ _ _ _ _ _ _ ⟨gh, as, env, st, R, E, h⟩ => h.elim⟩
def daBad : DA := fun _ _ _ => .bad
theorem va_bad {es : List Expr} : PA X es (rdA G c Wx daBad) := ⟨fun _ _ _ _ _ _ _ ⟨gh, as, env, st, R, E, h⟩ => h.elim⟩
theorem vk_bad {es : List Keyword} : PK X es (rdA G c Wx daBad) := ⟨fun _ _ _ _ _ _ _ ⟨gh, as, env, st, R, E, h⟩ => h.elim⟩
def dgBad : DG := fun _ _ _ => none
theorem vg_bad {e : Expr} {is : List Nat} : PG X e (rdG G is dgBad) := ⟨fun _ _ _ _ _ _ _ _ _ ⟨_, _, _, _, _, _, _, _, _, h, _⟩ => by cases h⟩
/-- from a value's reading to a test's -/
theorem tE_of {d : DE} {σ : L2.St} {H : Hp} {Q : Bool → Hp → Prop} (h : rdT G c Wx (tE d) σ H Q) : rdE G c Wx d σ H fun x H1 => ∃ k, x = .bl k ∧ Q k H1 := by
  obtain ⟨gh, as, env, s, R, E, h⟩ := h
  refine ⟨gh, as, env, s, R, E, (Pst.bind h).imp fun x s1 as1 H1 e1 R1 h1 v1 r1 => ?_⟩
  split at h1
  · cases r1.data rfl
    exact ⟨_, rfl, h1 as1 H1 (Ext.refl _ _) R1⟩
  · exact h1.elim
def plainT : Expr → Bool
  | .UnaryOp .Not _ _ => false
  | .BoolOp _ _ _ => false
  | .IfExp _ _ _ _ => false
  | .Compare _ _ _ _ => false
  | _ => true
theorem vt_val {e : Expr} {d : DE} (he : PE X e (rdE G c Wx d)) (hp : plainT e = true) : PT X e (rdT G c Wx (tE d)) := by
  refine (pt_val he fun whole => ?_).imp fun σ H Q h => tE_of h
  cases e with
  | UnaryOp op a p => cases op <;> first | rfl | cases hp
  | BoolOp => cases hp
  | IfExp => cases hp
  | Compare => cases hp
  | _ => rfl
theorem vt_cmp {a b : Expr} {op : CmpOp} {pos : Pos} {da db : DE} {r : V → V → Hp → VK → Prop} {f : S → W → W → Option W} (ho : OpR X (compareOp op) r) (hs : ∀ gh, Op2 (G.g gh) r f) (ha : PE X a (rdE G c Wx da)) (hb : PE X b (rdE G c Wx db)) (hm : behindInMarks op b = false) :
    PT X (.Compare a [op] [b] pos) (rdT G c Wx (tE (d2 f da db))) := (pt_cmpR ho ha hb hm).imp fun σ H Q h => tOp_of hs (tE_of h)
theorem chain_of {da db de : DE} {r r' : V → V → Hp → VK → Prop} {f f' : S → W → W → Option W} (hs : ∀ gh, Op2 (G.g gh) r f) (hs' : ∀ gh, Op2 (G.g gh) r' f') {σ : L2.St} {H : Hp} {Q : VK} (h : rdE G c Wx (dChain f f' da db de) σ H Q) : tChain r r' (rdE G c Wx da) (rdE G c Wx db) (rdE G c Wx de) σ H Q := by
  obtain ⟨gh, as, env, s, R, E, h⟩ := h
  refine ⟨gh, as, env, s, R, E, (Pst.bind h).imp fun x s1 as1 H1 e1 R1 h1 v1 r1 => ?_⟩
  refine ⟨gh, as1, env, s1, R1, E.mono e1, (Pst.bind h1).imp fun y s2 as2 H2 e2 R2 h2 v2 r2 => ?_⟩
  split at h2
  · rename_i ez
    refine hs gh as2 H2 s2 x y _ v1 v2 _ R2 (r1.mono e2) r2 ez fun as3 H3 v e3 R3 rv => ?_
    cases rv.data rfl
    refine ⟨true, rfl, ?_⟩
    rw [if_pos rfl]
    refine ⟨gh, as3, env, s2, R3, (E.mono e1).mono (e2.trans e3), (Pst.bind (Pst.shift e3 h2)).imp fun z s4 as4 H4 e4 R4 h4 v4 r4 => ?_⟩
    obtain ⟨q, eq, h5⟩ := h4.opt
    exact hs' gh as4 H4 s4 y z q v2 v4 Q R4 (r2.mono (e3.trans e4)) r4 eq fun as' H' v e R' rv => h5 as' H' e R' v rv
  · rename_i ez
    refine hs gh as2 H2 s2 x y _ v1 v2 _ R2 (r1.mono e2) r2 ez fun as3 H3 v e3 R3 rv => ?_
    cases rv.data rfl
    refine ⟨false, rfl, ?_⟩
    rw [if_neg (by decide)]
    exact h2 as3 H3 e3 R3 _ (.d (.bl false))
  · exact h2.elim
theorem vt_chain {a b e : Expr} {op op' : CmpOp} {pos : Pos} {da db de : DE} {r r' : V → V → Hp → VK → Prop} {f f' : S → W → W → Option W} (ho : OpR X (compareOp op) r) (hs : ∀ gh, Op2 (G.g gh) r f) (ho' : OpR X (compareOp op') r') (hs' : ∀ gh, Op2 (G.g gh) r' f')
    (ha : PE X a (rdE G c Wx da)) (hb : PE X b (rdE G c Wx db)) (he : PE X e (rdE G c Wx de)) (hm : lastMarks [op, op'] [b, e] = false) : PT X (.Compare a [op, op'] [b, e] pos) (rdT G c Wx (tE (dChain f f' da db de))) :=
  (pt_chain ho ho' ha hb he hm).imp fun σ H Q h => chain_of hs hs' (tE_of h)
theorem vw_and1 {a : Expr} {pos : Pos} {ta : DT} (ha : PT X a (rdT G c Wx ta)) : PW X (.BoolOp .And [a] pos) (rdT G c Wx ta) := pw_and1 ha
theorem vw_or1 {a : Expr} {pos : Pos} {ta : DT} (ha : PT X a (rdT G c Wx ta)) : PW X (.BoolOp .Or [a] pos) (rdT G c Wx ta) := pw_or1 ha
theorem ve_one {a : Expr} {op : BoolOp} {pos : Pos} {d : DE} (ha : PE X a (rdE G c Wx d)) : PE X (.BoolOp op [a] pos) (rdE G c Wx d) := pe_one ha
/-- not as a value -/
def dNot (a : DE) : DE := fun c env s => (a c env s).bind fun x s => match x with
  | .bl b => .ok (.bl (!b)) s
  | _ => .bad
theorem ve_not {a : Expr} {pos : Pos} {d : DE} (ha : PE X a (rdE G c Wx d)) : PE X (.UnaryOp .Not a pos) (rdE G c Wx (dNot d)) := by
  refine (pe_not ha).imp fun σ H Q ⟨gh, as, env, s, R, E, h⟩ => ⟨gh, as, env, s, R, E, (Pst.bind h).imp fun x s1 as1 H1 e1 R1 h1 v1 r1 => ?_⟩
  split at h1
  · cases r1.data rfl
    exact ⟨_, rfl, h1 as1 H1 (Ext.refl _ _) R1 _ (.d (.bl _))⟩
  · exact h1.elim
end
end Vi
set_option Elab.async false
set_option linter.all false
set_option maxRecDepth 100000
set_option maxHeartbeats 4000000
/-! Vi25: facts of the syntax, by booleans. -/
namespace Vi
open PySem PySem.Spec PyProof.Rows L2

/-- the place of a name -/
def slot : List Str → Str → Option Nat
  | [], _ => none
  | n :: r, x => if n = x then some 0 else (slot r x).map (· + 1)
theorem slot_ok : ∀ {N : List Str} {x : Str} {i : Nat}, slot N x = some i → N[i]? = some x
  | [], _, _, h => by cases h
  | n :: r, x, i, h => by
    unfold slot at h
    split at h
    · rename_i e
      cases h
      rw [e]
      rfl
    · obtain ⟨j, h1, rfl⟩ := Option.map_eq_some_iff.mp h
      have z := slot_ok h1
      simpa using z
def badName (x : Str) : Bool := (x == ("__debug__" : Str)) || (x == ("__classdict__" : Str))
theorem badName_ok {x : Str} (h : badName x = false) : (x == ("__debug__" : Str)) = false ∧ (x == ("__classdict__" : Str)) = false := by
  unfold badName at h
  exact Bool.or_eq_false_iff.mp h
/-! ### swapsWith, swappedStores -/
def isComp : Expr → Bool
  | .ListComp _ _ _ _ => true
  | .SetComp _ _ _ _ => true
  | .DictComp _ _ _ _ _ => true
  | _ => false
theorem sw_plain {e : Expr} (h : isComp e = false) (t : Option Expr) (line : Nat) (env : PySem.Env) : swapsWith e t line env = pure false := by
  cases e <;> first | rfl | cases h
theorem sole_plain {e : Expr} (h : isComp e = false) (t : Expr) (line : Nat) (env : PySem.Env) : swapsWithSole [t] e line env = pure false := sw_plain h (some t) line env
def swName (sc scope : Scope) (t : Str) (p pos : Pos) : Bool := (sc.names.lookup t == some .local && p.line == pos.line) && !(scope.names.any fun (n, k) => n == t && (k == .local || k == .cell))
theorem sw_name {elt : Expr} {gens : List Comprehension} {scope sc : Scope} {pos p : Pos} {t : Str} {line : Nat} {env : PySem.Env} (hs : env.scope = sc) (hk : sc.kind = .function) : swapsWith (.ListComp elt gens scope pos) (some (.Name t p)) line env = pure (swName sc scope t p pos) := by
  have bk : (env.blockKind == ScopeKind.function) = true := by
    unfold Env.blockKind
    rw [hs, hk]
    rfl
  show (pure (env.blockKind == .function && env.kindOf t == some .local && p.line == pos.line && !(scope.names.any fun (n, k) => n == t && (k == .local || k == .cell))) : Sem Bool) = _
  rw [bk]
  unfold Env.kindOf swName
  rw [hs, Bool.true_and]
def isName : Expr → Bool
  | .Name _ _ => true
  | _ => false
theorem sw_other {elt : Expr} {gens : List Comprehension} {scope : Scope} {pos : Pos} {t : Expr} (h : isName t = false) (line : Nat) (env : PySem.Env) : swapsWith (.ListComp elt gens scope pos) (some t) line env = pure false := by
  cases t <;> first | rfl | cases h
def isTupE : Expr → Bool
  | .Tuple _ _ _ => true
  | _ => false
theorem st_none {e tg : Expr} (h : isTupE e = false) (env : PySem.Env) : swappedStores [tg] e env = pure none := by
  cases e <;> first | (cases tg <;> rfl) | cases h
theorem st_name {e : Expr} {x : Str} {p : Pos} (env : PySem.Env) : swappedStores [.Name x p] e env = pure none := by
  cases e <;> rfl
def par2 (sc : Scope) (x y : Str) (px py : Pos) (a b : Expr) : Bool :=
  decide (sc.names.lookup x = some .local) && decide (sc.names.lookup y = some .local) && (py.line == px.line) && !decide (x = y) && noStar a && noStar b && !(foldedForSure 8 a && foldedForSure 8 b) && !(constantsAlone 8 a && constantsAlone 8 b)
theorem par2_ok {sc : Scope} {x y : Str} {px py : Pos} {a b : Expr} (h : par2 sc x y px py a b = true) (hk : sc.kind = .function) {env : PySem.Env} (hs : env.scope = sc) {k k2 : Nat} {p p2 : Pos} :
    sc.names.lookup x = some .local ∧ sc.names.lookup y = some .local ∧ swappedStores [.Tuple [.Name x px, .Name y py] k p] (.Tuple [a, b] k2 p2) env = pure (some [x, y]) := by
  unfold par2 at h
  simp only [Bool.and_eq_true, Bool.not_eq_true', decide_eq_true_eq, decide_eq_false_iff_not] at h
  obtain ⟨⟨⟨⟨⟨⟨⟨h1, h2⟩, h3⟩, h4⟩, h5⟩, h6⟩, h7⟩, h8⟩ := h
  refine ⟨h1, h2, ?_⟩
  have bk : (env.blockKind != ScopeKind.function) = false := by
    unfold Env.blockKind
    rw [hs, hk]
    rfl
  have kx : (env.kindOf x == some .local) = true := by
    unfold Env.kindOf
    rw [hs, h1]
    rfl
  have ky : (env.kindOf y == some .local) = true := by
    unfold Env.kindOf
    rw [hs, h2]
    rfl
  have yx : (y == x) = false := by simpa using Ne.symm h4
  have e2 : ([x, y].eraseDups).length = 2 := by
    simp [List.eraseDups, List.eraseDupsBy, List.eraseDupsBy.loop, yx]
  have h7' : [a, b].all (foldedForSure 8) = false := by
    rw [List.all_cons, List.all_cons, List.all_nil, Bool.and_true]
    exact h7
  have h8' : [a, b].all (constantsAlone 8) = false := by
    rw [List.all_cons, List.all_cons, List.all_nil, Bool.and_true]
    exact h8
  unfold swappedStores
  simp only [List.length_cons, List.length_nil, bk, h7', h8', Bool.or_false, bne_self_eq_false, Bool.false_eq_true, if_false, Nat.zero_add, Nat.reduceAdd, BEq.rfl, Bool.true_or, Bool.not_true]
  rw [if_neg fun h => by
    obtain ⟨e, he, hf⟩ := List.any_eq_true.mp h
    have hn : noStar e = true := by
      rcases List.mem_cons.mp he with z | z
      · rw [z]; exact h5
      · rw [List.mem_singleton.mp z]; exact h6
    cases e <;> first | (cases hn; done) | (cases hf; done)]
  simp [List.filterMap, kx, ky, h3, Expr.pos, e2]
def par3 (sc : Scope) (x y z : Str) (px py pz : Pos) (a b d : Expr) : Bool :=
  decide (sc.names.lookup x = some .local) && decide (sc.names.lookup y = some .local) && decide (sc.names.lookup z = some .local) && (py.line == px.line) && (pz.line == px.line) && !decide (x = y) && !decide (x = z) && !decide (y = z) && noStar a && noStar b && noStar d &&
    ![a, b, d].all (foldedForSure 8) && ![a, b, d].all (constantsAlone 8)
theorem par3_ok {sc : Scope} {x y z : Str} {px py pz : Pos} {a b d : Expr} (h : par3 sc x y z px py pz a b d = true) (hk : sc.kind = .function) {env : PySem.Env} (hs : env.scope = sc) {k k2 : Nat} {p p2 : Pos} :
    (sc.names.lookup x = some .local ∧ sc.names.lookup y = some .local ∧ sc.names.lookup z = some .local) ∧ swappedStores [.Tuple [.Name x px, .Name y py, .Name z pz] k p] (.Tuple [a, b, d] k2 p2) env = pure (some [x, y, z]) := by
  unfold par3 at h
  simp only [Bool.and_eq_true, Bool.not_eq_true', decide_eq_true_eq, decide_eq_false_iff_not] at h
  obtain ⟨⟨⟨⟨⟨⟨⟨⟨⟨⟨⟨⟨h1, h2⟩, h3⟩, l1⟩, l2⟩, n1⟩, n2⟩, n3⟩, s1⟩, s2⟩, s3⟩, h7⟩, h8⟩ := h
  refine ⟨⟨h1, h2, h3⟩, ?_⟩
  have bk : (env.blockKind != ScopeKind.function) = false := by
    unfold Env.blockKind
    rw [hs, hk]
    rfl
  have kd : ∀ w, sc.names.lookup w = some .local → (env.kindOf w == some .local) = true := fun w q => by
    unfold Env.kindOf
    rw [hs, q]
    rfl
  have kx := kd x h1
  have ky := kd y h2
  have kz := kd z h3
  have yx : (y == x) = false := by simpa using Ne.symm n1
  have zx : (z == x) = false := by simpa using Ne.symm n2
  have zy : (z == y) = false := by simpa using Ne.symm n3
  have e2 : ([x, y, z].eraseDups).length = 3 := by
    simp [List.eraseDups, List.eraseDupsBy, List.eraseDupsBy.loop, yx, zx, zy]
  unfold swappedStores
  simp only [List.length_cons, List.length_nil, bk, h7, h8, Bool.or_false, bne_self_eq_false, Bool.false_eq_true, if_false, Nat.zero_add, Nat.reduceAdd, BEq.rfl, Bool.or_true, Bool.not_true]
  rw [if_neg fun h => by
    obtain ⟨e, he, hf⟩ := List.any_eq_true.mp h
    have hn : noStar e = true := by
      rcases List.mem_cons.mp he with q | he
      · rw [q]; exact s1
      · rcases List.mem_cons.mp he with q | he
        · rw [q]; exact s2
        · rw [List.mem_singleton.mp he]; exact s3
    cases e <;> first | (cases hn; done) | (cases hf; done)]
  simp [List.filterMap, kx, ky, kz, l1, l2, Expr.pos, e2]
/-! ### equal syntax -/
mutual
/-- the same expression (of the forms that lambdas have) -/
def eqE : Nat → Expr → Expr → Bool
  | 0, _, _ => false
  | k + 1, .Name x p, .Name y q => decide (x = y) && decide (p = q)
  | k + 1, .Constant u i p, .Constant v j q => decide (u = v) && decide (i = j) && decide (p = q)
  | k + 1, .Attribute e f p, .Attribute e' f' q => eqE k e e' && decide (f = f') && decide (p = q)
  | k + 1, .Call f es [] p, .Call f' es' [] q => eqE k f f' && eqEs k es es' && decide (p = q)
  | k + 1, .BinOp a o b p, .BinOp a' o' b' q => eqE k a a' && decide (o = o') && eqE k b b' && decide (p = q)
  | k + 1, .Subscript a b p, .Subscript a' b' q => eqE k a a' && eqE k b b' && decide (p = q)
  | k + 1, .IfExp t a b p, .IfExp t' a' b' q => eqE k t t' && eqE k a a' && eqE k b b' && decide (p = q)
  | k + 1, .Compare a os es p, .Compare a' os' es' q => eqE k a a' && decide (os = os') && eqEs k es es' && decide (p = q)
  | k + 1, .BoolOp o es p, .BoolOp o' es' q => decide (o = o') && eqEs k es es' && decide (p = q)
  | k + 1, .UnaryOp o a p, .UnaryOp o' a' q => decide (o = o') && eqE k a a' && decide (p = q)
  | k + 1, .Tuple es i p, .Tuple es' i' q => eqEs k es es' && decide (i = i') && decide (p = q)
  | k + 1, .List es p, .List es' q => eqEs k es es' && decide (p = q)
  | _, _, _ => false
def eqEs : Nat → List Expr → List Expr → Bool
  | _, [], [] => true
  | 0, _, _ => false
  | k + 1, e :: es, e' :: es' => eqE k e e' && eqEs k es es'
  | _, _, _ => false
end
mutual
theorem eqE_ok : ∀ (k : Nat) (a b : Expr), eqE k a b = true → a = b := by
  intro k a b h
  unfold eqE at h
  split at h <;> first | (cases h; done) | skip
  all_goals simp only [Bool.and_eq_true, decide_eq_true_eq] at h
  · obtain ⟨rfl, rfl⟩ := h; rfl
  · obtain ⟨⟨rfl, rfl⟩, rfl⟩ := h; rfl
  · obtain ⟨⟨h1, rfl⟩, rfl⟩ := h; rw [eqE_ok _ _ _ h1]
  · obtain ⟨⟨h1, h2⟩, rfl⟩ := h; rw [eqE_ok _ _ _ h1, eqEs_ok _ _ _ h2]
  · obtain ⟨⟨⟨h1, rfl⟩, h2⟩, rfl⟩ := h; rw [eqE_ok _ _ _ h1, eqE_ok _ _ _ h2]
  · obtain ⟨⟨h1, h2⟩, rfl⟩ := h; rw [eqE_ok _ _ _ h1, eqE_ok _ _ _ h2]
  · obtain ⟨⟨⟨h1, h2⟩, h3⟩, rfl⟩ := h; rw [eqE_ok _ _ _ h1, eqE_ok _ _ _ h2, eqE_ok _ _ _ h3]
  · obtain ⟨⟨⟨h1, rfl⟩, h2⟩, rfl⟩ := h; rw [eqE_ok _ _ _ h1, eqEs_ok _ _ _ h2]
  · obtain ⟨⟨rfl, h1⟩, rfl⟩ := h; rw [eqEs_ok _ _ _ h1]
  · obtain ⟨⟨rfl, h1⟩, rfl⟩ := h; rw [eqE_ok _ _ _ h1]
  · obtain ⟨⟨h1, rfl⟩, rfl⟩ := h; rw [eqEs_ok _ _ _ h1]
  · obtain ⟨h1, rfl⟩ := h; rw [eqEs_ok _ _ _ h1]
theorem eqEs_ok : ∀ (k : Nat) (a b : List Expr), eqEs k a b = true → a = b := by
  intro k a b h
  unfold eqEs at h
  split at h <;> first | (cases h; done) | skip
  · rfl
  · rw [Bool.and_eq_true] at h
    rw [eqE_ok _ _ _ h.1, eqEs_ok _ _ _ h.2]
end
end Vi
set_option Elab.async false
set_option linter.all false
set_option maxRecDepth 100000
set_option maxHeartbeats 4000000
/-! Vi26: the operators by the syntax; names; constants; is None. -/
namespace Vi
open PySem PySem.Spec PyProof.Rows L2

section
variable {X : Cx} {G : GI} {c : Ct} {Wx : WX}
def opOf : Operator → Option (S → W → W → Option W)
  | .Add => some opAdd
  | .Sub => some opSub
  | .Mult => some opMul
  | .FloorDiv => some opFdiv
  | .Mod => some opMod
  | .Pow => some opPow
  | _ => none
theorem op_of {op : Operator} {f : S → W → W → Option W} (hK : X.K = G.K) (h : opOf op = some f) : ∃ r, OpR X (binaryOp op) r ∧ ∀ gh, Op2 (G.g gh) r f := by
  cases op <;> first | (cases h; done) | skip
  · cases h; exact ⟨_, op_add4, fun gh => by rw [hK]; exact o2_add⟩
  · cases h; exact ⟨_, op_sub, fun gh => o2_sub⟩
  · cases h; exact ⟨rMul4, OpR.or op_mulX op_mulS, fun gh => o2_mul4⟩
  · cases h; exact ⟨_, op_modN, fun gh => o2_mod⟩
  · cases h; exact ⟨_, op_pow, fun gh => o2_pow⟩
  · cases h; exact ⟨_, op_fdivV, fun gh => o2_fdiv⟩
def cmpOf : CmpOp → Option (S → W → W → Option W)
  | .Eq => some opEq
  | .NotEq => some opNe
  | .Lt => some opLt
  | .LtE => some opLe
  | .Gt => some opGt
  | .GtE => some opGe
  | .In => some opIn
  | .NotIn => some opNotIn
  | _ => none
theorem cmp_of {op : CmpOp} {f : S → W → W → Option W} (hK : X.K = G.K) (hu : X.A.units + 66 < cLine) (h : cmpOf op = some f) : ∃ r, OpR X (compareOp op) r ∧ ∀ gh, Op2 (G.g gh) r f := by
  cases op <;> first | (cases h; done) | skip
  · cases h; exact ⟨_, op_eq4 (by omega), fun gh => by rw [hK]; exact o2_eq⟩
  · cases h; exact ⟨_, op_ne4 (by omega), fun gh => by rw [hK]; exact o2_ne⟩
  · cases h; exact ⟨_, op_lt, fun gh => o2_lt⟩
  · cases h; exact ⟨_, op_le, fun gh => o2_le⟩
  · cases h; exact ⟨_, op_gt, fun gh => o2_gt⟩
  · cases h; exact ⟨_, op_ge, fun gh => o2_ge⟩
  · cases h; exact ⟨_, op_in3 (by omega), fun gh => by rw [hK]; exact o2_in⟩
  · cases h; exact ⟨_, op_notIn3 (by omega), fun gh => by rw [hK]; exact o2_notIn⟩
/-! ### is None -/
theorem ve_isN {a : Expr} {d : DE} {j : Nat} {p pos : Pos} (ha : PE X a (rdE G c Wx d)) : PE X (.Compare a [.Is] [.Constant .none j p] pos) (rdE G c Wx (d1 opIsN d)) :=
  (pe_cmp (pc_isN ha) rfl).imp fun σ H Q h => tUn_of (r := fun x H Q => Q (.bl (decide (x = .non))) H) (fun gh => o1_isN) h
theorem ve_notN {a : Expr} {d : DE} {j : Nat} {p pos : Pos} (ha : PE X a (rdE G c Wx d)) : PE X (.Compare a [.IsNot] [.Constant .none j p] pos) (rdE G c Wx (d1 opNotN d)) :=
  (pe_cmp (pc_notN ha) rfl).imp fun σ H Q h => tUn_of (r := fun x H Q => Q (.bl (!decide (x = .non))) H) (fun gh => o1_notN) h
theorem vt_isN {a : Expr} {d : DE} {j : Nat} {p pos : Pos} (ha : PE X a (rdE G c Wx d)) : PT X (.Compare a [.Is] [.Constant .none j p] pos) (rdT G c Wx (tE (d1 opIsN d))) :=
  (pt_cmp (pc_isN ha) rfl).imp fun σ H Q h => tUn_of (r := fun x H Q => Q (.bl (decide (x = .non))) H) (fun gh => o1_isN) (tE_of h)
theorem vt_notN {a : Expr} {d : DE} {j : Nat} {p pos : Pos} (ha : PE X a (rdE G c Wx d)) : PT X (.Compare a [.IsNot] [.Constant .none j p] pos) (rdT G c Wx (tE (d1 opNotN d))) :=
  (pt_cmp (pc_notN ha) rfl).imp fun σ H Q h => tUn_of (r := fun x H Q => Q (.bl (!decide (x = .non))) H) (fun gh => o1_notN) (tE_of h)
/-! ### constants -/
def constW : Const → Option W
  | .none => some .non
  | .bool b => some (.bl b)
  | .int i => some (.int i)
  | .str x => some (.str x)
  | _ => none
def cConst (v : Const) : DE := match constW v with
  | some w => dC w
  | none => dBad
theorem ve_cconst {v : Const} {j : Nat} {pos : Pos} : PE X (.Constant v j pos) (rdE G c Wx (cConst v)) := by
  unfold cConst
  split
  · rename_i w e
    cases v <;> first | (cases e; done) | skip
    · cases e; exact ve_const pe_non fun _ _ _ => .non
    · cases e; exact ve_const pe_bl fun _ _ _ => .bl _
    · cases e; exact ve_const pe_int fun _ _ _ => .int _
    · cases e; exact ve_const pe_str fun _ _ _ => .str _
  · exact ve_bad
end
end Vi
set_option Elab.async false
set_option linter.all false
set_option maxRecDepth 100000
set_option maxHeartbeats 4000000
/-! Vi27: the compiler: from the syntax to the interpreter's combinators. -/
namespace Vi
open PySem PySem.Spec PyProof.Rows L2

/-- what the compiler knows of the module -/
structure CI where
  defs : List (Str × Nat)
  binds : Nat → Nat → List Str → Option (List (Nat ⊕ W))
  cls : List (Str × Nat)
  consts : List (Str × W)
  fld : List (Str × List (Nat × Nat))
  new : Nat → Nat → Bool
  lams : List LT
  lamAt : Nat → Nat → Option (Nat × List Nat)
  exc0 : List (Str × Nat)
  exc1 : List (Str × Nat × Bool)
  caught : List Nat
/-- where a code stands: the names, the scope; all: a def's body -/
structure DC where
  N : List Str
  sc : Scope
  all : Bool
  /-- lambdas stand in it -/
  lm : Bool
def CI.isNew (ci : CI) (p : Pos) : Bool := ci.new p.line p.col
def isGl (dc : DC) (x : Str) : Bool := decide (dc.sc.names.lookup x = some .globalImplicit)
def isVis (dc : DC) (x : Str) : Bool := decide (dc.sc.names.lookup x = some .local) || decide (dc.sc.names.lookup x = some .cell) || decide (dc.sc.names.lookup x = some .free)
def cName (ci : CI) (dc : DC) (x : Str) : DE :=
  if badName x then dBad else if isVis dc x then (match slot dc.N x with
    | some i => dV i
    | none => dBad) else if isGl dc x then (match ci.consts.lookup x with
    | some w => dC w
    | none => dBad) else dBad
/-- a built-in function of one argument -/
def cB1 (new : Bool) (x : Str) (d : DE) : DE :=
  if x = "len" then d1 bLen d else if x = "abs" then d1 bAbs d else if x = "all" then d1 bAll d else if x = "any" then d1 bAny d else if x = "sum" then d1 bSum d
  else if x = "tuple" then d1 bTuple d else if x = "int" then d1 bInt d else if x = "str" then d1 bStr d else if x = "list" then (if new then d1R bListN d else d1 bList d) else dBad
def cB2 (x : Str) (d e : DE) : DE := if x = "min" then d2 bMin2 d e else if x = "max" then d2 bMax2 d e else dBad
/-- a class that isinstance asks for -/
def tyOf (ci : CI) (dc : DC) : Expr → Option Ty
  | .Name x _ => if badName x || !isGl dc x then none else if x = "str" then some .str else if x = "int" then some .int else if x = "bool" then some .bool else if x = "tuple" then some .tup else if x = "list" then some .lst else if x = "dict" then some .dct else (ci.cls.lookup x).map .cls
  | _ => none
def tysOf (ci : CI) (dc : DC) : List Expr → Option (List Ty)
  | [] => some []
  | e :: es => match tyOf ci dc e, tysOf ci dc es with
    | some t, some ts => some (t :: ts)
    | _, _ => none
/-- a method with no argument, with one -/
def cM0 (x : Str) (d : DE) : DE := if x = "pop" then dM1 .lst mPop d else dBad
def cM1 (x : Str) (d e : DE) : DE := if x = "append" then dM2 .lst mAppend d e else if x = "extend" then dM2 .lst mExtend d e else if x = "pop" then dM2 .lst mPopAt d e else if x = "join" then dM2 .str (pureM bJoin) d e else dBad
/-- the names of a comprehension's block with their places -/
def ownOf (N : List Str) : List (Str × NameKind) → List (Str × Nat)
  | [] => []
  | (x, .local) :: r => (match slot N x with
    | some i => (x, i) :: ownOf N r
    | none => ownOf N r)
  | (x, .cell) :: r => (match slot N x with
    | some i => (x, i) :: ownOf N r
    | none => ownOf N r)
  | _ :: r => ownOf N r
/-- a target -/
def cTg (dc : DC) (is : List Nat) : Nat → Expr → DG
  | 0, _ => dgBad
  | k + 1, .Name x _ => (match slot dc.N x with
    | some i => if is.contains i && (if dc.all then decide (dc.sc.names.lookup x = some .local) || decide (dc.sc.names.lookup x = some .cell) else decide (dc.sc.names.lookup x = some .local)) then dgName i else dgBad
    | none => dgBad)
  | k + 1, .Tuple es _ _ => if es.all noStar then dgTup es.length (es.foldr (fun e r => dgCons (cTg dc is k e) r) dgNil) else dgBad
  | _, _ => dgBad
def isRepr : Expr → Option Expr
  | .Call (.Name x _) [a] [] _ => if x = "repr" then some a else none
  | _ => none
def isNone : Expr → Bool
  | .Constant .none _ _ => true
  | _ => false
def notSet : Expr → Bool
  | .Set _ _ _ => false
  | _ => true
def isSlice : Expr → Bool
  | .Slice _ _ _ _ => true
  | _ => false
def eqArgs (a b : Arguments) : Bool := a.posonlyargs.isEmpty && b.posonlyargs.isEmpty && a.vararg.isNone && b.vararg.isNone && a.kwonlyargs.isEmpty && b.kwonlyargs.isEmpty && a.kw_defaults.isEmpty && b.kw_defaults.isEmpty && a.kwarg.isNone && b.kwarg.isNone && a.defaults.isEmpty && b.defaults.isEmpty && a.args.isEmpty && b.args.isEmpty
/-- the lambda j of the table is this one -/
def isLam (ci : CI) (j : Nat) (pa : Arguments) (b : Expr) (sc : Scope) : Bool := match ci.lams[j]? with
  | some L => eqArgs L.params pa && eqE 40 L.body b && decide (L.scope = sc)
  | none => false
/-- a lambda that is made here; cap: where the captured names stand -/
def lamOk (ci : CI) (dc : DC) (j : Nat) (cap : List Nat) (pa : Arguments) (b : Expr) (sc : Scope) : Bool := match ci.lams[j]? with
  | some L => isLam ci j pa b sc && (dc.all && dc.lm) && decide (L.cap.map (slot dc.N) = cap.map some) && L.cap.all (fun x => (decide (dc.sc.names.lookup x = some .cell) || decide (dc.sc.names.lookup x = some .free)) && decide ((x, NameKind.free) ∈ sc.names)) &&
      sc.names.all (fun y => decide (y.2 ≠ .free) || decide (dc.sc.names.lookup y.1 = some .cell) || decide (dc.sc.names.lookup y.1 = some .free))
  | none => false
def kwN : List Keyword → Option (List Str)
  | [] => some []
  | k :: r => match k.arg, kwN r with
    | some x, some l => some (x :: l)
    | _, _ => none
def allSome : List (Option Expr) → Option (List Expr)
  | [] => some []
  | some e :: r => (allSome r).map (e :: ·)
  | none :: _ => none
mutual
def cE (ci : CI) : Nat → DC → Expr → DE
  | 0, _, _ => dBad
  | k + 1, dc, .Name x _ => cName ci dc x
  | k + 1, dc, .Constant v _ _ => cConst v
  | k + 1, dc, .Tuple es _ _ => dTup (cA ci k dc es)
  | k + 1, dc, .List es p => if ci.isNew p then dLstN (cA ci k dc es) else dLst (cA ci k dc es)
  | k + 1, dc, .BinOp a op b _ => (match opOf op with
    | some f => d2 f (cE ci k dc a) (cE ci k dc b)
    | none => dBad)
  | k + 1, dc, .UnaryOp .USub a _ => d1 opNeg (cE ci k dc a)
  | k + 1, dc, .UnaryOp .Not a _ => dNot (cE ci k dc a)
  | k + 1, dc, .BoolOp op es _ => cV ci k dc op es
  | k + 1, dc, .IfExp t a b _ => dIf (cT ci k dc t) (cE ci k dc a) (cE ci k dc b)
  | k + 1, dc, .Compare a [op] [b] _ => cC ci k dc a op b
  | k + 1, dc, .Compare a [o1, o2] [b, d] _ => (match cmpOf o1, cmpOf o2 with
    | some f, some g => if lastMarks [o1, o2] [b, d] then dBad else dChain f g (cE ci k dc a) (cE ci k dc b) (cE ci k dc d)
    | _, _ => dBad)
  | k + 1, dc, .Subscript a (.Slice lo hi none _) _ => dSlice (cE ci k dc a) (lo.map (cE ci k dc)) (hi.map (cE ci k dc))
  | k + 1, dc, .Subscript a i _ => if isSlice i then dBad else d2 opIx (cE ci k dc a) (cE ci k dc i)
  | k + 1, dc, .Attribute o f _ => (match ci.fld.lookup f with
    | some tab => if plainRecv o then d1 (opFldX tab) (cE ci k dc o) else dBad
    | none => dBad)
  | k + 1, dc, .Dict keys values _ => (match keys with
    | [] => (match values with
      | [] => fun _ _ s => newD [] s
      | _ => dBad)
    | _ => (match allSome keys with
      | some ks => if decide (ks.length = values.length) && decide (keys.length ≤ 15) then dDisp ((ks.zip values).map fun p => (cE ci k dc p.1, cE ci k dc p.2)) else dBad
      | none => dBad))
  | k + 1, dc, .ListComp elt [⟨tg, iter, ifs, 0⟩] scope pos => if blkC dc.N dc.sc scope (ownOf dc.N scope.names) && notSet iter then (if ci.isNew pos then dLcN else dLc) ((ownOf dc.N scope.names).map (·.2)) (cI ci k dc tg iter) (cTg ⟨dc.N, L2.relS scope dc.sc, false, false⟩ ((ownOf dc.N scope.names).map (·.2)) 3 tg) (cIfs ci k ⟨dc.N, L2.relS scope dc.sc, false, false⟩ ifs) (cE ci k ⟨dc.N, L2.relS scope dc.sc, false, false⟩ elt) else dBad
  | k + 1, dc, .Call (.Attribute o m apos) args [] cpos => if plainRecv o && args.all noStar && (apos.endLine == cpos.line) then (match args with
    | [] => cM0 m (cE ci k dc o)
    | [a] => cM1 m (cE ci k dc o) (cE ci k dc a)
    | _ => dBad) else dBad
  | k + 1, dc, .Call (.Name x _) args kws pos => if badName x then dBad else if isVis dc x then (match slot dc.N x, kws with
      | some i, [] => if args.all noStar then dCallV i (cA ci k dc args) else dBad
      | _, _ => dBad)
    else if isGl dc x then (match ci.defs.lookup x with
      | some g => (match args, kws with
        | [.Lambda pa b sc lp], [] => (match ci.lamAt lp.line lp.col, ci.binds g 1 [] with
          | some (j, cap), some pick => if lamOk ci dc j cap pa b sc then dCallLam g pick daNil j cap else dBad
          | _, _ => dBad)
        | args, kws => if args.all noStar then (match kwN kws with
          | some ks => (match ci.binds g args.length ks with
            | some pick => (match args, kws with
              | args, [] => dCall g pick (cA ci k dc args)
              | [], kws => dCall g pick (cK ci k dc kws)
              | args, kws => dCall g pick (daApp (cA ci k dc args) (cK ci k dc kws)))
            | none => dBad)
          | none => dBad) else dBad)
      | none => (match args, kws with
        | [a], [] => if noStar a then cB1 (ci.isNew pos) x (cE ci k dc a) else dBad
        | [a, b], [] => if noStar a && noStar b then (if x = "isinstance" then (match b with
            | .Tuple Ts _ _ => if 30 < Ts.length then dBad else (match tysOf ci dc Ts with
              | some ts => dIsi (cE ci k dc a) ts
              | none => dBad)
            | T => (match tyOf ci dc T with
              | some t => dIsi (cE ci k dc a) [t]
              | none => dBad)) else cB2 x (cE ci k dc a) (cE ci k dc b)) else dBad
        | _, _ => dBad))
    else dBad
  | _, _, _ => dBad
/-- a comparison as a value -/
def cC (ci : CI) : Nat → DC → Expr → CmpOp → Expr → DE
  | 0, _, _, _, _ => dBad
  | k + 1, dc, a, op, b => if isNone b && decide (op = .Is) then d1 opIsN (cE ci k dc a) else if isNone b && decide (op = .IsNot) then d1 opNotN (cE ci k dc a) else
    match isRepr a, isRepr b with
    | some a', some b' => if isGl dc "repr" && decide (op = .Eq) && noStar a' && noStar b' then dRepEq (cE ci k dc a') (cE ci k dc b') else dBad
    | _, _ => (match cmpOf op with
      | some f => if behindInMarks op b then dBad else d2 f (cE ci k dc a) (cE ci k dc b)
      | none => dBad)
def cA (ci : CI) : Nat → DC → List Expr → DA
  | 0, _, _ => daBad
  | k + 1, _, [] => daNil
  | k + 1, dc, e :: es => if noStar e then daCons (cE ci k dc e) (cA ci k dc es) else daBad
def cK (ci : CI) : Nat → DC → List Keyword → DA
  | 0, _, _ => daBad
  | k + 1, _, [] => daNil
  | k + 1, dc, ⟨_, e, _⟩ :: es => daCons (cE ci k dc e) (cK ci k dc es)
/-- and, or as values -/
def cV (ci : CI) : Nat → DC → BoolOp → List Expr → DE
  | k + 1, dc, _, [e] => cE ci k dc e
  | k + 1, dc, .And, e :: es => dAnd (cE ci k dc e) (cV ci k dc .And es)
  | k + 1, dc, .Or, e :: es => dOr (cE ci k dc e) (cV ci k dc .Or es)
  | _, _, _, _ => dBad
def cT (ci : CI) : Nat → DC → Expr → DT
  | 0, _, _ => tBad
  | k + 1, dc, .UnaryOp .Not a _ => tNot (cT ci k dc a)
  | k + 1, dc, .BoolOp op es _ => cW ci k dc op es
  | k + 1, _, .IfExp _ _ _ _ => tBad
  | k + 1, dc, .Compare a [op] [b] _ => if isNone b && decide (op = .Is) then tE (d1 opIsN (cE ci k dc a)) else if isNone b && decide (op = .IsNot) then tE (d1 opNotN (cE ci k dc a)) else (match cmpOf op with
    | some f => if behindInMarks op b then tBad else tE (d2 f (cE ci k dc a) (cE ci k dc b))
    | none => tBad)
  | k + 1, dc, .Compare a [o1, o2] [b, d] _ => (match cmpOf o1, cmpOf o2 with
    | some f, some g => if lastMarks [o1, o2] [b, d] then tBad else tE (dChain f g (cE ci k dc a) (cE ci k dc b) (cE ci k dc d))
    | _, _ => tBad)
  | k + 1, _, .Compare _ _ _ _ => tBad
  | k + 1, dc, e => tE (cE ci k dc e)
def cW (ci : CI) : Nat → DC → BoolOp → List Expr → DT
  | k + 1, dc, _, [e] => cT ci k dc e
  | k + 1, dc, .And, e :: es => tAnd (cT ci k dc e) (cW ci k dc .And es)
  | k + 1, dc, .Or, e :: es => tOr (cT ci k dc e) (cW ci k dc .Or es)
  | _, _, _, _ => tBad
/-- the conditions of a comprehension -/
def cIfs (ci : CI) : Nat → DC → List Expr → DT
  | 0, _, _ => tBad
  | _, _, [] => tYes
  | k + 1, dc, [e] => cT ci k dc e
  | _, _, _ => tBad
/-- what a for walks -/
def cI (ci : CI) : Nat → DC → Expr → Expr → DI
  | 0, _, _, _ => diBad
  | k + 1, dc, tg, e => match e with
    | .Call (.Name x _) [a] [] _ => if isGl dc x && decide (x = "range") && (ci.defs.lookup x).isNone then (if noStar a then diRange (cE ci k dc a) else diBad) else (match a with
      | .Call (.Name y _) [b] [] _ => if isTupE tg && isGl dc x && decide (x = "enumerate") && isGl dc y && decide (y = "reversed") && noStar b && (ci.defs.lookup x).isNone then diEnumRev (cE ci k dc b) else diE (cE ci k dc e)
      | _ => diE (cE ci k dc e))
    | e => diE (cE ci k dc e)
end
end Vi
set_option Elab.async false
set_option linter.all false
set_option maxRecDepth 100000
set_option maxHeartbeats 4000000
/-! Vi28: the compiler is right: contexts, leaves. -/
namespace Vi
open PySem PySem.Spec PyProof.Rows L2

def bltNames : List Str := ["len", "abs", "all", "any", "sum", "tuple", "int", "str", "list", "min", "max", "isinstance", "repr", "range", "enumerate", "reversed", "bool", "dict"]
/-- what is told of the module at a level: lv the room, k the level of the calls -/
structure CIOk (P : Program) (w : World) (K : PySem.W.Frag) (mg : Str → Option Value) (base : Heap) (G : GI) (ci : CI) (pg : Pg) (lv k : Nat) : Prop where
  defs : ∀ x g, ci.defs.lookup x = some g → ∃ f fd ps, mg x = some (.ref f) ∧ PySem.W.keepIn K (.ref f) = true ∧ FnV P w K mg base lv f fd ps (spV G pg k (.fn g) ps.length) ∧ ∀ n ks pick, ci.binds g n ks = some pick → BndW K fd ps n ks pick
  blt : ∀ x ∈ bltNames, mg x = none
  cls : ∀ x c, ci.cls.lookup x = some c → ∃ C, G.clA c = some C ∧ mg x = some (.ref C)
  consts : ∀ x w, ci.consts.lookup x = some w → ∃ u, mg x = some u ∧ ConstW w u
  fld : ∀ f tab, ci.fld.lookup f = some tab → ∀ k i, tab.lookup k = some i → ∀ C, G.clA k = some C → XfC G.K C ∧ PySem.W.findIn G.K (.ref C) f = some none ∧ (G.flds k)[i]? = some f
  kit : KitOk G pg.sub
  lam : ∀ j, G.lamT j = ci.lams[j]?
  lv : LamV P w K mg base G pg lv k
/-- a context where the code stands -/
structure XOk (X : Cx) (G : GI) (ci : CI) (pg : Pg) (lv k : Nat) (dc : DC) (Wx : WX) : Prop where
  K : X.K = G.K
  N : X.N = dc.N
  nd : X.N.Nodup
  sc : X.env.scope = dc.sc
  kind : dc.sc.kind = .function
  fn : dc.all = true → ∀ x, X.fn x = true
  calm : X.calm = true
  gd : X.A.guards = some []
  room : Room lv X.A
  tk : Takes X Wx
  pass : dc.all = true → PassesOwn (model X.prog X.w) X.A X.env X.xe
  mod : CIOk X.prog X.w X.K X.mg X.base G ci pg lv k
  lamc : dc.lm = true → ∃ c P, LamX.TabB X.base X.mg c P ∧ X.env.code = .ref c ∧ (P, X.env.qual ++ "<lambda>") ∈ G.T ∧ ∀ p ∈ G.T, p.1 = P → p.2 = X.env.qual ++ "<lambda>"
section
variable {X : Cx} {G : GI} {ci : CI} {pg : Pg} {lv k : Nat} {dc : DC} {Wx : WX}
theorem XOk.units (x : XOk X G ci pg lv k dc Wx) : X.A.units + 66 < cLine := by have := x.room.un; omega
theorem XOk.gl (x : XOk X G ci pg lv k dc Wx) {n : Str} (h : isGl dc n = true) : Gl X n := by
  unfold isGl at h
  have z := of_decide_eq_true h
  show X.env.scope.names.lookup n = some .globalImplicit
  rw [x.sc]
  exact z
theorem XOk.vis (x : XOk X G ci pg lv k dc Wx) {n : Str} (h : isVis dc n = true) : Vis X.env.scope n := by
  unfold isVis at h
  rw [Bool.or_eq_true, Bool.or_eq_true, decide_eq_true_eq, decide_eq_true_eq, decide_eq_true_eq] at h
  show _ ∨ _ ∨ _
  rw [x.sc]
  rcases h with (h | h) | h
  · exact .inl h
  · exact .inr (.inl h)
  · exact .inr (.inr h)
theorem name_ok (x : XOk X G ci pg lv k dc Wx) {n : Str} {pos : Pos} : PE X (.Name n pos) (rdE G (ctAt pg k) Wx (cName ci dc n)) := by
  unfold cName
  split
  · exact ve_bad
  · rename_i hb
    have hb := badName_ok (Bool.eq_false_iff.mpr hb)
    split
    · rename_i hv
      split
      · rename_i i hi
        exact ve_var (by rw [x.N]; exact slot_ok hi) (x.vis hv) hb.1 hb.2
      · exact ve_bad
    · split
      · rename_i hg
        split
        · rename_i w hw
          obtain ⟨u, hm, v, rv, rd⟩ := x.mod.consts _ _ hw
          exact ve_const (pe_glob (x.gl hg) hm rv hb.1) fun gh as H => rd _ _ _
        · exact ve_bad
      · exact ve_bad
theorem b1_ok (x : XOk X G ci pg lv k dc Wx) {n : Str} {e : Expr} {p pos : Pos} {d : DE} {new : Bool} (hg : isGl dc n = true) (hb : badName n = false) (he : PE X e (rdE G (ctAt pg k) Wx d)) (hs : noStar e = true) : PE X (.Call (.Name n p) [e] [] pos) (rdE G (ctAt pg k) Wx (cB1 new n d)) := by
  have hK := x.K
  have db := (badName_ok hb).1
  have mg : ∀ y, y ∈ bltNames → X.mg y = none := x.mod.blt
  have gl := x.gl hg
  unfold cB1
  split
  · rename_i e1
    subst e1
    have hc := call_len (X := X)
    try rw [hK] at hc
    exact ve_b1 hc (fun gh => b_len) gl (mg _ (by decide)) (by decide +kernel) he (by decide) db hs
  rename_i hn0
  split
  · rename_i e1
    subst e1
    have hc := call_abs (X := X)
    try rw [hK] at hc
    exact ve_b1 hc (fun gh => b_abs) gl (mg _ (by decide)) (by decide +kernel) he (by decide) db hs
  rename_i hn1
  split
  · rename_i e1
    subst e1
    have hc := cr_all (X := X) x.calm
    try rw [hK] at hc
    exact ve_b1 hc (fun gh => b_all) gl (mg _ (by decide)) (by decide +kernel) he (by decide) db hs
  rename_i hn2
  split
  · rename_i e1
    subst e1
    have hc := cr_any (X := X) x.calm
    try rw [hK] at hc
    exact ve_b1 hc (fun gh => b_any) gl (mg _ (by decide)) (by decide +kernel) he (by decide) db hs
  rename_i hn3
  split
  · rename_i e1
    subst e1
    have hc := cr_sum (X := X) x.calm
    try rw [hK] at hc
    exact ve_b1 hc (fun gh => b_sum) gl (mg _ (by decide)) (by decide +kernel) he (by decide) db hs
  rename_i hn4
  split
  · rename_i e1
    subst e1
    have hc := call_tuple_of (X := X)
    try rw [hK] at hc
    exact ve_t1 hc (fun gh => b_tuple) gl (mg _ (by decide)) (by decide +kernel) he (by decide) db hs
  rename_i hn5
  split
  · rename_i e1
    subst e1
    have hc := call_int4 (X := X)
    try rw [hK] at hc
    exact ve_t1 hc (fun gh => b_int) gl (mg _ (by decide)) (by decide +kernel) he (by decide) db hs
  rename_i hn6
  split
  · rename_i e1
    subst e1
    have hc := call_str4 (X := X)
    try rw [hK] at hc
    exact ve_t1 hc (fun gh => b_str) gl (mg _ (by decide)) (by decide +kernel) he (by decide) db hs
  rename_i hn7
  split
  · rename_i e1
    subst e1
    have hc := call_list_of (X := X)
    try rw [hK] at hc
    split
    · exact ve_t1R hc (fun gh => b_listN) gl (mg _ (by decide)) (by decide +kernel) he (by decide) db hs
    · exact ve_t1 hc (fun gh => b_list) gl (mg _ (by decide)) (by decide +kernel) he (by decide) db hs
  · exact ve_bad
theorem b2_ok (x : XOk X G ci pg lv k dc Wx) {n : Str} {a b : Expr} {p pos : Pos} {da db : DE} (hg : isGl dc n = true) (ha : PE X a (rdE G (ctAt pg k) Wx da)) (hb : PE X b (rdE G (ctAt pg k) Wx db)) (hs : noStar a = true) (hs2 : noStar b = true) :
    PE X (.Call (.Name n p) [a, b] [] pos) (rdE G (ctAt pg k) Wx (cB2 n da db)) := by
  have mg : ∀ y, y ∈ bltNames → X.mg y = none := x.mod.blt
  have gl := x.gl hg
  unfold cB2
  split
  · rename_i e1
    subst e1
    exact ve_b2 (call_min2 x.calm) (fun gh => b_min2) gl (mg _ (by decide)) (by decide +kernel) ha hb (by decide) (by decide) hs hs2
  · split
    · rename_i e1
      subst e1
      exact ve_b2 (call_max2 x.calm) (fun gh => b_max2) gl (mg _ (by decide)) (by decide +kernel) ha hb (by decide) (by decide) hs hs2
    · exact ve_bad
theorem m0_ok (x : XOk X G ci pg lv k dc Wx) {n : Str} {o : Expr} {apos cpos : Pos} {d : DE} (ho : PE X o (rdE G (ctAt pg k) Wx d)) (hr : plainRecv o = true) (hl : (apos.endLine == cpos.line) = true) : PE X (.Call (.Attribute o n apos) [] [] cpos) (rdE G (ctAt pg k) Wx (cM0 n d)) := by
  unfold cM0
  split
  · rename_i e1
    subst e1
    exact ve_m0 (k := .lst) F.plainAttrs_list F.slot_list_pop F.type_list_pop mt_pop (fun gh => m_pop) x.K ho hr hl
  · exact ve_bad
theorem m1_ok (x : XOk X G ci pg lv k dc Wx) {n : Str} {o e : Expr} {apos cpos : Pos} {d de : DE} (ho : PE X o (rdE G (ctAt pg k) Wx d)) (he : PE X e (rdE G (ctAt pg k) Wx de)) (hr : plainRecv o = true) (hs : noStar e = true) (hl : (apos.endLine == cpos.line) = true) :
    PE X (.Call (.Attribute o n apos) [e] [] cpos) (rdE G (ctAt pg k) Wx (cM1 n d de)) := by
  have hK := x.K
  unfold cM1
  split
  · rename_i e1
    subst e1
    exact ve_m1 (k := .lst) F.plainAttrs_list F.slot_list_append F.type_list_append mt_append (fun gh => m_append) x.K ho he hr hs hl
  · split
    · rename_i e1
      subst e1
      have hm := mt_ext4 (X := X)
      rw [hK] at hm
      exact ve_m1 (k := .lst) F.plainAttrs_list F.slot_list_extend F.type_list_extend hm (fun gh => m_extend) x.K ho he hr hs hl
    · split
      · rename_i e1
        subst e1
        exact ve_m1 (k := .lst) F.plainAttrs_list F.slot_list_pop F.type_list_pop mt_popAtN (fun gh => m_popAt) x.K ho he hr hs hl
      · split
        · rename_i e1
          subst e1
          have hm := mt_join (X := X)
          rw [hK] at hm
          exact ve_m1 (k := .str) F.plainAttrs_str F.slot_str_join F.type_str_join hm (fun gh => m_join) x.K ho he hr hs hl
        · exact ve_bad
theorem ty_ok (x : XOk X G ci pg lv k dc Wx) {e : Expr} {t : Ty} (h : tyOf ci dc e = some t) : ∃ tv tu, PE X e (tC tv) ∧ ClsV tv tu ∧ tyU G t = some tu ∧ noStar e = true := by
  have mg : ∀ y, y ∈ bltNames → X.mg y = none := x.mod.blt
  cases e <;> first | (cases h; done) | skip
  rename_i n p
  unfold tyOf at h
  dsimp only at h
  by_cases hb : (badName n || !isGl dc n) = true
  · rw [if_pos hb] at h
    cases h
  rw [if_neg hb] at h
  have hb := Bool.eq_false_iff.mpr hb
  rw [Bool.or_eq_false_iff, Bool.not_eq_false'] at hb
  have gl := x.gl hb.2
  have db := (badName_ok hb.1).1
  by_cases e1 : n = "str"
  · rw [if_pos e1] at h
    cases h
    subst e1
    exact ⟨.ty "str", .type "str", pe_bltn gl (mg _ (by decide)) (by decide +kernel) rfl (by decide) db, .ty _, rfl, rfl⟩
  rw [if_neg e1] at h
  by_cases e1 : n = "int"
  · rw [if_pos e1] at h
    cases h
    subst e1
    exact ⟨.ty "int", .type "int", pe_bltn gl (mg _ (by decide)) (by decide +kernel) rfl (by decide) db, .ty _, rfl, rfl⟩
  rw [if_neg e1] at h
  by_cases e1 : n = "bool"
  · rw [if_pos e1] at h
    cases h
    subst e1
    exact ⟨.ty "bool", .type "bool", pe_bltn gl (mg _ (by decide)) (by decide +kernel) rfl (by decide) db, .ty _, rfl, rfl⟩
  rw [if_neg e1] at h
  by_cases e1 : n = "tuple"
  · rw [if_pos e1] at h
    cases h
    subst e1
    exact ⟨.ty "tuple", .type "tuple", pe_bltn gl (mg _ (by decide)) (by decide +kernel) rfl (by decide) db, .ty _, rfl, rfl⟩
  rw [if_neg e1] at h
  by_cases e1 : n = "list"
  · rw [if_pos e1] at h
    cases h
    subst e1
    exact ⟨.ty "list", .type "list", pe_bltn gl (mg _ (by decide)) (by decide +kernel) rfl (by decide) db, .ty _, rfl, rfl⟩
  rw [if_neg e1] at h
  by_cases e1 : n = "dict"
  · rw [if_pos e1] at h
    cases h
    subst e1
    exact ⟨.ty "dict", .type "dict", pe_bltn gl (mg _ (by decide)) (by decide +kernel) rfl (by decide) db, .ty _, rfl, rfl⟩
  rw [if_neg e1] at h
  obtain ⟨c, hc, rfl⟩ := Option.map_eq_some_iff.mp h
  obtain ⟨C, h1, h2⟩ := x.mod.cls _ _ hc
  refine ⟨.ref C, .ref C, pe_glob gl h2 rfl db, .own C, ?_, rfl⟩
  show (G.clA c).map Value.ref = _
  rw [h1]
  rfl
theorem tys_ok (x : XOk X G ci pg lv k dc Wx) : ∀ {es : List Expr} {ts : List Ty}, tysOf ci dc es = some ts → ∃ tvs tus, PA X es (fun _ H Q => Q tvs H) ∧ Paired ClsV tvs tus ∧ ts.map (tyU G) = tus.map some ∧ tvs.length = es.length
  | [], ts, h => by
    cases h
    exact ⟨[], [], pa_nil, .nil, rfl, rfl⟩
  | e :: es, ts, h => by
    unfold tysOf at h
    split at h
    · rename_i t ts' h1 h2
      cases h
      obtain ⟨tv, tu, a1, a2, a3, a4⟩ := ty_ok x h1
      obtain ⟨tvs, tus, b1, b2, b3, b4⟩ := tys_ok x h2
      refine ⟨tv :: tvs, tu :: tus, pa_cons a1 b1 (star_of a4 es X.env), .cons a2 b2, ?_, congrArg (· + 1) b4⟩
      rw [List.map_cons, List.map_cons, a3, b3]
    · cases h
end
end Vi
set_option Elab.async false
set_option linter.all false
set_option maxRecDepth 100000
set_option maxHeartbeats 4000000
/-! Vi29: lambdas of the table; keywords' names. -/
namespace Vi
open PySem PySem.Spec PyProof.Rows L2

theorem isEmpty_nil {α : Type} : ∀ {l : List α}, l.isEmpty = true → l = []
  | [], _ => rfl
  | _ :: _, h => by cases h
theorem isNone_none {α : Type} : ∀ {o : Option α}, o.isNone = true → o = none
  | none, _ => rfl
  | some _, h => by cases h
theorem eqArgs_ok {a b : Arguments} (h : eqArgs a b = true) : a = b ∧ b = ⟨[], [], none, [], [], none, []⟩ := by
  obtain ⟨a1, a2, a3, a4, a5, a6, a7⟩ := a
  obtain ⟨b1, b2, b3, b4, b5, b6, b7⟩ := b
  unfold eqArgs at h
  simp only [Bool.and_eq_true] at h
  obtain ⟨⟨⟨⟨⟨⟨⟨⟨⟨⟨⟨⟨⟨h1, h2⟩, h3⟩, h4⟩, h5⟩, h6⟩, h7⟩, h8⟩, h9⟩, h10⟩, h11⟩, h12⟩, h13⟩, h14⟩ := h
  have q1 := isEmpty_nil h1; have q2 := isEmpty_nil h2; have q3 := isNone_none h3; have q4 := isNone_none h4; have q5 := isEmpty_nil h5; have q6 := isEmpty_nil h6; have q7 := isEmpty_nil h7
  have q8 := isEmpty_nil h8; have q9 := isNone_none h9; have q10 := isNone_none h10; have q11 := isEmpty_nil h11; have q12 := isEmpty_nil h12; have q13 := isEmpty_nil h13; have q14 := isEmpty_nil h14
  subst q1 q2 q3 q4 q5 q6 q7 q8 q9 q10 q11 q12 q13 q14
  exact ⟨rfl, rfl⟩
section
variable {X : Cx} {G : GI} {ci : CI} {pg : Pg} {lv k : Nat} {dc : DC} {Wx : WX}
theorem lam_ok (x : XOk X G ci pg lv k dc Wx) {j : Nat} {cap : List Nat} {pa : Arguments} {b : Expr} {sc : Scope} (h : lamOk ci dc j cap pa b sc = true) : LamIn X G j cap pa b sc := by
  unfold lamOk at h
  split at h
  · rename_i L eL
    simp only [Bool.and_eq_true, decide_eq_true_eq] at h
    obtain ⟨⟨⟨⟨h1, h2, hlm⟩, h3⟩, h4⟩, h5⟩ := h
    unfold isLam at h1
    rw [eL] at h1
    simp only [Bool.and_eq_true, decide_eq_true_eq] at h1
    obtain ⟨⟨g1, g2⟩, g3⟩ := h1
    obtain ⟨e1, e2⟩ := eqArgs_ok g1
    have len : L.cap.length = cap.length := by
      have z := congrArg List.length h3
      simpa using z
    have frees : ∀ y ∈ sc.names, y.2 = .free → dc.sc.names.lookup y.1 = some .cell ∨ dc.sc.names.lookup y.1 = some .free := fun y hy ey => by
      have z := List.all_eq_true.mp h5 y hy
      simp only [Bool.or_eq_true, decide_eq_true_eq] at z
      rcases z with (z | z) | z
      · exact absurd ey z
      · exact .inl z
      · exact .inr z
    refine ⟨⟨L, by rw [x.mod.lam]; exact eL, e1, eqE_ok _ _ _ g2, g3, len, fun i y hy => ?_⟩, by rw [e2]; rfl, fun y hy ey => by rw [x.sc]; exact frees y hy ey, fun y _ _ => x.fn h2 y.1, x.lamc hlm⟩
    have z : (L.cap.map (slot dc.N))[i]? = (cap.map some)[i]? := by rw [h3]
    rw [List.getElem?_map, List.getElem?_map, hy] at z
    cases q : cap[i]? with
    | none =>
      rw [q] at z
      cases z
    | some n =>
      rw [q] at z
      have z2 : slot dc.N y = some n := Option.some.inj z
      have w := List.all_eq_true.mp h4 y (List.mem_of_getElem? hy)
      simp only [Bool.and_eq_true, Bool.or_eq_true, decide_eq_true_eq] at w
      exact ⟨n, rfl, by rw [x.N]; exact slot_ok z2, by rw [x.sc]; exact w.1, w.2⟩
  · cases h
theorem kwN_ok : ∀ {kws : List Keyword} {ks : List Str}, kwN kws = some ks → kws.map (·.arg) = ks.map some ∧ kws.length = ks.length
  | [], _, h => by cases h; exact ⟨rfl, rfl⟩
  | kw :: r, ks, h => by
    unfold kwN at h
    split at h
    · rename_i y l h1 h2
      cases h
      obtain ⟨a, b⟩ := kwN_ok h2
      exact ⟨by rw [List.map_cons, List.map_cons, a, h1], congrArg (· + 1) b⟩
    · cases h
end
end Vi
namespace Vi
open PySem PySem.Spec PyProof.Rows L2
section
variable {X : Cx} {G : GI} {ci : CI} {pg : Pg} {lv k : Nat} {dc : DC} {Wx : WX}
theorem blk_ok (x : XOk X G ci pg lv k dc Wx) {scope : Scope} {own : List (Str × Nat)} (h : blkC dc.N dc.sc scope own = true) (s : Shared) (H : Hp) (C : Addr) (cl : List (Str × Addr)) (fp : List Addr) :
    XOk (X.blk s H scope (compEnvC scope cl C X.env) fp) G ci pg lv k ⟨dc.N, L2.relS scope dc.sc, false, false⟩ noX :=
  ⟨x.K, x.N, x.nd, by rw [← x.sc]; rfl, (blkOk_by h).kind, fun z => absurd (show false = true from z) (by decide), x.calm, x.gd, x.room, LamX.takes0, fun z => absurd (show false = true from z) (by decide), x.mod, fun z => absurd (show false = true from z) (by decide)⟩
end
end Vi
set_option Elab.async false
set_option linter.all false
set_option maxRecDepth 100000
set_option maxHeartbeats 4000000
/-! Vi30: the compiler is right: targets, what a level of fuel tells. -/
namespace Vi
open PySem PySem.Spec PyProof.Rows L2

theorem PTs.imp' {X : Cx} {ifs : List Expr} {t t' : TT} (h : PTs X ifs t) (f : ∀ σ H Q, t' σ H Q → t σ H Q) : PTs X ifs t' := ⟨fun pins s σ H Q I q => h.run pins s σ H Q I (f σ H Q q)⟩
theorem ite_ind {α : Type} {p : Prop} [Decidable p] {P : α → Prop} {a b : α} (h1 : p → P a) (h2 : ¬p → P b) : P (if p then a else b) := by
  by_cases h : p
  · rw [if_pos h]; exact h1 h
  · rw [if_neg h]; exact h2 h
section
variable {X : Cx} {G : GI} {ci : CI} {pg : Pg} {lv k : Nat} {dc : DC} {Wx : WX}
theorem loc_of (x : XOk X G ci pg lv k dc Wx) {n : Str} (h : (if dc.all then decide (dc.sc.names.lookup n = some .local) || decide (dc.sc.names.lookup n = some .cell) else decide (dc.sc.names.lookup n = some .local)) = true) :
    Loc X.env.scope n ∧ (X.fn n = true ∨ X.env.scope.names.lookup n = some .local) := by
  rw [x.sc]
  by_cases ha : dc.all = true
  · rw [if_pos ha, Bool.or_eq_true, decide_eq_true_eq, decide_eq_true_eq] at h
    exact ⟨h, .inl (x.fn ha n)⟩
  · rw [if_neg ha, decide_eq_true_eq] at h
    exact ⟨.inl h, .inr h⟩
theorem tgs_ok {is : List Nat} {j : Nat} (h : ∀ e, PG X e (rdG G is (cTg dc is j e))) : ∀ {es : List Expr}, es.all noStar = true → PGs X es (rdGs G is (es.foldr (fun e r => dgCons (cTg dc is j e) r) dgNil))
  | [], _ => vgs_nil
  | e :: es, hs => by
    rw [List.all_cons, Bool.and_eq_true] at hs
    exact vgs_cons (h e) (tgs_ok h hs.2) hs.1
theorem tg_ok (x : XOk X G ci pg lv k dc Wx) {is : List Nat} : ∀ (j : Nat) (e : Expr), PG X e (rdG G is (cTg dc is j e))
  | 0, e => vg_bad
  | j + 1, e => by
    unfold cTg
    split
    · exact vg_bad
    · split
      · rename_i i hi
        refine ite_ind (P := fun g => PG X _ (rdG G is g)) (fun hc => ?_) fun _ => vg_bad
        rw [Bool.and_eq_true] at hc
        obtain ⟨l1, l2⟩ := loc_of x hc.2
        exact vg_name x.nd (by rw [x.N]; exact slot_ok hi) l1 l2 (by simpa using hc.1)
      · exact vg_bad
    · split
      · rename_i hs
        rename_i j' _ _ _ _
        exact vg_tup x.K x.calm (tgs_ok (tg_ok x _) hs) rfl hs
      · exact vg_bad
    · exact vg_bad
end
structure Snd (ci : CI) (n : Nat) : Prop where
  E : ∀ {X : Cx} {G : GI} {pg : Pg} {lv k : Nat} {dc : DC} {Wx : WX}, XOk X G ci pg lv k dc Wx → ∀ e, PE X e (rdE G (ctAt pg k) Wx (cE ci n dc e))
  C : ∀ {X : Cx} {G : GI} {pg : Pg} {lv k : Nat} {dc : DC} {Wx : WX}, XOk X G ci pg lv k dc Wx → ∀ a op b pos, PE X (.Compare a [op] [b] pos) (rdE G (ctAt pg k) Wx (cC ci n dc a op b))
  A : ∀ {X : Cx} {G : GI} {pg : Pg} {lv k : Nat} {dc : DC} {Wx : WX}, XOk X G ci pg lv k dc Wx → ∀ es, PA X es (rdA G (ctAt pg k) Wx (cA ci n dc es))
  Kw : ∀ {X : Cx} {G : GI} {pg : Pg} {lv k : Nat} {dc : DC} {Wx : WX}, XOk X G ci pg lv k dc Wx → ∀ es, PK X es (rdA G (ctAt pg k) Wx (cK ci n dc es))
  V : ∀ {X : Cx} {G : GI} {pg : Pg} {lv k : Nat} {dc : DC} {Wx : WX}, XOk X G ci pg lv k dc Wx → ∀ op es pos, PE X (.BoolOp op es pos) (rdE G (ctAt pg k) Wx (cV ci n dc op es))
  T : ∀ {X : Cx} {G : GI} {pg : Pg} {lv k : Nat} {dc : DC} {Wx : WX}, XOk X G ci pg lv k dc Wx → ∀ e, PT X e (rdT G (ctAt pg k) Wx (cT ci n dc e))
  W : ∀ {X : Cx} {G : GI} {pg : Pg} {lv k : Nat} {dc : DC} {Wx : WX}, XOk X G ci pg lv k dc Wx → ∀ op es pos, PW X (.BoolOp op es pos) (rdT G (ctAt pg k) Wx (cW ci n dc op es))
  F : ∀ {X : Cx} {G : GI} {pg : Pg} {lv k : Nat} {dc : DC} {Wx : WX}, XOk X G ci pg lv k dc Wx → ∀ es, PTs X es (rdT G (ctAt pg k) Wx (cIfs ci n dc es))
  I : ∀ {X : Cx} {G : GI} {pg : Pg} {lv k : Nat} {dc : DC} {Wx : WX}, XOk X G ci pg lv k dc Wx → ∀ tg e, PI X tg e (rdI G (ctAt pg k) Wx (cI ci n dc tg e))
theorem pts_bad {X : Cx} {G : GI} {c : Ct} {Wx : WX} {es : List Expr} : PTs X es (rdT G c Wx tBad) := ⟨fun _ _ _ _ _ _ ⟨gh, as, env, st, R, E, h⟩ => h.elim⟩
theorem cA_len {ci : CI} {dc : DC} : ∀ (n : Nat) (es : List Expr), DaLen (cA ci n dc es) es.length
  | 0, es => by unfold cA; exact fun c env s l s' h => by cases h
  | n + 1, [] => by unfold cA; exact len_nil
  | n + 1, e :: es => by
    unfold cA
    split
    · exact len_cons (cA_len n es)
    · exact fun c env s l s' h => by cases h
theorem cK_len {ci : CI} {dc : DC} : ∀ (n : Nat) (es : List Keyword), DaLen (cK ci n dc es) es.length
  | 0, es => by unfold cK; exact fun c env s l s' h => by cases h
  | n + 1, [] => by unfold cK; exact len_nil
  | n + 1, ⟨_, e, _⟩ :: es => by
    unfold cK
    exact len_cons (cK_len n es)
/-- no level: nothing is told -/
theorem snd0 (ci : CI) : Snd ci 0 where
  E _ e := by unfold cE; exact ve_bad
  C _ a op b pos := by unfold cC; exact ve_bad
  A _ es := by unfold cA; exact va_bad
  Kw _ es := by unfold cK; exact vk_bad
  V _ op es pos := by unfold cV; exact ve_bad
  T _ e := by unfold cT; exact vt_bad
  W _ op es pos := by unfold cW; exact vw_bad
  F _ es := by unfold cIfs; exact pts_bad
  I _ tg e := by unfold cI; exact vi_bad
section
variable {ci : CI} {n : Nat} {X : Cx} {G : GI} {pg : Pg} {lv k : Nat} {dc : DC} {Wx : WX}
theorem sndA (S : Snd ci n) (x : XOk X G ci pg lv k dc Wx) : ∀ es, PA X es (rdA G (ctAt pg k) Wx (cA ci (n + 1) dc es))
  | [] => by unfold cA; exact va_nil
  | e :: es => by
    unfold cA
    split
    · rename_i hs
      exact va_cons (S.E x e) (S.A x es) hs
    · exact va_bad
theorem sndK (S : Snd ci n) (x : XOk X G ci pg lv k dc Wx) : ∀ es, PK X es (rdA G (ctAt pg k) Wx (cK ci (n + 1) dc es))
  | [] => by unfold cK; exact vk_nil
  | ⟨a, e, p⟩ :: es => by
    unfold cK
    exact vk_cons (S.E x e) (S.Kw x es)
theorem sndV (S : Snd ci n) (x : XOk X G ci pg lv k dc Wx) (op : BoolOp) (es : List Expr) (pos : Pos) : PE X (.BoolOp op es pos) (rdE G (ctAt pg k) Wx (cV ci (n + 1) dc op es)) := by
  cases es with
  | nil => cases op <;> (unfold cV; exact ve_bad)
  | cons e es =>
    cases es with
    | nil => cases op <;> (unfold cV; exact ve_one (S.E x e))
    | cons e2 es =>
      cases op
      · unfold cV
        exact ve_and (S.E x e) (S.V x _ _ _)
      · unfold cV
        exact ve_or (S.E x e) (S.V x _ _ _)
theorem sndW (S : Snd ci n) (x : XOk X G ci pg lv k dc Wx) (op : BoolOp) (es : List Expr) (pos : Pos) : PW X (.BoolOp op es pos) (rdT G (ctAt pg k) Wx (cW ci (n + 1) dc op es)) := by
  cases es with
  | nil => cases op <;> (unfold cW; exact vw_bad)
  | cons e es =>
    cases es with
    | nil =>
      cases op
      · unfold cW
        exact vw_and1 (S.T x e)
      · unfold cW
        exact vw_or1 (S.T x e)
    | cons e2 es =>
      cases op
      · unfold cW
        exact vw_and (S.T x e) (S.W x _ _ _)
      · unfold cW
        exact vw_or (S.T x e) (S.W x _ _ _)
theorem sndF (S : Snd ci n) (x : XOk X G ci pg lv k dc Wx) : ∀ es, PTs X es (rdT G (ctAt pg k) Wx (cIfs ci (n + 1) dc es))
  | [] => by
    unfold cIfs
    exact PTs.imp' pts_nil fun σ H Q ⟨gh, as, env, s, R, E, h⟩ => h as H (Ext.refl _ _) R
  | [e] => by unfold cIfs; exact pts_one (S.T x e)
  | _ :: _ :: _ => by unfold cIfs; exact pts_bad
theorem isNone_ok {b : Expr} (h : isNone b = true) : ∃ j p, b = .Constant .none j p := by
  cases b <;> first | (cases h; done) | skip
  rename_i v j p
  cases v <;> first | (cases h; done) | exact ⟨_, _, rfl⟩
theorem isRepr_ok {e a : Expr} (h : isRepr e = some a) : ∃ p q, e = .Call (.Name "repr" p) [a] [] q := by
  unfold isRepr at h
  split at h
  · split at h
    · rename_i hx
      cases h
      rw [hx]
      exact ⟨_, _, rfl⟩
    · cases h
  · cases h
theorem sndC (S : Snd ci n) (x : XOk X G ci pg lv k dc Wx) (a : Expr) (op : CmpOp) (b : Expr) (pos : Pos) : PE X (.Compare a [op] [b] pos) (rdE G (ctAt pg k) Wx (cC ci (n + 1) dc a op b)) := by
  unfold cC
  split
  · rename_i h
    rw [Bool.and_eq_true, decide_eq_true_eq] at h
    obtain ⟨j, p, rfl⟩ := isNone_ok h.1
    rw [h.2]
    exact ve_isN (S.E x a)
  · split
    · rename_i h
      rw [Bool.and_eq_true, decide_eq_true_eq] at h
      obtain ⟨j, p, rfl⟩ := isNone_ok h.1
      rw [h.2]
      exact ve_notN (S.E x a)
    · split
      · rename_i a' b' ea eb
        split
        · rename_i h
          simp only [Bool.and_eq_true, decide_eq_true_eq] at h
          obtain ⟨⟨⟨h1, h2⟩, h3⟩, h4⟩ := h
          obtain ⟨p, q, rfl⟩ := isRepr_ok ea
          obtain ⟨p2, q2, rfl⟩ := isRepr_ok eb
          rw [h2]
          exact ve_repEq x.gd x.units x.K (S.E x a') (S.E x b') (x.gl h1) (x.mod.blt _ (by decide)) h3 h4
        · exact ve_bad
      · split
        · rename_i f hf
          split
          · exact ve_bad
          · rename_i hm
            obtain ⟨r, h1, h2⟩ := cmp_of x.K x.units hf
            exact ve_cmp h1 h2 (S.E x a) (S.E x b) (Bool.eq_false_iff.mpr hm)
        · exact ve_bad
theorem sndT (S : Snd ci n) (x : XOk X G ci pg lv k dc Wx) (e : Expr) : PT X e (rdT G (ctAt pg k) Wx (cT ci (n + 1) dc e)) := by
  unfold cT
  split
  · rename_i h; cases h
  · rename_i h
    cases h
    exact vt_not (S.T x _)
  · rename_i h
    cases h
    exact (S.W x _ _ _).pt
  · exact vt_bad
  · rename_i a op b pos hn
    cases hn
    split
    · rename_i h
      rw [Bool.and_eq_true, decide_eq_true_eq] at h
      obtain ⟨j, p, rfl⟩ := isNone_ok h.1
      rw [h.2]
      exact vt_isN (S.E x a)
    · split
      · rename_i h
        rw [Bool.and_eq_true, decide_eq_true_eq] at h
        obtain ⟨j, p, rfl⟩ := isNone_ok h.1
        rw [h.2]
        exact vt_notN (S.E x a)
      · split
        · rename_i f hf
          split
          · exact vt_bad
          · rename_i hm
            obtain ⟨r, h1, h2⟩ := cmp_of x.K x.units hf
            exact vt_cmp h1 h2 (S.E x a) (S.E x b) (Bool.eq_false_iff.mpr hm)
        · exact vt_bad
  · rename_i a o1 o2 b d pos hn
    cases hn
    split
    · rename_i f g hf hg
      split
      · exact vt_bad
      · rename_i hm
        obtain ⟨r, h1, h2⟩ := cmp_of x.K x.units hf
        obtain ⟨r', h3, h4⟩ := cmp_of x.K x.units hg
        exact vt_chain h1 h2 h3 h4 (S.E x a) (S.E x b) (S.E x d) (Bool.eq_false_iff.mpr hm)
    · exact vt_bad
  · exact vt_bad
  · rename_i hq h1 h2 h3 h3' h3'' h4
    cases hq
    refine vt_val (S.E x _) ?_
    unfold plainT
    split
    · exact (h1 _ _ rfl).elim
    · exact (h2 _ _ _ rfl).elim
    · exact (h3 _ _ _ _ rfl).elim
    · exact (h4 _ _ _ _ rfl).elim
    · rfl
end
end Vi
set_option Elab.async false
set_option linter.all false
set_option maxRecDepth 100000
set_option maxHeartbeats 4000000
/-! Vi31: the compiler is right: what a for walks, expressions. -/
namespace Vi
open PySem PySem.Spec PyProof.Rows L2

theorem isTup_ok {e : Expr} (h : isTupE e = true) : ∃ es k p, e = .Tuple es k p := by
  cases e <;> first | (cases h; done) | exact ⟨_, _, _, rfl⟩
theorem allSome_ok : ∀ {keys : List (Option Expr)} {ks : List Expr}, allSome keys = some ks → keys = ks.map some
  | [], _, h => by cases h; rfl
  | some e :: r, ks, h => by
    unfold allSome at h
    obtain ⟨l, h1, rfl⟩ := Option.map_eq_some_iff.mp h
    rw [allSome_ok h1]
    rfl
  | none :: _, _, h => by cases h
theorem folded_ok {e : Expr} (h : notSet e = true) (env : PySem.Env) (x : Value) : foldedSetIterable e env x = pure x := by
  cases e <;> first | rfl | cases h
section
variable {ci : CI} {n : Nat} {X : Cx} {G : GI} {pg : Pg} {lv k : Nat} {dc : DC} {Wx : WX}
theorem sndI (S : Snd ci n) (x : XOk X G ci pg lv k dc Wx) (tg e : Expr) : PI X tg e (rdI G (ctAt pg k) Wx (cI ci (n + 1) dc tg e)) := by
  have pl : ∀ e', PI X tg e' (rdI G (ctAt pg k) Wx (diE (cE ci n dc e'))) := fun e' => vi_e x.K (S.E x e')
  unfold cI
  split
  · rename_i y p a pos
    refine ite_ind (P := fun d => PI X tg _ (rdI G (ctAt pg k) Wx d)) (fun h => ?_) fun _ => ?_
    · rw [Bool.and_eq_true, Bool.and_eq_true, decide_eq_true_eq] at h
      obtain ⟨⟨h1, rfl⟩, _⟩ := h
      refine ite_ind (P := fun d => PI X tg _ (rdI G (ctAt pg k) Wx d)) (fun h => ?_) fun _ => vi_bad
      exact vi_range (x.gl h1) (x.mod.blt _ (by decide)) (S.E x a) h
    · split
      · rename_i z p2 b pos2
        refine ite_ind (P := fun d => PI X tg _ (rdI G (ctAt pg k) Wx d)) (fun h => ?_) fun _ => pl _
        simp only [Bool.and_eq_true, decide_eq_true_eq] at h
        obtain ⟨⟨⟨⟨⟨⟨h0, h1⟩, h2⟩, h3⟩, h4⟩, h5⟩, _⟩ := h
        obtain ⟨es, kk, pp, rfl⟩ := isTup_ok h0
        subst h2
        subst h4
        exact vi_er x.K (x.gl h1) (x.mod.blt _ (by decide)) (x.gl h3) (x.mod.blt _ (by decide)) (S.E x b) h5
      · exact pl _
  · exact pl _
theorem pps_ok (S : Snd ci n) (x : XOk X G ci pg lv k dc Wx) {pos : Pos} : ∀ {ks vs : List Expr}, ks.length = vs.length →
    PPs X pos (ks.map some) vs (((ks.zip vs).map fun p => (cE ci n dc p.1, cE ci n dc p.2)).map fun p => (rdE G (ctAt pg k) Wx p.1, rdE G (ctAt pg k) Wx p.2))
  | [], [], _ => pps_nil
  | [], _ :: _, h => by cases h
  | _ :: _, [], h => by cases h
  | a :: ks, b :: vs, h => pps_cons (S.E x a) (S.E x b) (pps_ok S x (Nat.succ.inj h))
/-- a call of a def -/
theorem call_ok (S : Snd ci n) (x : XOk X G ci pg lv k dc Wx) {nm : Str} {p pos : Pos} {args : List Expr} {kws : List Keyword} {g : Nat} {ks : List Str} {pick : List (Nat ⊕ W)} (hb : badName nm = false) (hg : isGl dc nm = true) (hd : ci.defs.lookup nm = some g)
    (hs : args.all noStar = true) (hk : kwN kws = some ks) (hp : ci.binds g args.length ks = some pick) : PE X (.Call (.Name nm p) args kws pos) (rdE G (ctAt pg k) Wx (match (generalizing := false) args, kws with
      | args, [] => dCall g pick (cA ci n dc args)
      | [], kws => dCall g pick (cK ci n dc kws)
      | args, kws => dCall g pick (daApp (cA ci n dc args) (cK ci n dc kws)))) := by
  obtain ⟨f, fd, ps, hm, hkeep, F, B⟩ := x.mod.defs _ _ hd
  have hB := B _ _ _ hp
  have db := (badName_ok hb).1
  obtain ⟨k1, k2⟩ := kwN_ok hk
  cases kws with
  | nil =>
    cases hk
    cases args with
    | nil =>
      cases n with
      | zero =>
        show PE X _ (rdE G (ctAt pg k) Wx (dCall g pick (cA ci 0 dc [])))
        refine ⟨fun pins s σ H Q I ⟨gh, as, env, st, R, E, h⟩ => ?_⟩
        unfold cA at h
        exact h.elim
      | succ n =>
        show PE X _ (rdE G (ctAt pg k) Wx (dCall g pick (cA ci (n + 1) dc [])))
        unfold cA
        exact ve_call0 F x.room x.gd x.tk hB (x.gl hg) hm hkeep db
    | cons a as => exact ve_call F x.room x.gd x.tk hB (x.gl hg) hm hkeep (S.A x _) (cA_len n _) hs db
  | cons kw kws =>
    have hl := cK_len (ci := ci) (dc := dc) n (kw :: kws)
    rw [k2] at hl
    cases args with
    | nil => exact ve_callK0 F x.room x.gd x.tk hB (x.gl hg) hm hkeep (S.Kw x _) hl k1 db
    | cons a as => exact ve_callK F x.room x.gd x.tk hB (x.gl hg) hm hkeep (S.A x _) (cA_len n _) (S.Kw x _) hl k1 hs db
theorem isi_ok (S : Snd ci n) (x : XOk X G ci pg lv k dc Wx) {a b : Expr} {p pos : Pos} (hg : isGl dc "isinstance" = true) (hs : noStar a = true) (hs2 : noStar b = true) : PE X (.Call (.Name "isinstance" p) [a, b] [] pos) (rdE G (ctAt pg k) Wx (match (generalizing := false) b with
    | .Tuple Ts _ _ => if 30 < Ts.length then dBad else (match tysOf ci dc Ts with
      | some ts => dIsi (cE ci n dc a) ts
      | none => dBad)
    | T => (match tyOf ci dc T with
      | some t => dIsi (cE ci n dc a) [t]
      | none => dBad))) := by
  split
  · rename_i Ts _ _
    refine ite_ind (P := fun d => PE X _ (rdE G (ctAt pg k) Wx d)) (fun _ => ve_bad) fun hl => ?_
    split
    · rename_i ts ht
      obtain ⟨tvs, tus, h1, h2, h3, h4⟩ := tys_ok x ht
      exact ve_isiT x.mod.kit x.K (S.E x a) h1 h2 h3 (by rw [h4]; have z : sizeMax = 16777216 := rfl; omega) (x.gl hg) (x.mod.blt _ (by decide)) hs
    · exact ve_bad
  · split
    · rename_i t ht
      obtain ⟨tv, tu, h1, h2, h3, h4⟩ := ty_ok x ht
      exact ve_isi x.mod.kit x.K (S.E x a) h1 h2 h3 (x.gl hg) (x.mod.blt _ (by decide)) hs hs2
    · exact ve_bad
end
end Vi
set_option Elab.async false
set_option linter.all false
set_option maxRecDepth 100000
set_option maxHeartbeats 4000000
/-! Vi32: the compiler is right: expressions, all together. -/
namespace Vi
open PySem PySem.Spec PyProof.Rows L2

theorem noSlice_of {e : Expr} (h : isSlice e = false) : noSlice e = true := by
  cases e <;> first | rfl | cases h
section
variable {ci : CI} {n : Nat} {X : Cx} {G : GI} {pg : Pg} {lv k : Nat} {dc : DC} {Wx : WX}
theorem blk_at (x : XOk X G ci pg lv k dc Wx) {scope : Scope} {own : List (Str × Nat)} (h : blkC dc.N dc.sc scope own = true) : BlkOk X.N X.env.scope scope own := by
  rw [x.N, x.sc]
  exact blkOk_by h
theorem sndE (S : Snd ci n) (x : XOk X G ci pg lv k dc Wx) (e : Expr) : PE X e (rdE G (ctAt pg k) Wx (cE ci (n + 1) dc e)) := by
  unfold cE
  split
  · rename_i h; cases h
  · exact name_ok x
  · exact ve_cconst
  · rename_i h
    cases h
    exact ve_tup (S.A x _)
  · rename_i h
    cases h
    split
    · exact ve_lstN (S.A x _)
    · exact ve_lst (S.A x _)
  · rename_i h
    cases h
    split
    · rename_i f hf
      obtain ⟨r, h1, h2⟩ := op_of x.K hf
      exact ve_op h1 h2 (S.E x _) (S.E x _)
    · exact ve_bad
  · rename_i h
    cases h
    exact ve_un un_neg (fun gh => o1_neg) (S.E x _)
  · rename_i h
    cases h
    exact ve_not (S.E x _)
  · rename_i h
    cases h
    exact S.V x _ _ _
  · rename_i h
    cases h
    exact ve_if (S.T x _) (S.E x _) (S.E x _)
  · rename_i h
    cases h
    exact S.C x _ _ _ _
  · rename_i h
    cases h
    split
    · rename_i f g hf hg
      split
      · exact ve_bad
      · rename_i hm
        obtain ⟨r, h1, h2⟩ := cmp_of x.K x.units hf
        obtain ⟨r', h3, h4⟩ := cmp_of x.K x.units hg
        exact ve_chain h1 h2 h3 h4 (S.E x _) (S.E x _) (S.E x _) (Bool.eq_false_iff.mpr hm)
    · exact ve_bad
  · rename_i lo hi _ _ h
    cases h
    refine ve_slice x.K (S.E x _) ?_ ?_
    · cases lo with
      | none => exact vo_none
      | some e => exact vo_some (S.E x _)
    · cases hi with
      | none => exact vo_none
      | some e => exact vo_some (S.E x _)
  · rename_i h
    cases h
    split
    · exact ve_bad
    · rename_i h
      exact ve_ix (by have := x.units; omega) x.K (S.E x _) (S.E x _) (noSlice_of (Bool.eq_false_iff.mpr h))
  · rename_i h
    cases h
    split
    · rename_i tab ht
      split
      · rename_i hr
        exact ve_fldX x.K hr (S.E x _) (x.mod.fld _ _ ht)
      · exact ve_bad
    · exact ve_bad
  · rename_i keys values pos h
    cases h
    split
    · split
      · exact ve_dict0
      · exact ve_bad
    · rename_i h0
      split
      · rename_i ks hk
        refine ite_ind (P := fun d => PE X _ (rdE G (ctAt pg k) Wx d)) (fun h => ?_) fun _ => ve_bad
        rw [Bool.and_eq_true, decide_eq_true_eq, decide_eq_true_eq] at h
        have e1 := allSome_ok hk
        subst e1
        refine ve_disp (pps_ok S x h.1) ?_ (by rw [List.length_map]; exact h.1) h0 h.2
        rw [List.all_map]
        exact List.all_eq_true.mpr fun _ _ => rfl
      · exact ve_bad
  · rename_i elt tg iter ifs scope pos h
    cases h
    refine ite_ind (P := fun d => PE X _ (rdE G (ctAt pg k) Wx d)) (fun h => ?_) fun _ => ve_bad
    rw [Bool.and_eq_true] at h
    have ok := blk_at x h.1
    split
    · exact ve_lcN x.calm x.nd (S.I x _ _) ok (fun s H C cl fp => tg_ok (blk_ok x h.1 s H C cl fp) _ _) (fun s H C cl fp => S.F (blk_ok x h.1 s H C cl fp) _) (fun s H C cl fp => S.E (blk_ok x h.1 s H C cl fp) _) fun v => folded_ok h.2 _ _
    · exact ve_lcF x.calm x.nd (S.I x _ _) ok (fun s H C cl fp => tg_ok (blk_ok x h.1 s H C cl fp) _ _) (fun s H C cl fp => S.F (blk_ok x h.1 s H C cl fp) _) (fun s H C cl fp => S.E (blk_ok x h.1 s H C cl fp) _) fun v => folded_ok h.2 _ _
  · rename_i o m apos args cpos h
    cases h
    refine ite_ind (P := fun d => PE X _ (rdE G (ctAt pg k) Wx d)) (fun h => ?_) fun _ => ve_bad
    rw [Bool.and_eq_true, Bool.and_eq_true] at h
    split
    · exact m0_ok x (S.E x _) h.1.1 h.2
    · refine m1_ok x (S.E x _) (S.E x _) h.1.1 ?_ h.2
      have z := h.1.2
      rw [List.all_cons, Bool.and_eq_true] at z
      exact z.1
    · exact ve_bad
  · rename_i nm p args kws pos h
    cases h
    split
    · exact ve_bad
    · rename_i hb
      have hb := Bool.eq_false_iff.mpr hb
      have bn := badName_ok hb
      split
      · rename_i hv
        split
        · rename_i i hi
          refine ite_ind (P := fun d => PE X _ (rdE G (ctAt pg k) Wx d)) (fun hs => ?_) fun _ => ve_bad
          have hN : X.N[i]? = some nm := by rw [x.N]; exact slot_ok hi
          cases args with
          | nil =>
            cases n with
            | zero =>
              refine ⟨fun pins s σ H Q I ⟨gh, as, env, st, R, E, h⟩ => ?_⟩
              unfold dCallV at h
              split at h
              · unfold cA at h
                exact h.elim
              · exact h.elim
            | succ n =>
              unfold cA
              exact ve_callV0 x.mod.lv x.room x.gd x.tk hN (x.vis hv) bn.1 bn.2
          | cons a as => exact ve_callV x.mod.lv x.room x.gd x.tk hN (x.vis hv) bn.1 bn.2 (S.A x _) hs
        · exact ve_bad
      · refine ite_ind (P := fun d => PE X _ (rdE G (ctAt pg k) Wx d)) (fun hg => ?_) fun _ => ve_bad
        split
        · rename_i g hd
          split
          · split
            · rename_i j cap pick e1 e2
              refine ite_ind (P := fun d => PE X _ (rdE G (ctAt pg k) Wx d)) (fun hl => ?_) fun _ => ve_bad
              obtain ⟨f, fd, ps, hm, hkeep, F, B⟩ := x.mod.defs _ _ hd
              exact ve_callLam F x.room x.gd x.tk (B _ _ _ e2) (x.gl hg) hm hkeep (lam_ok x hl) bn.1
            · exact ve_bad
          · refine ite_ind (P := fun d => PE X _ (rdE G (ctAt pg k) Wx d)) (fun hs => ?_) fun _ => ve_bad
            split
            · rename_i ks hk
              split
              · rename_i pick hp
                exact call_ok S x hb hg hd hs hk hp
              · exact ve_bad
            · exact ve_bad
        · split
          · refine ite_ind (P := fun d => PE X _ (rdE G (ctAt pg k) Wx d)) (fun hs => ?_) fun _ => ve_bad
            exact b1_ok x hg hb (S.E x _) hs
          · refine ite_ind (P := fun d => PE X _ (rdE G (ctAt pg k) Wx d)) (fun hs => ?_) fun _ => ve_bad
            rw [Bool.and_eq_true] at hs
            split
            · rename_i e1
              subst e1
              exact isi_ok S x hg hs.1 hs.2
            · exact b2_ok x hg (S.E x _) (S.E x _) hs.1 hs.2
          · exact ve_bad
  · exact ve_bad
end
theorem snd_ok (ci : CI) : ∀ n, Snd ci n
  | 0 => snd0 ci
  | n + 1 =>
    have S := snd_ok ci n
    ⟨fun x => sndE S x, fun x => sndC S x, fun x => sndA S x, fun x => sndK S x, fun x => sndV S x, fun x => sndT S x, fun x => sndW S x, fun x => sndF S x, fun x => sndI S x⟩
end Vi
set_option Elab.async false
set_option linter.all false
set_option maxRecDepth 100000
set_option maxHeartbeats 4000000
/-! Vi33: the compiler of statements. -/
namespace Vi
open PySem PySem.Spec PyProof.Rows L2

def cLc (ci : CI) (k : Nat) (dc : DC) (elt tg iter : Expr) (ifs : List Expr) (scope : Scope) (pos : Pos) : DE :=
  if blkC dc.N dc.sc scope (ownOf dc.N scope.names) && notSet iter then (if ci.isNew pos then dLcN else dLc) ((ownOf dc.N scope.names).map (·.2)) (cI ci k dc tg iter) (cTg ⟨dc.N, L2.relS scope dc.sc, false, false⟩ ((ownOf dc.N scope.names).map (·.2)) 3 tg) (cIfs ci k ⟨dc.N, L2.relS scope dc.sc, false, false⟩ ifs) (cE ci k ⟨dc.N, L2.relS scope dc.sc, false, false⟩ elt) else dBad
def trD (dc : DC) : DC := ⟨dc.N, dc.sc, false, false⟩
def cRaise (ci : CI) (k : Nat) (dc : DC) (x : Str) (es : List Expr) : DS :=
  match es with
  | [] => sBad
  | e :: es => if badName x || !isGl dc x || !(e :: es).all noStar then sBad else (match ci.exc0.lookup x with
    | some c => sRaise c [] (cA ci k dc (e :: es))
    | none => (match ci.exc1.lookup x with
      | some (c, b) => (match es with
        | [] => if b then sRaise c [.inr .non] (cA ci k dc [e]) else sBad
        | [e2] => sRaise c [.inl 1] (cA ci k dc [e, e2])
        | _ => sBad)
      | none => sBad))
def cTry (ci : CI) (k : Nat) (dc : DC) (act : Expr) (x n m ap n2 : Str) (mp2 mp3 : Pos) : DS :=
  if badName x || badName n || badName m || isComp act || !isGl dc x || !isVis dc m || !decide (ap = "append") || !decide (n2 = n) || !decide (dc.sc.names.lookup n = some .local) || !(mp2.endLine == mp3.line) then sBad else
    match ci.cls.lookup x, slot dc.N n, slot dc.N m with
    | some c, some i, some j => if decide (i ≠ j) && ci.caught.contains c then sTryApp c (cE ci k (trD dc) act) j i else sBad
    | _, _, _ => sBad
def cAsg (ci : CI) (k : Nat) (dc : DC) (tg e : Expr) (pos : Pos) : DS := match tg with
  | .Subscript o i p => if isComp e then sBad else sPutK (cE ci k dc e) (cE ci k dc o) (cE ci k dc i)
  | .Name y p => (match e with
    | .ListComp elt [⟨t, iter, ifs, 0⟩] scope lp => if swName dc.sc scope y p lp then (match slot dc.N y with
        | some i => if decide (dc.sc.names.lookup y = some .local) then sSet (cLc ci k dc elt t iter ifs scope lp) (dgName i) else sBad
        | none => sBad) else sSet (cE ci k dc e) (cTg dc (List.range dc.N.length) 3 tg)
    | e => if isComp e then sBad else sSet (cE ci k dc e) (cTg dc (List.range dc.N.length) 3 tg))
  | .Tuple ts _ _ => (match e with
    | .Tuple es _ _ => (match ts, es with
      | [.Name x px, .Name y py], [a, b] => (match slot dc.N x, slot dc.N y with
        | some i, some j => if par2 dc.sc x y px py a b && decide (i ≠ j) then sPar [i, j] (cA ci k dc [a, b]) else sBad
        | _, _ => sBad)
      | [.Name x px, .Name y py, .Name z pz], [a, b, d] => (match slot dc.N x, slot dc.N y, slot dc.N z with
        | some i, some j, some l => if par3 dc.sc x y z px py pz a b d && decide (i ≠ j) && decide (i ≠ l) && decide (j ≠ l) then sPar [i, j, l] (cA ci k dc [a, b, d]) else sBad
        | _, _, _ => sBad)
      | _, _ => sBad)
    | e => if isComp e then sBad else sSet (cE ci k dc e) (cTg dc (List.range dc.N.length) 3 tg))
  | _ => sBad
mutual
def cS (ci : CI) : Nat → DC → Stmt → DS
  | 0, _, _ => sBad
  | k + 1, _, .Pass _ => sPass
  | k + 1, _, .Break _ => sBrk
  | k + 1, _, .Continue _ => sCnt
  | k + 1, dc, .Expr e _ => if isComp e then sBad else sExpr (cE ci k dc e)
  | k + 1, dc, .Return (some e) _ => sRet (cE ci k dc e)
  | k + 1, _, .Return none _ => sRetN
  | k + 1, dc, .If t a b _ => sIf (cT ci k dc t) (cSs ci k dc a) (cSs ci k dc b)
  | k + 1, dc, .While t b [] _ => sWhile (cT ci k dc t) (cSs ci k dc b)
  | k + 1, dc, .For tg iter body [] _ => if notSet iter then sFor (cI ci k dc tg iter) (cTg dc (List.range dc.N.length) 3 tg) (cSs ci k dc body) else sBad
  | k + 1, dc, .Assign [tg] e pos => cAsg ci k dc tg e pos
  | k + 1, dc, .AugAssign (.Name x _) .Add e _ => (match slot dc.N x with
    | some i => if decide (dc.sc.names.lookup x = some .local) || decide (dc.sc.names.lookup x = some .cell) then sAug i opAddI (cE ci k dc e) else sBad
    | none => sBad)
  | k + 1, dc, .Raise (some (.Call (.Name x _) es [] _)) none _ => cRaise ci k dc x es
  | k + 1, dc, .Try [.Expr act _] [.ExceptHandler (some (.Name x _)) (some n) [.Expr (.Call (.Attribute (.Name m _) ap mp2) [.Name n2 _] [] mp3) _] _] [] [] _ => cTry ci k dc act x n m ap n2 mp2 mp3
  | _, _, _ => sBad
def cSs (ci : CI) : Nat → DC → List Stmt → DS
  | 0, _, _ => sBad
  | k + 1, _, [] => sPass
  | k + 1, dc, st :: r => sSeq (cS ci k dc st) (cSs ci k dc r)
end
/-- what is told of the module for statements -/
structure CSOk (P : Program) (w : World) (K : PySem.W.Frag) (mg : Str → Option Value) (base : Heap) (G : GI) (ci : CI) (pg : Pg) : Prop where
  exc0 : ∀ x k, ci.exc0.lookup x = some k → ∃ C B newId initId bmB, ExcBaseFacts B newId initId bmB ∧ PySem.W.excIn K C bmB newId = true ∧ mg x = some (.ref C) ∧ PySem.W.keepIn K (.ref C) = true ∧ PySem.W.subIn K (.ref C) (.type "BaseException") = some true ∧ PySem.W.typeIn K (.ref C) = some (.type "type") ∧ G.clA k = some C ∧ G.flds k = [] ∧ ExF G.K C
  exc1 : ∀ x k b, ci.exc1.lookup x = some (k, b) → ∃ C f fd fld ps0, OexC K C ∧ PySem.W.findIn K (.ref C) "__init__" = some (some (.ref f)) ∧ PySem.W.typeIn K (.ref f) = some (.type "function") ∧ FnOk P w K mg base (L2.CX P w) 1 f fd ps0 (spSup C fld) ∧ mg x = some (.ref C) ∧ G.clA k = some C ∧ G.flds k = [fld] ∧ ExF G.K C ∧ Binds K fd ps0 [] ∧ (b = true → Binds K fd ps0 [.none])
  exm : ∀ c ∈ ci.caught, ∀ D, G.clA c = some D → ∀ k C, G.clA k = some C → PySem.W.exmOne G.K (.ref C) (.ref D) = some (pg.sub k c)
/-- a def's body -/
structure SOk (X : Cx) (G : GI) (ci : CI) (pg : Pg) (lv k : Nat) (dc : DC) (Wx : WX) : Prop extends XOk X G ci pg lv k dc Wx where
  all : dc.all = true
  two : 2 ≤ lv
  ex : X.ex = []
  stack : X.stack = X.env :: X.outer
  frame : X.env.frame = some X.env.locals
  cs : CSOk X.prog X.w X.K X.mg X.base G ci pg
end Vi
set_option Elab.async false
set_option linter.all false
set_option maxRecDepth 100000
set_option maxHeartbeats 4000000
/-! Vi34: the compiler of statements is right. -/
namespace Vi
open PySem PySem.Spec PyProof.Rows L2

section
variable {ci : CI} {n : Nat} {X : Cx} {G : GI} {pg : Pg} {lv k : Nat} {dc : DC} {Wx : WX}
theorem SOk.loc (x : SOk X G ci pg lv k dc Wx) {n : Str} (h : dc.sc.names.lookup n = some .local) : X.env.scope.names.lookup n = some .local := by rw [x.sc]; exact h
theorem lc_ok (x : XOk X G ci pg lv k dc Wx) {elt tg iter : Expr} {ifs : List Expr} {scope : Scope} {pos spos : Pos} {y : Str} {py : Pos} {i : Nat} (hi : slot dc.N y = some i) (hl : dc.sc.names.lookup y = some .local) (hsw : swName dc.sc scope y py pos = true) :
    PS X (.Assign [.Name y py] (.ListComp elt [⟨tg, iter, ifs, 0⟩] scope pos) spos) (rdS G (ctAt pg k) Wx (sSet (cLc ci n dc elt tg iter ifs scope pos) (dgName i))) := by
  have hN : X.N[i]? = some y := by rw [x.N]; exact slot_ok hi
  have hL : X.env.scope.names.lookup y = some .local := by rw [x.sc]; exact hl
  have hs : swapsWith (.ListComp elt [⟨tg, iter, ifs, 0⟩] scope pos) (some (.Name y py)) spos.line X.env = pure true := by
    rw [sw_name x.sc x.kind, hsw]
  have S := snd_ok ci n
  unfold cLc
  refine ite_ind (P := fun d => PS X _ (rdS G (ctAt pg k) Wx (sSet d (dgName i)))) (fun h => ?_) fun _ => ?_
  · rw [Bool.and_eq_true] at h
    have ok := blk_at x h.1
    split
    · exact vs_lcN x.calm x.nd hN hL hs (S.I x _ _) ok (fun s H C cl fp => tg_ok (blk_ok x h.1 s H C cl fp) _ _) (fun s H C cl fp => S.F (blk_ok x h.1 s H C cl fp) _) (fun s H C cl fp => S.E (blk_ok x h.1 s H C cl fp) _) fun v => folded_ok h.2 _ _
    · exact vs_lcF x.calm x.nd hN hL hs (S.I x _ _) ok (fun s H C cl fp => tg_ok (blk_ok x h.1 s H C cl fp) _ _) (fun s H C cl fp => S.F (blk_ok x h.1 s H C cl fp) _) (fun s H C cl fp => S.E (blk_ok x h.1 s H C cl fp) _) fun v => folded_ok h.2 _ _
  · exact ⟨fun pins s σ H D I ⟨gh, as, env, st, R, E, h⟩ => h.elim⟩
theorem asg_ok (x : SOk X G ci pg lv k dc Wx) (tg e : Expr) (pos : Pos) : PS X (.Assign [tg] e pos) (rdS G (ctAt pg k) Wx (cAsg ci n dc tg e pos)) := by
  have S := snd_ok ci n
  have plain : ∀ {tg e : Expr}, isComp e = false → isTupE e = false ∨ isName tg = true → noStar tg = true → PS X (.Assign [tg] e pos) (rdS G (ctAt pg k) Wx (sSet (cE ci n dc e) (cTg dc (List.range dc.N.length) 3 tg))) := fun {tg e} h1 h2 h3 => by
    refine vs_asg (S.E x.toXOk e) (tg_ok x.toXOk 3 tg) (sole_plain h1 _ _ _) ?_ (by rw [each_of h3]; rfl)
    rcases h2 with h2 | h2
    · exact st_none h2 _
    · cases tg <;> first | (cases h2; done) | exact st_name _
  unfold cAsg
  split
  · refine ite_ind (P := fun d => PS X _ (rdS G (ctAt pg k) Wx d)) (fun _ => vs_bad) fun h => ?_
    exact vs_putK (by have := x.units; omega) (S.E x.toXOk _) (S.E x.toXOk _) (S.E x.toXOk _) (sw_plain (Bool.eq_false_iff.mpr h) _ _ _)
  · rename_i y p
    split
    · rename_i elt t iter ifs scope lp
      refine ite_ind (P := fun d => PS X _ (rdS G (ctAt pg k) Wx d)) (fun hsw => ?_) fun hsw => ?_
      · split
        · rename_i i hi
          refine ite_ind (P := fun d => PS X _ (rdS G (ctAt pg k) Wx d)) (fun hl => ?_) fun _ => vs_bad
          exact lc_ok x.toXOk hi (of_decide_eq_true hl) hsw
        · exact vs_bad
      · refine vs_asg (S.E x.toXOk _) (tg_ok x.toXOk 3 _) ?_ (st_name _) rfl
        show swapsWith (.ListComp elt [⟨t, iter, ifs, 0⟩] scope lp) (some (.Name y p)) pos.line X.env = _
        rw [sw_name x.sc x.kind, Bool.eq_false_iff.mpr hsw]
    · refine ite_ind (P := fun d => PS X _ (rdS G (ctAt pg k) Wx d)) (fun _ => vs_bad) fun h => ?_
      exact plain (Bool.eq_false_iff.mpr h) (.inr rfl) rfl
  · rename_i ts kt pt
    split
    · split
      · rename_i a1 px py a b
        split
        · rename_i i j hi hj
          refine ite_ind (P := fun d => PS X _ (rdS G (ctAt pg k) Wx d)) (fun h => ?_) fun _ => vs_bad
          rw [Bool.and_eq_true, decide_eq_true_eq] at h
          obtain ⟨l1, l2, l3⟩ := par2_ok h.1 x.kind x.sc
          exact vs_par x.calm x.nd (by rw [x.N]; exact slot_ok hi) (by rw [x.N]; exact slot_ok hj) h.2 (x.loc l1) (x.loc l2) (S.A x.toXOk _) l3 (sole_plain rfl _ _ _) rfl
        · exact vs_bad
      · split
        · rename_i i j l hi hj hl
          refine ite_ind (P := fun d => PS X _ (rdS G (ctAt pg k) Wx d)) (fun h => ?_) fun _ => vs_bad
          simp only [Bool.and_eq_true, decide_eq_true_eq] at h
          obtain ⟨⟨l1, l2, l3⟩, l4⟩ := par3_ok h.1.1.1 x.kind x.sc
          exact vs_par3 x.calm x.nd (by rw [x.N]; exact slot_ok hi) (by rw [x.N]; exact slot_ok hj) (by rw [x.N]; exact slot_ok hl) h.1.1.2 h.1.2 h.2 (x.loc l1) (x.loc l2) (x.loc l3) (S.A x.toXOk _) l4 (sole_plain rfl _ _ _)
        · exact vs_bad
      · exact vs_bad
    · rename_i hne
      refine ite_ind (P := fun d => PS X _ (rdS G (ctAt pg k) Wx d)) (fun _ => vs_bad) fun h => ?_
      refine plain (Bool.eq_false_iff.mpr h) (.inl ?_) rfl
      cases e <;> first | rfl | exact absurd rfl (hne _ _ _)
  · exact vs_bad
theorem raise_ok (x : SOk X G ci pg lv k dc Wx) (nm : Str) (es : List Expr) {p pos rpos : Pos} : PS X (.Raise (some (.Call (.Name nm p) es [] pos)) none rpos) (rdS G (ctAt pg k) Wx (cRaise ci n dc nm es)) := by
  have S := snd_ok ci n
  unfold cRaise
  split
  · exact vs_bad
  · rename_i e es
    refine ite_ind (P := fun d => PS X _ (rdS G (ctAt pg k) Wx d)) (fun _ => vs_bad) fun h => ?_
    have h := Bool.eq_false_iff.mpr h
    rw [Bool.or_eq_false_iff, Bool.or_eq_false_iff, Bool.not_eq_false', Bool.not_eq_false'] at h
    obtain ⟨⟨hb, hg⟩, hs⟩ := h
    have db := (badName_ok hb).1
    split
    · rename_i c hc
      obtain ⟨C, B, newId, initId, bmB, f1, f2, f3, f4, f5, f6, f7, f8, f9⟩ := x.cs.exc0 _ _ hc
      exact vs_raise0 x.calm x.tk f1 f2 f3 f4 (raises_own f5 f6) (x.gl hg) f7 f8 f9 (S.A x.toXOk _) hs db
    · split
      · rename_i c b hc
        obtain ⟨C, f, fd, fld, ps0, f1, f2, f3, f4, f5, f6, f7, f8, f9, f10⟩ := x.cs.exc1 _ _ _ hc
        have hr : Room (1 + 1) X.A := x.room.mono x.two
        split
        · refine ite_ind (P := fun d => PS X _ (rdS G (ctAt pg k) Wx d)) (fun hb => ?_) fun _ => vs_bad
          refine vs_raise1 (ds := [.none]) (dvs := [.non]) (n := 1) x.calm x.tk f1 f2 f3 f4 hr (f10 hb) (.cons rfl .nil) (x.gl hg) f5 f6 f7 f8 (S.A x.toXOk _) hs db (cA_len _ _) fun gh as H l vs m hl rl hm => ?_
          cases hm
          cases rl with
          | nil => cases hl
          | cons r1 r2 =>
            cases r2 with
            | nil => exact ⟨_, _, _, rfl, rfl, .d .non⟩
            | cons => cases hl
        · refine vs_raise1 (ds := []) (dvs := []) (n := 2) x.calm x.tk f1 f2 f3 f4 hr f9 .nil (x.gl hg) f5 f6 f7 f8 (S.A x.toXOk _) hs db (cA_len _ _) fun gh as H l vs m hl rl hm => ?_
          cases rl with
          | nil => cases hl
          | cons r1 r2 =>
            cases r2 with
            | nil => cases hl
            | cons r2 r3 =>
              cases r3 with
              | nil =>
                cases hm
                exact ⟨_, _, _, rfl, rfl, r2⟩
              | cons => cases hl
        · exact vs_bad
      · exact vs_bad
theorem tr_ok (x : SOk X G ci pg lv k dc Wx) {pn : List (Addr × Obj)} {xe : Value → Shared → Prop} {W0 : WX} (tk : Takes (X.tr pn xe) W0) : XOk (X.tr pn xe) G ci pg lv k (trD dc) W0 :=
  ⟨x.K, x.N, x.nd, x.sc, x.kind, fun z => absurd (show false = true from z) (by decide), x.calm, x.gd, x.room, tk, fun z => absurd (show false = true from z) (by decide), x.mod, fun z => absurd (show false = true from z) (by decide)⟩
theorem try_ok (x : SOk X G ci pg lv k dc Wx) (act : Expr) (nm nn m ap n2 : Str) {ap0 np mp mp2 np2 mp3 mp4 hpos pos : Pos} :
    PS X (.Try [.Expr act ap0] [.ExceptHandler (some (.Name nm np)) (some nn) [.Expr (.Call (.Attribute (.Name m mp) ap mp2) [.Name n2 np2] [] mp3) mp4] hpos] [] [] pos) (rdS G (ctAt pg k) Wx (cTry ci n dc act nm nn m ap n2 mp2 mp3)) := by
  have S := snd_ok ci n
  unfold cTry
  refine ite_ind (P := fun d => PS X _ (rdS G (ctAt pg k) Wx d)) (fun _ => vs_bad) fun h => ?_
  have h := Bool.eq_false_iff.mpr h
  simp only [Bool.or_eq_false_iff, Bool.not_eq_false', decide_eq_true_eq] at h
  obtain ⟨⟨⟨⟨⟨⟨⟨⟨⟨h1, h2⟩, h3⟩, h4⟩, h5⟩, h6⟩, h7⟩, h8⟩, h9⟩, h10⟩ := h
  subst h7
  subst h8
  split
  · rename_i c i j hc hi hj
    refine ite_ind (P := fun d => PS X _ (rdS G (ctAt pg k) Wx d)) (fun hq => ?_) fun _ => vs_bad
    rw [Bool.and_eq_true, decide_eq_true_eq, List.contains_iff_mem] at hq
    obtain ⟨D, d1, d2⟩ := x.mod.cls _ _ hc
    have hln : X.env.kindOf n2 = some .local := by
      show X.env.scope.names.lookup n2 = _
      rw [x.sc]
      exact h9
    refine vs_tryApp (Dc := D) hq.1 x.ex x.stack x.frame x.nd (by rw [x.N]; exact slot_ok hi) hln (by rw [x.N]; exact slot_ok hj) (x.vis h6) ⟨x.gl h5, (badName_ok h1).1, .inl d2⟩ x.tk x.K (fun k' C hC => x.cs.exm c hq.2 D d1 k' C hC) F.plainAttrs_list F.slot_list_append F.type_list_append (badName_ok h3) (badName_ok h2) h10 (fun W0 pn xe tk => S.E (tr_ok x tk) act) (sw_plain h4 _ _ _) (sw_plain rfl _ _ _)
  · exact vs_bad
end
end Vi
set_option Elab.async false
set_option linter.all false
set_option maxRecDepth 100000
set_option maxHeartbeats 4000000
/-! Vi35: the compiler of statements is right, all together; the module. -/
namespace Vi
open PySem PySem.Spec PyProof.Rows L2

section
variable {ci : CI} {X : Cx} {G : GI} {pg : Pg} {lv k : Nat} {dc : DC} {Wx : WX}
theorem st_ok (x : SOk X G ci pg lv k dc Wx) : ∀ n, (∀ st, PS X st (rdS G (ctAt pg k) Wx (cS ci n dc st))) ∧ ∀ ss, PSs X ss (rdS G (ctAt pg k) Wx (cSs ci n dc ss)) := by
  intro n
  induction n with
  | zero => exact ⟨fun st => by unfold cS; exact vs_bad, fun ss => by unfold cSs; exact vss_bad⟩
  | succ n ih =>
    have S := snd_ok ci n
    refine ⟨fun st => ?_, fun ss => ?_⟩
    · unfold cS
      split
      · rename_i h; cases h
      · exact vs_pass
      · exact vs_break
      · exact vs_continue
      · rename_i h
        cases h
        refine ite_ind (P := fun d => PS X _ (rdS G (ctAt pg k) Wx d)) (fun _ => vs_bad) fun h => ?_
        exact vs_expr (S.E x.toXOk _) (sw_plain (Bool.eq_false_iff.mpr h) _ _ _)
      · rename_i h
        cases h
        exact vs_ret (S.E x.toXOk _)
      · exact vs_retN
      · rename_i h
        cases h
        exact vs_if (S.T x.toXOk _) (ih.2 _) (ih.2 _)
      · rename_i h
        cases h
        exact vs_while (x.pass x.all) (S.T x.toXOk _) (ih.2 _)
      · rename_i h
        cases h
        refine ite_ind (P := fun d => PS X _ (rdS G (ctAt pg k) Wx d)) (fun h => ?_) fun _ => vs_bad
        exact vs_for (x.pass x.all) x.calm (S.I x.toXOk _ _) (tg_ok x.toXOk 3 _) (ih.2 _) fun v => folded_ok h _ _
      · rename_i h
        cases h
        exact asg_ok x _ _ _
      · rename_i h
        cases h
        split
        · rename_i i hi
          refine ite_ind (P := fun d => PS X _ (rdS G (ctAt pg k) Wx d)) (fun h => ?_) fun _ => vs_bad
          rw [Bool.or_eq_true, decide_eq_true_eq, decide_eq_true_eq] at h
          exact vs_aug x.nd (by rw [x.N]; exact slot_ok hi) (show _ ∨ _ by rw [x.sc]; exact h) (S.E x.toXOk _) (.inl (x.fn x.all _))
        · exact vs_bad
      · rename_i h
        cases h
        exact raise_ok x _ _
      · rename_i h
        cases h
        exact try_ok x _ _ _ _ _ _
      · exact vs_bad
    · unfold cSs
      split
      · rename_i h; cases h
      · exact vss_nil
      · rename_i h
        cases h
        exact vss_cons (ih.1 _) (ih.2 _)
end
end Vi
set_option Elab.async false
set_option linter.all false
set_option maxRecDepth 100000
set_option maxHeartbeats 4000000
/-! Vi36: the module: every def and every lambda, at every level. -/
namespace Vi
open PySem PySem.Spec PyProof.Rows L2

/-- a def of the text -/
structure DefT where
  name : Str
  qual : Str
  params : Arguments
  body : List Stmt
  scope : Scope
  ps : List Str
  N : List Str
  lm : Bool
  fz : Bool
def DefT.dc (d : DefT) : DC := ⟨d.N, d.scope, true, d.lm⟩
def DefT.fd (ci : CI) (d : DefT) : FD := ⟨d.ps.length, d.N.length, d.fz, cSs ci 60 d.dc d.body⟩
/-- a lambda of the text with its parameters -/
def ldOf (ci : CI) (q : LT × List Str) : LD := ⟨q.1.cap.length, q.2.length, cE ci 60 ⟨q.1.cap ++ q.2, q.1.scope, false, false⟩ q.1.body⟩
def pgOf (ci : CI) (dts : List DefT) (lts : List (LT × List Str)) (sub : Nat → Nat → Bool) (fuel : Nat) : Pg := ⟨dts.map (DefT.fd ci), lts.map (ldOf ci), sub, fuel⟩
/-- what is told of a def with lambdas -/
def LmOk (base : Heap) (mg : Str → Option Value) (G : GI) (qual : Str) (cd : Value) : Prop := ∃ c P, LamX.TabB base mg c P ∧ cd = .ref c ∧ (P, (qual ++ ".<locals>.") ++ "<lambda>") ∈ G.T ∧ ∀ p ∈ G.T, p.1 = P → p.2 = (qual ++ ".<locals>.") ++ "<lambda>"
/-- what the head tells of the module -/
structure Mdl (P : Program) (w : World) (mg : Str → Option Value) (base : Heap) (G : GI) (ci : CI) (dts : List DefT) (lts : List (LT × List Str)) (sub : Nat → Nat → Bool) (fuel : Nat) : Prop where
  defs : ∀ x g, ci.defs.lookup x = some g → ∃ (f : Addr) (fd : FuncData) (d : DefT) (dvs : List V) (kws : List (Str × V)), mg x = some (.ref f) ∧ dts[g]? = some d ∧ FunD G.K d.name d.qual d.params d.body d.scope dvs kws f fd ∧ (∀ n ks pick, ci.binds g n ks = some pick → BndW G.K fd d.ps n ks pick) ∧
    FnScope d.N d.ps d.scope ∧ (d.lm = true → LmOk base mg G d.qual fd.code)
  lams : ∀ (j : Nat) (q : LT × List Str), lts[j]? = some q → LamSc q.1 q.2 ∧ (q.1.cap ++ q.2).Nodup
  lam : ∀ j, G.lamT j = ci.lams[j]?
  ltsE : lts.map (·.1) = ci.lams
  blt : ∀ x ∈ bltNames, mg x = none
  cls : ∀ x c, ci.cls.lookup x = some c → ∃ C, G.clA c = some C ∧ mg x = some (.ref C)
  consts : ∀ x w, ci.consts.lookup x = some w → ∃ u, mg x = some u ∧ ConstW w u
  fld : ∀ f tab, ci.fld.lookup f = some tab → ∀ k i, tab.lookup k = some i → ∀ C, G.clA k = some C → XfC G.K C ∧ PySem.W.findIn G.K (.ref C) f = some none ∧ (G.flds k)[i]? = some f
  kit : KitOk G sub
  cs : CSOk P w G.K mg base G ci (pgOf ci dts lts sub fuel)
section
variable {P : Program} {w : World} {mg : Str → Option Value} {base : Heap} {G : GI} {ci : CI} {dts : List DefT} {lts : List (LT × List Str)} {sub : Nat → Nat → Bool} {fuel : Nat}
theorem pst_bad {gh as : List Addr} {H : Hp} {E : XK} {Q : VK} {pg : Pg} {f : W} {l : List W} {st : S} (h : Pst (G.g gh) as H E (okE (G.g gh) Q) (callAt pg 0 f l st)) : False := h
theorem fnV_zero {K : PySem.W.Frag} {pg : Pg} {lv g : Nat} {f : Addr} {fd : FuncData} {ps : List Str} : FnV P w K mg base lv f fd ps (spV G pg 0 (.fn g) ps.length) :=
  ⟨fun vs H Q E h => h.1, fun A outer s H args us vs Q E _ _ _ _ _ h => by
    obtain ⟨_, gh, as, st, l, _, _, h⟩ := h
    exact (pst_bad h).elim⟩
theorem lamV_zero {K : PySem.W.Frag} {pg : Pg} {lv : Nat} : LamV P w K mg base G pg lv 0 := fun j A outer s H gh as st cs l f vs us Q E _ _ _ _ _ _ _ h => by
  have h : Pst (G.g gh) as H E (okE (G.g gh) Q) (chkD (callAt pg 0 (.clo j cs) l st)) := h
  exact (show False from h).elim
theorem Mdl.ciOk (M : Mdl P w mg base G ci dts lts sub fuel) : ∀ k, CIOk P w G.K mg base G ci (pgOf ci dts lts sub fuel) (k + 2) k := by
  intro k
  have base_ : ∀ lv k, (∀ x g, ci.defs.lookup x = some g → ∀ (f : Addr) (fd : FuncData) (d : DefT) (dvs : List V) (kws : List (Str × V)), mg x = some (.ref f) → dts[g]? = some d → FunD G.K d.name d.qual d.params d.body d.scope dvs kws f fd → FnScope d.N d.ps d.scope → (d.lm = true → LmOk base mg G d.qual fd.code) →
      FnV P w G.K mg base lv f fd d.ps (spV G (pgOf ci dts lts sub fuel) k (.fn g) d.ps.length)) → LamV P w G.K mg base G (pgOf ci dts lts sub fuel) lv k → CIOk P w G.K mg base G ci (pgOf ci dts lts sub fuel) lv k := fun lv k hd hl => by
    refine ⟨fun x g hx => ?_, M.blt, M.cls, M.consts, M.fld, M.kit, M.lam, hl⟩
    obtain ⟨f, fd, d, dvs, kws, h1, h2, h3, h4, h5, h6⟩ := M.defs x g hx
    exact ⟨f, fd, d.ps, h1, h3.kp, hd x g hx f fd d dvs kws h1 h2 h3 h5 h6, h4⟩
  induction k with
  | zero => exact base_ 2 0 (fun _ _ _ _ _ _ _ _ _ _ _ _ _ => fnV_zero) lamV_zero
  | succ k ih =>
    refine base_ (k + 1 + 2) (k + 1) (fun x g hx f fd d dvs kws h1 h2 h3 h5 h6 => ?_) ?_
    · obtain ⟨oc, od, dV, kV, doc, pm, an, cdv, ct, osl, rfl, lk, hcd, _, _⟩ := h3.ex
      have hp : (pgOf ci dts lts sub fuel).defs[g]? = some ⟨d.ps.length, d.N.length, d.fz, cSs ci 60 d.dc d.body⟩ := by
        show (dts.map (DefT.fd ci))[g]? = _
        rw [List.getElem?_map, h2]
        rfl
      refine fnV lk hcd h5 hp fun A outer s H E hr hg => ?_
      have so : SOk (cxOf (L2.CX P w) P w G.K mg base d.N d.qual d.scope f cdv A outer s H E) G ci (pgOf ci dts lts sub fuel) (k + 2) k d.dc (fun cls dd _ H => E cls dd H) := by
        refine ⟨⟨rfl, rfl, h5.nd, rfl, h5.kind, fun _ _ => rfl, rfl, hg, hr, takes_of rfl rfl rfl rfl, fun _ => passes_of rfl, ih, fun hl => ?_⟩, rfl, by omega, rfl, rfl, rfl, M.cs⟩
        exact h6 hl
      exact (st_ok so 60).2 d.body
    · refine lamV fun j L hL => ?_
      have e1 : ci.lams[j]? = some L := by rw [← M.lam]; exact hL
      rw [← M.ltsE, List.getElem?_map] at e1
      obtain ⟨q, hq, rfl⟩ := Option.map_eq_some_iff.mp e1
      obtain ⟨S, nd⟩ := M.lams j q hq
      refine ⟨q.2, cE ci 60 ⟨q.1.cap ++ q.2, q.1.scope, false, false⟩ q.1.body, S, ?_, fun qn f c' cells A outer s H E hr hg => ?_⟩
      · show (lts.map (ldOf ci))[j]? = _
        rw [List.getElem?_map, hq]
        rfl
      · have xo : XOk (lamX P w G.K mg base (q.1.cap ++ q.2) qn q.1.scope f c' cells A outer s H E) G ci (pgOf ci dts lts sub fuel) (k + 2) k ⟨q.1.cap ++ q.2, q.1.scope, false, false⟩ (fun cls dd _ H => E cls dd H) :=
          ⟨rfl, rfl, nd, rfl, S.kind, fun z => absurd (show false = true from z) (by decide), rfl, hg, hr, takes_of rfl rfl rfl rfl, fun z => absurd (show false = true from z) (by decide), ih, fun z => absurd (show false = true from z) (by decide)⟩
        exact (snd_ok ci 60).E xo _
end
end Vi
set_option Elab.async false
set_option linter.all false
set_option maxRecDepth 100000
set_option maxHeartbeats 4000000
/-! Vi37: arguments are bound: by position, then by keywords in the parameters' sequence. -/
namespace Vi
open PySem PySem.Spec PyProof.Rows L2

theorem forIn_yield {α β : Type} (f : α → β → Sem (ForInStep β)) (g : β → α → β) (I : β → List α → Prop) (hs : ∀ b x r, I b (x :: r) → f x b = pure (.yield (g b x)) ∧ I (g b x) r) : ∀ (l : List α) (b : β), I b l → forIn l b f = (pure (l.foldl g b) : Sem β)
  | [], b, _ => by rw [List.forIn_nil]; rfl
  | x :: r, b, h => by
    obtain ⟨h1, h2⟩ := hs b x r h
    rw [List.forIn_cons, h1, pure_bind]
    exact forIn_yield f g I hs r (g b x) h2
theorem fm_congr {α β : Type} {f g : α → Option β} : ∀ {l : List α}, (∀ x ∈ l, f x = g x) → l.filterMap f = l.filterMap g
  | [], _ => rfl
  | x :: r, h => by rw [List.filterMap_cons, List.filterMap_cons, h x List.mem_cons_self, fm_congr fun y hy => h y (List.mem_cons_of_mem _ hy)]
theorem bind_of {α β : Type} {x : Sem α} {v : α} (h : x = pure v) (f : α → Sem β) : (x >>= f) = f v := by rw [h]; rfl
theorem look_zip : ∀ {ns : List Str} {vs : List Value}, ns.Nodup → vs.length = ns.length → ns.filterMap (fun n => ((ns.zip vs).lookup n).map (n, ·)) = ns.zip vs
  | [], vs, _, _ => by simp
  | n :: ns, [], _, h => by simp at h
  | n :: ns, v :: vs, nd, h => by
    obtain ⟨h1, h2⟩ := List.nodup_cons.mp nd
    have ih := look_zip h2 (by simpa using h : vs.length = ns.length)
    rw [List.zip_cons_cons, List.filterMap_cons]
    have e : List.lookup n ((n, v) :: ns.zip vs) = some v := by simp [List.lookup]
    rw [e]
    show (n, v) :: ns.filterMap _ = _
    congr 1
    refine Eq.trans (fm_congr fun m hm => ?_) ih
    have q : (m == n) = false := by
      simp
      intro z
      exact h1 (z ▸ hm)
    show Option.map _ (match m == n with | true => some v | false => (ns.zip vs).lookup m) = _
    rw [q]
theorem look_some : ∀ {ns : List Str} {vs : List Value} {n : Str}, vs.length = ns.length → n ∈ ns → ((ns.zip vs).lookup n).isNone = false
  | [], _, _, _, h => by simp at h
  | x :: ns, [], _, h, _ => by simp at h
  | x :: ns, v :: vs, n, h, hm => by
    show (match n == x with | true => some v | false => (ns.zip vs).lookup n).isNone = false
    cases e : (n == x) with
    | true => rfl
    | false =>
      rcases List.mem_cons.mp hm with z | z
      · subst z
        simp at e
      · exact look_some (by simpa using h) z
theorem look_none : ∀ {ns : List Str} {vs : List Value} {n : Str}, n ∉ ns → ((ns.zip vs).lookup n).isSome = false
  | [], _, _, h => by simp
  | x :: ns, [], _, _ => by simp
  | x :: ns, v :: vs, n, h => by
    show (match n == x with | true => some v | false => (ns.zip vs).lookup n).isSome = false
    have q : (n == x) = false := by
      simp
      intro z
      exact h (by rw [z]; exact List.mem_cons_self)
    rw [q]
    exact look_none (fun z => h (List.mem_cons_of_mem _ z))


theorem look_pre {p r : List (Str × Value)} {x : Str × Value} (h : ((p ++ x :: r).map (·.1)).Nodup) : (p.lookup x.1).isSome = false := by
  cases e : p.lookup x.1 with
  | none => rfl
  | some v =>
    have hm := PySem.mem_of_lookup e
    rw [List.map_append, List.nodup_append] at h
    exact absurd rfl (h.2.2 x.1 (List.mem_map.mpr ⟨_, hm, rfl⟩) x.1 (by simp))
theorem bind_all {fd : FuncData} {as : List Arg} {dfl : List Expr} (hp : fd.params = ⟨[], as, none, [], [], none, dfl⟩) {A ks : List Str} (hn : as.map (·.arg) = A ++ ks) (nd : (A ++ ks).Nodup) {us ws : List Value} (hu : us.length = A.length) (hw : ws.length = ks.length) :
    ∃ kk : Option (Array Value) → Sem (List (Str × Value)), bindArgs fd ⟨us, ks.zip ws⟩ = seqItems? fd.defaults >>= kk ∧ ∀ o, kk o = pure ((A ++ ks).zip (us ++ ws)) := by
  have e0 : (A ++ ks).zip us = A.zip us := by
    have z := List.zip_append (l₁ := A) (l₂ := us) (r₁ := ks) (r₂ := ([] : List Value)) hu.symm
    simpa using z
  have eS : A.zip us ++ ks.zip ws = (A ++ ks).zip (us ++ ws) := (List.zip_append hu.symm).symm
  have hl : (us ++ ws).length = (A ++ ks).length := by simp; omega
  have la : as.length = (A ++ ks).length := by rw [← hn]; simp
  have hgu : ¬ us.length > (A ++ ks).length := by simp; omega
  have ndS : ((A.zip us ++ ks.zip ws).map (·.1)).Nodup := by rw [eS, List.map_fst_zip (Nat.le_of_eq hl.symm)]; exact nd
  unfold bindArgs
  simp only [hp, List.map_nil, List.nil_append, List.length_map, hn, List.append_nil, e0]
  refine ⟨?kk, (bind_of (forIn_yield _ (fun b x => (b.1 ++ [x], b.2)) (fun b l => ∃ p, ks.zip ws = p ++ l ∧ b = (A.zip us ++ p, [])) (fun b x r hI => ?h1) (ks.zip ws) (A.zip us, []) ⟨[], rfl, by simp⟩) _).trans ?h2, fun o => ?h3⟩
  case h2 => rfl
  case h1 =>
    obtain ⟨p, h1, rfl⟩ := hI
    have hx : x.1 ∈ A ++ ks := by
      have z : x ∈ ks.zip ws := by rw [h1]; simp
      exact List.mem_append_right _ (List.of_mem_zip z).1
    have hnl : ((A.zip us ++ p).lookup x.1).isSome = false := look_pre (r := r) (by rw [List.append_assoc, ← h1]; exact ndS)
    refine ⟨?_, p ++ [x], by rw [h1]; simp, by simp⟩
    have c1 : (A ++ ks).contains x.1 = true := List.contains_iff_mem.mpr hx
    rw [c1, Bool.true_or, if_pos rfl]
    show (if (List.lookup x.1 (A.zip us ++ p)).isSome = true then _ else _) = _
    rw [hnl, if_neg (by decide)]
  case h3 =>
    have fl : ∀ (l : List (Str × Value)) (b : List (Str × Value)), l.foldl (fun b x => (b.1 ++ [x], b.2)) (b, ([] : List (Str × Value))) = (b ++ l, []) := by
      intro l
      induction l with
      | nil => intro b; simp
      | cons x r ih => intro b; rw [List.foldl_cons, ih]; simp
    have noN : ∀ (l : List Str), (∀ n ∈ l, n ∈ A ++ ks) → l.filter (fun n => (((A ++ ks).zip (us ++ ws)).lookup n).isNone) = [] := fun l h => by
      rw [List.filter_eq_nil_iff]
      intro n hn
      rw [look_some hl (h n hn)]
      decide
    simp only [fl, eS, hgu, decide_false, Bool.false_and, Bool.false_eq_true, if_false]
    rw [noN _ fun n h => List.mem_of_mem_take h]
    simp only [List.isEmpty_nil, Bool.not_true, Bool.false_eq_true, if_false]
    refine (bind_of (forIn_yield _ (fun b x => b) (fun b l => b = (A ++ ks).zip (us ++ ws) ∧ ∀ x ∈ l, x.1 ∈ A ++ ks) (fun b x r hI => ?_) _ _ ⟨rfl, fun x hx => by
      have z := (List.of_mem_zip (show (x.1, x.2) ∈ _ from hx)).1
      exact List.mem_of_mem_drop z⟩) _).trans ?_
    · obtain ⟨rfl, h⟩ := hI
      refine ⟨?_, rfl, fun y hy => h y (List.mem_cons_of_mem _ hy)⟩
      rw [look_some hl (h x List.mem_cons_self), if_neg (by decide)]
    · have e : ∀ (l : List (Str × Value)) (b : List (Str × Value)), l.foldl (fun b x => b) b = b := by
        intro l
        induction l with
        | nil => intro b; rfl
        | cons x r ih => intro b; exact ih b
      rw [e]
      simp only [List.forIn_nil, pure_bind, List.isEmpty_nil, Bool.not_true, Bool.false_eq_true, if_false, look_zip nd hl]
theorem pick_id {ms : List Value} : ∀ (n i : Nat), i + n = ms.length → PickR ms ((List.range' i n).map .inl) (ms.drop i)
  | 0, i, h => by
    rw [List.drop_eq_nil_of_le (by omega)]
    exact .nil
  | n + 1, i, h => by
    have hi : i < ms.length := by omega
    rw [List.range'_succ, List.map_cons, List.drop_eq_getElem_cons hi]
    exact .arg (List.getElem?_eq_getElem hi) (pick_id n (i + 1) (by omega))
theorem binds_all {K : PySem.W.Frag} {x qual : Str} {params : Arguments} {body : List Stmt} {scope : Scope} {dvs : List V} {kws : List (Str × V)} {f : Addr} {fd : FuncData} (F : FunD K x qual params body scope dvs kws f fd) {as : List Arg} {dfl : List Expr} (hp : params = ⟨[], as, none, [], [], none, dfl⟩)
    {A ks : List Str} (hn : as.map (·.arg) = A ++ ks) (nd : (A ++ ks).Nodup) {s : Shared} {us ws : List Value} (hK : K.In s.heap) (hu : us.length = A.length) (hw : ws.length = ks.length) : BindsTo s fd ⟨us, ks.zip ws⟩ ((A ++ ks).zip (us ++ ws)) := by
  obtain ⟨oc, od, dV, kV, doc, pm, an, cdv, ct, osl, rfl, lk, hcd, hD, _⟩ := F.ex
  obtain ⟨kk, h1, h2⟩ := bind_all (fd := PySem.W.fnOf x qual params body scope dV kV doc pm an cdv ct) hp hn nd hu hw
  rcases hD with ⟨_, rfl⟩ | ⟨_, T, o, its, m, rfl, lT, oT, _⟩
  · exact .of_eq (h1.trans (h2 none))
  · exact .of_defaults rfl (hK _ _ lT) oT h1 (h2 _)
def idPick (n : Nat) : List (Nat ⊕ W) := (List.range' 0 n).map .inl
def plainA (a : Arguments) : Bool := a.posonlyargs.isEmpty && a.vararg.isNone && a.kwonlyargs.isEmpty && a.kw_defaults.isEmpty && a.kwarg.isNone
theorem plainA_ok {a : Arguments} (h : plainA a = true) : a = ⟨[], a.args, none, [], [], none, a.defaults⟩ := by
  obtain ⟨a1, a2, a3, a4, a5, a6, a7⟩ := a
  unfold plainA at h
  simp only [Bool.and_eq_true] at h
  obtain ⟨⟨⟨⟨h1, h2⟩, h3⟩, h4⟩, h5⟩ := h
  have q1 := isEmpty_nil h1; have q2 := isNone_none h2; have q3 := isEmpty_nil h3; have q4 := isEmpty_nil h4; have q5 := isNone_none h5
  subst q1 q2 q3 q4 q5
  rfl
def plainD (d : DefT) : Bool := plainA d.params && decide (d.params.args.map (·.arg) = d.ps) && decide d.ps.Nodup
theorem bndW_of {K : PySem.W.Frag} {d : DefT} {dvs : List V} {kws : List (Str × V)} {f : Addr} {fd : FuncData} (F : FunD K d.name d.qual d.params d.body d.scope dvs kws f fd) (hd : plainD d = true) {n : Nat} {ks : List Str} (hn : n ≤ d.ps.length) (hk : ks = d.ps.drop n) : BndW K fd d.ps n ks (idPick d.ps.length) := by
  unfold plainD at hd
  simp only [Bool.and_eq_true, decide_eq_true_eq] at hd
  obtain ⟨⟨h1, h2⟩, h3⟩ := hd
  subst hk
  refine ⟨fun s us ws hK hu hw => ⟨us ++ ws, ?_, ?_, ?_⟩⟩
  · have z := pick_id (ms := us ++ ws) d.ps.length 0 (by simp at hw ⊢; omega)
    rw [List.drop_zero] at z
    exact z
  · simp at hw ⊢
    omega
  · have e : d.ps.take n ++ d.ps.drop n = d.ps := List.take_append_drop n d.ps
    have z := binds_all F (plainA_ok h1) (A := d.ps.take n) (ks := d.ps.drop n) (us := us) (ws := ws) (by rw [e, h2]) (by rw [e]; exact h3) hK (by rw [List.length_take]; omega) hw
    rw [e] at z
    exact z
end Vi
set_option Elab.async false
set_option linter.all false
set_option maxRecDepth 100000
set_option maxHeartbeats 4000000
/-! Vi38: what the compiler must know, read off the program's text. -/
namespace Vi
open PySem PySem.Spec PyProof.Rows L2

def subsE : Expr → List Expr
  | .BoolOp _ vs _ => vs
  | .NamedExpr a b _ => [a, b]
  | .BinOp a _ b _ => [a, b]
  | .UnaryOp _ a _ => [a]
  | .Lambda _ b _ _ => [b]
  | .IfExp a b c _ => [a, b, c]
  | .Dict ks vs _ => ks.filterMap id ++ vs
  | .Set es _ _ => es
  | .ListComp e gs _ _ => e :: gs.flatMap fun g => g.target :: g.iter :: g.ifs
  | .SetComp e gs _ _ => e :: gs.flatMap fun g => g.target :: g.iter :: g.ifs
  | .DictComp k v gs _ _ => k :: v :: gs.flatMap fun g => g.target :: g.iter :: g.ifs
  | .GeneratorExp e gs _ _ => e :: gs.flatMap fun g => g.target :: g.iter :: g.ifs
  | .Compare a _ cs _ => a :: cs
  | .Call f as ks _ => f :: as ++ ks.map (·.value)
  | .Attribute a _ _ => [a]
  | .Subscript a b _ => [a, b]
  | .Starred a _ => [a]
  | .List es _ => es
  | .Tuple es _ _ => es
  | .Slice a b c _ => [a, b, c].filterMap id
  | _ => []
def deepE : Nat → List Expr → List Expr
  | 0, _ => []
  | _, [] => []
  | k + 1, es => es ++ deepE k (es.flatMap subsE)
def stmtE : Stmt → List Expr
  | .Return (some e) _ => [e]
  | .Assign ts e _ => ts ++ [e]
  | .AugAssign t _ e _ => [t, e]
  | .For t i _ _ _ => [t, i]
  | .While t _ _ _ => [t]
  | .If t _ _ _ => [t]
  | .Raise (some e) _ _ => [e]
  | .Expr e _ => [e]
  | _ => []
def hdBody : ExceptHandler → List Stmt
  | .ExceptHandler _ _ b _ => b
def subsS : Stmt → List Stmt
  | .For _ _ b c _ => b ++ c
  | .While _ b c _ => b ++ c
  | .If _ b c _ => b ++ c
  | .Try b hs c d _ => b ++ hs.flatMap hdBody ++ c ++ d
  | _ => []
def deepS : Nat → List Stmt → List Stmt
  | 0, _ => []
  | _, [] => []
  | k + 1, ss => ss ++ deepS k (ss.flatMap subsS)
def exprsOf (body : List Stmt) : List Expr := deepE 40 ((deepS 40 body).flatMap stmtE)
def compScope : Expr → Option Scope
  | .ListComp _ _ sc _ => some sc
  | _ => none
/-- a lambda as it stands in the text -/
structure LamE where
  pos : Pos
  pa : Arguments
  b : Expr
  sc : Scope
def lamE : Expr → Option LamE
  | .Lambda pa b sc p => some ⟨p, pa, b, sc⟩
  | _ => none
def addN (N xs : List Str) : List Str := xs.foldl (fun N x => if N.contains x then N else N ++ [x]) N
def ownN (sc : Scope) : List Str := (sc.names.filter fun y => decide (y.2 = .local) || decide (y.2 = .cell)).map (·.1)
def parN (a : Arguments) : List Str := a.args.map (·.arg)
/-- kp: the defs whose answers stay places -/
def defT (kp : List Str) : Stmt → Option DefT
  | .FunctionDef name args body _ _ _ scope _ _ _ =>
    let es := exprsOf body
    some ⟨name, name, args, body, scope, parN args, addN (addN (parN args) (ownN scope)) ((es.filterMap compScope).flatMap ownN), !(es.filterMap lamE).isEmpty, !kp.contains name⟩
  | _ => none
def dtsOf (p : Program) (kp : List Str) : List DefT := p.main.body.filterMap (defT kp)
def lamsOf (d : DefT) : List LamE := (exprsOf d.body).filterMap lamE
def capN (sc : Scope) : List Str := (sc.names.filter fun y => decide (y.2 = .free)).map (·.1)
def LamE.lt (l : LamE) : LT × List Str := (⟨l.pa, l.b, l.sc, capN l.sc⟩, parN l.pa)
def ltsOf (p : Program) : List (LT × List Str) := ((dtsOf p []).flatMap lamsOf).map LamE.lt
def allSomeN : List (Option Nat) → Option (List Nat)
  | [] => some []
  | some n :: r => (allSomeN r).map (n :: ·)
  | none :: _ => none
def numberedFrom {α : Type} : Nat → List α → List (Nat × α)
  | _, [] => []
  | n, x :: r => (n, x) :: numberedFrom (n + 1) r
def lamTab (p : Program) : List ((Nat × Nat) × Nat × List Nat) := (numberedFrom 0 ((dtsOf p []).flatMap fun d => (lamsOf d).map fun l => (d, l))).filterMap fun q =>
  (allSomeN ((capN q.2.2.sc).map (slot q.2.1.N))).map fun cap => ((q.2.2.pos.line, q.2.2.pos.col), q.1, cap)
/-- an own exception's __init__: super().__init__(text), then a field is stored -/
structure IniT where
  cls : Str
  qual : Str
  params : Arguments
  scope : Scope
  nself : Str
  ntext : Str
  nfld : Str
  fld : Str
  p0 : Pos
  p1 : Pos
  p2 : Pos
  p3 : Pos
  p4 : Pos
  p5 : Pos
  p6 : Pos
  p7 : Pos
  p8 : Pos
  p9 : Pos
def IniT.body (i : IniT) : List Stmt := [.Expr (.Call (.Attribute (.Call (.Name "super" i.p0) [] [] i.p1) "__init__" i.p2) [.Name i.ntext i.p3] [] i.p4) i.p5, .Assign [.Attribute (.Name i.nself i.p6) i.fld i.p7] (.Name i.nfld i.p8) i.p9]
def iniT (c : Str) : List Stmt → Option IniT
  | [.FunctionDef _ pa [.Expr (.Call (.Attribute (.Call (.Name _ p0) [] [] p1) _ p2) [.Name nt p3] [] p4) p5, .Assign [.Attribute (.Name sf p6) f p7] (.Name nf p8) p9] _ _ _ sc _ _ _] => some ⟨c, c ++ ".__init__", pa, sc, sf, nt, nf, f, p0, p1, p2, p3, p4, p5, p6, p7, p8, p9⟩
  | _ => none
/-- a class of exceptions: its name, base, own __init__ -/
structure ClT where
  name : Str
  base : Str
  ini : Option IniT
def ClT.fld (c : ClT) : Option Str := c.ini.map (·.fld)
def clsT : Stmt → Option ClT
  | .ClassDef name [.Name b _] _ body _ _ _ _ _ _ _ => some ⟨name, b, iniT name body⟩
  | _ => none
def clsOf (p : Program) : List ClT := p.main.body.filterMap clsT
def intOf : Expr → Option Int
  | .Constant (.int i) _ _ => some i
  | .BinOp (.Constant (.int i) _ _) .Pow (.Constant (.int j) _ _) _ => some (i ^ j.toNat)
  | _ => none
def conOf : Stmt → Option (Str × W)
  | .Assign [.Name x _] e _ => if x = "__name__" then none else match e with
    | .Constant v _ _ => (constW v).map fun w => (x, w)
    | e => (intOf e).map fun i => (x, .int i)
  | _ => none
def upCls (cs : List ClT) : Nat → Str → List Str
  | 0, _ => []
  | k + 1, x => x :: (match cs.find? fun c => decide (c.name = x) with
    | some c => upCls cs k c.base
    | none => [])
def subOf (cs : List ClT) (c d : Nat) : Bool := match cs[c]?, cs[d]? with
  | some a, some b => (upCls cs 6 a.name).contains b.name
  | _, _ => false
/-- the text; kp: the defs whose answers stay places; new: which displays, comprehensions and calls of list make places; caught: the classes that except clauses name -/
structure Txt where
  p : Program
  kp : List Str
  new : List (Nat × Nat)
  caught : List Nat
def Txt.dts (M : Txt) : List DefT := dtsOf M.p M.kp
def Txt.lts (M : Txt) : List (LT × List Str) := ltsOf M.p
def Txt.cs (M : Txt) : List ClT := clsOf M.p
def Txt.sub (M : Txt) : Nat → Nat → Bool := subOf M.cs
/-- the compiler's tables -/
def Txt.ci (M : Txt) : CI :=
  { defs := (numberedFrom 0 M.dts).map fun q => (q.2.name, q.1)
    binds := fun g n ks => match M.dts[g]? with
      | some d => if plainD d && decide (n ≤ d.ps.length) && decide (ks = d.ps.drop n) then some (idPick d.ps.length) else none
      | none => none
    cls := (numberedFrom 0 M.cs).map fun q => (q.2.name, q.1)
    consts := M.p.main.body.filterMap conOf
    fld := (numberedFrom 0 M.cs).filterMap fun q => q.2.fld.map fun f => (f, [(q.1, 0)])
    new := fun l c => M.new.contains (l, c)
    lams := M.lts.map (·.1)
    lamAt := fun l c => (lamTab M.p).lookup (l, c)
    exc0 := (numberedFrom 0 M.cs).filterMap fun q => if q.2.ini.isNone then some (q.2.name, q.1) else none
    exc1 := (numberedFrom 0 M.cs).filterMap fun q => if q.2.ini.isSome then some (q.2.name, q.1, false) else none
    caught := M.caught }
def Txt.pg (M : Txt) (fuel : Nat) : Pg := pgOf M.ci M.dts M.lts M.sub fuel
end Vi
set_option Elab.async false
set_option linter.all false
set_option maxRecDepth 100000
set_option maxHeartbeats 4000000
/-! Vi39: the law is called, where no guard stands. -/
namespace Vi
open PySem PySem.Spec PyProof.Rows L2

/-- the tables and the script, as they are tracked -/
def trkd (K : PySem.W.Frag) (T : List Addr) (a : Addr) (u : HO) : Hp := fun b => if b ∈ T then some (.tbl #[]) else if b = a then (match K.lookup a with
  | none => some u
  | some _ => none) else none
section
variable {P : Program} {w : World} {K : PySem.W.Frag} {mg mb : Str → Option Value} {fa a : Addr} {cs : List (Addr × Addr)} {s1 : Shared} {vs : List Value} {ns : List Int}
theorem trkd_cases {T : List Addr} {u v : HO} {b : Addr} (h : trkd K T a u b = some v) : (b ∈ T ∧ v = .tbl #[]) ∨ (b ∉ T ∧ b = a ∧ v = u ∧ K.lookup a = none) := by
  unfold trkd at h
  split at h
  · rename_i m
    cases h
    exact .inl ⟨m, rfl⟩
  · rename_i m
    split at h
    · rename_i e
      split at h
      · rename_i k
        cases h
        exact .inr ⟨m, e, rfl, k⟩
      · cases h
    · cases h
/-- an object that is no list and no empty table is not tracked -/
theorem trkd_none {T : List Addr} {u : HO} {b : Addr} {o : Obj} (hT : ∀ b ∈ T, s1.heap.get? b = some { cls := .none, data := .fields #[] }) (ha : ∃ z n, (s1.heap.get? a).map (·.data) = some (.seq z n)) (e : s1.heap.get? b = some o) (n1 : ∀ z n, o.data ≠ .seq z n) (n2 : o.data ≠ .fields #[]) : trkd K T a u b = none := by
  cases q : trkd K T a u b with
  | none => rfl
  | some v =>
    rcases trkd_cases q with ⟨m, _⟩ | ⟨_, rfl, _, _⟩
    · rw [hT b m] at e
      cases e
      exact (n2 rfl).elim
    · obtain ⟨z, n, h⟩ := ha
      rw [e] at h
      exact (n1 z n (Option.some.inj h)).elim
theorem law_run (KX : K.In s1.heap) (gl : s1.heap.Ns mainGlobals mg) (bt : s1.heap.Ns builtinsNs mb) (bts : ∀ x : Str, x ≠ "__name__" → mb x = bootBuiltins x) (nl : s1.heap.NoLimit) (gen0 : s1.gens = #[]) (hT : ∀ p ∈ cs, s1.heap.get? p.2 = some { cls := .none, data := .fields #[] })
    (out : ∀ p ∈ cs, K.lookup p.2 = none) (hd : ∀ p ∈ cs, PySem.W.CodeHd s1.heap p.1 p.2) (bm : ∃ (m : Addr) (ob : Obj), mg "__builtins__" = some (.ref m) ∧ m ≠ builtinsNs ∧ s1.heap.get? m = some ob ∧ ob.cls = .type "module" ∧ ob.dict = some builtinsNs ∧ ob.data = .plain)
    (ha : s1.heap.get? a = some { cls := .type "list", data := .seq vs.toArray }) (hi : IntsAre vs ns) (hl : ns.length ≤ sizeLine)
    (run : ∀ (base : Heap) (H : Hp), K.In base → base.Ns mainGlobals mg → (∀ p ∈ cs, LamX.TabB base mg p.1 p.2) → Env0 P w K mg base callerA [] s1 H → (∀ p ∈ cs, H p.2 = some (.tbl #[])) → SqL K H a (ns.map V.int) →
      codeAny (model P w) callerA (.call (.ref fa) ⟨[.ref a], []⟩) (CR (L2.CX P w) [] P w H s1 (fun v _ => v = .bl true) fun _ _ _ => False) s1) :
    codeAny (model P w) callerA (.call (.ref fa) ⟨[.ref a], []⟩) (fun r s' => r = .ok (.ret (.bool true)) ∧ OldK s1.heap s'.heap ∧ s'.os = s1.os ∧ AllBare s'.gens) s1 := by
  have rvI := vals_ints hi
  have size := hi.length
  let script : Obj := { cls := .type "list", data := .seq vs.toArray }
  let T := cs.map (·.2)
  let u : HO := .frz script (.lst (ns.map V.int))
  let H := trkd K T a u
  have empty : ∀ b ∈ T, s1.heap.get? b = some { cls := .none, data := .fields #[] } := fun b m => by
    obtain ⟨p, hp, rfl⟩ := List.mem_map.mp m
    exact hT p hp
  have inT : ∀ p ∈ cs, p.2 ∈ T := fun p hp => List.mem_map.mpr ⟨p, hp, rfl⟩
  have aT : a ∉ T := fun m => by
    have z := empty a m
    rw [ha] at z
    cases z
  have isA : ∃ z n, (s1.heap.get? a).map (·.data) = some (.seq z n) := ⟨_, _, by rw [ha]; rfl⟩
  have tab : ∀ p ∈ cs, H p.2 = some (.tbl #[]) := fun p hp => if_pos (inT p hp)
  have seq : SqL K H a (ns.map V.int) := by
    cases k : K.lookup a with
    | none =>
      refine .inl (.inr ⟨script, ?_⟩)
      show trkd K T a u a = _
      unfold trkd
      rw [if_neg aT, if_pos rfl, k]
    | some o =>
      have z := KX a o k
      rw [ha] at z
      cases z
      exact .inr ⟨_, _, _, k, rfl, rfl, rfl, by rw [List.size_toArray, size]; exact hl, rvI⟩
  have hok : HOk P w H s1.heap := fun b v q => by
    rcases trkd_cases q with ⟨m, rfl⟩ | ⟨_, rfl, rfl, _⟩
    · exact empty b m
    · exact ⟨ha, by rw [List.length_map]; exact hl, vs, _, rvI, ha⟩
  have plain : ∀ {b : Addr} {o : Obj}, s1.heap.get? b = some o → (∀ z n, o.data ≠ .seq z n) → o.data ≠ .fields #[] → (hidT s1.heap H).get? b = some o := fun e n1 n2 => hidT_get e (trkd_none empty isA e n1 n2)
  have ns_ : ∀ {b : Addr} {m : Str → Option Value}, s1.heap.Ns b m → (hidT s1.heap H).Ns b m := fun {b m} ⟨o, es, ep, e, d, r⟩ => ⟨o, es, ep, plain e (fun z n q => by rw [d] at q; cases q) (fun q => by rw [d] at q; cases q), d, r⟩
  have kin : K.In (hidT s1.heap H) := fun b o e => hidT_get (KX b o e) (by
    cases q : H b with
    | none => rfl
    | some v =>
      rcases trkd_cases q with ⟨m, _⟩ | ⟨_, rfl, _, k⟩
      · obtain ⟨p, hp, rfl⟩ := List.mem_map.mp m
        rw [out p hp] at e
        cases e
      · rw [k] at e
        cases e)
  obtain ⟨mc, nl1, nl2⟩ := nl
  have e0 : Env0 P w K mg (hidT s1.heap H) callerA [] s1 H := ⟨rfl, ⟨kin, ns_ gl, ⟨mb, ns_ bt, bts⟩, mc, ns_ nl1, nl2⟩, fun b o => of_hidT, Nat.le_of_eq (hidT_size _ _), True.intro, fun b hb => absurd hb (by simp [frs]), hok, .of_eq gen0⟩
  have tbs : ∀ p ∈ cs, LamX.TabB (hidT s1.heap H) mg p.1 p.2 := fun p hp => by
    refine ⟨?_, ?_, fun z => ?_⟩
    · obtain ⟨o, us, file, tf, flags, tg, inF, text, tt, e1, r1, r2, r3⟩ := hd p hp
      refine ⟨o, us, file, tf, flags, tg, inF, text, tt, plain e1 (fun z n q => ?_) (fun q => ?_), r1, r2, r3⟩
      · rw [r2] at q
        cases q
      · rw [r2] at q
        cases q
        have z := r3.1
        simp at z
    · obtain ⟨m, ob, b1, b2, b3, b4, b5, b6⟩ := bm
      refine ⟨m, ob, b1, b2, fun z => ?_, fun z => ?_, plain b3 (fun z n q => ?_) (fun q => ?_), b4, b5, b6⟩
      · obtain ⟨o, es, ep, e, d, _⟩ := gl
        rw [z, e] at b3
        cases b3
        rw [d] at b6
        cases b6
      · rw [z, hT p hp] at b3
        cases b3
        cases b6
      · rw [b6] at q
        cases q
      · rw [b6] at q
        cases q
    · obtain ⟨o, es, ep, e, d, _⟩ := gl
      rw [z, hT p hp] at e
      cases e
      cases d
  refine codeAny_mono (run _ H kin (ns_ gl) tbs e0 tab seq) fun r s' h => ?_
  cases r with
  | error e =>
    obtain ⟨_, _, _, _, _, _, _, _, _, _, _, _, z⟩ := h
    exact z.elim
  | ok fl =>
    cases fl with
    | next => exact h.elim
    | brk => exact h.elim
    | cont => exact h.elim
    | ret v =>
      obtain ⟨x, H2, os, bare, un, hok2, rx, q⟩ := h
      have q : x = .bl true := q
      subst q
      obtain rfl : v = Value.bool true := rx
      have stay : ∀ b o, b ∉ T → s1.heap.get? b = some o → s'.heap.get? b = some o := fun b o m e => by
        cases q : H b with
        | none => exact un.keep b o e q (by simp [frs]) (by simp)
        | some y =>
          rcases trkd_cases q with ⟨z, _⟩ | ⟨_, rfl, rfl, _⟩
          · exact absurd z m
          · obtain ⟨h1, _⟩ := hok _ _ q
            obtain ⟨h2, _⟩ := hok2 _ _ (un.frzs _ _ _ q)
            rw [e] at h1
            cases h1
            exact h2
      have grow : ∀ p ∈ cs, ∃ more : Array Value, s'.heap.get? p.2 = some { cls := .none, data := .fields more } := fun p hp => by
        obtain ⟨more, z⟩ := un.tbls p.2 #[] (tab p hp)
        exact ⟨_, hok2 p.2 _ z⟩
      refine ⟨rfl, ⟨fun b o e => ?_, fun b o e => ?_⟩, os, bare⟩
      · by_cases m : b ∈ T
        · obtain ⟨p, hp, rfl⟩ := List.mem_map.mp m
          obtain ⟨more, g⟩ := grow p hp
          rw [hT p hp] at e
          cases e
          exact .inr (.inl ⟨((hd p hp).tab (hT p hp)).isCodeTable, rfl, #[], more, rfl, by simpa using g⟩)
        · exact .inl (stay b o m e)
      · by_cases m : b ∈ T
        · obtain ⟨p, hp, rfl⟩ := List.mem_map.mp m
          obtain ⟨more, g⟩ := grow p hp
          exact ⟨_, g⟩
        · exact ⟨o, stay b o m e⟩
end
end Vi
set_option Elab.async false
set_option linter.all false
set_option maxRecDepth 100000
set_option maxHeartbeats 4000000
/-! Vi40: the module's facts, by booleans; what the head looks at. -/
namespace Vi
open PySem PySem.Spec PyProof.Rows L2

/-! ### of the text alone -/
def scB (d : DefT) : Bool := decide (d.scope.kind = .function) && !d.scope.isCoroutine && !d.scope.isGenerator && decide d.N.Nodup && decide (d.N.take d.ps.length = d.ps) && d.ps.all (fun x => decide (d.scope.names.lookup x = some .local) || decide (d.scope.names.lookup x = some .cell)) && d.scope.names.all fun y => decide (y.2 ≠ .free)
theorem scB_ok {d : DefT} (h : scB d = true) : FnScope d.N d.ps d.scope := by
  unfold scB at h
  simp only [Bool.and_eq_true, decide_eq_true_eq, Bool.not_eq_true', List.all_eq_true, Bool.or_eq_true] at h
  obtain ⟨⟨⟨⟨⟨⟨h1, h2⟩, h3⟩, h4⟩, h5⟩, h6⟩, h7⟩ := h
  exact ⟨h1, h2, h3, h4, h5, h6, h7⟩
def lamB (q : LT × List Str) : Bool := decide (q.1.scope.kind = .function) && !q.1.scope.isCoroutine && !q.1.scope.isGenerator && q.1.scope.names.all (fun y => decide (y.2 ≠ .cell)) && q.2.all (fun x => decide (q.1.scope.names.lookup x = some .local)) && q.1.cap.all (fun x => decide (q.1.scope.names.lookup x = some .free)) &&
  decide (q.1.cap ++ q.2).Nodup && plainA q.1.params && decide (q.1.params.args.map (·.arg) = q.2)
theorem lamB_ok {q : LT × List Str} (h : lamB q = true) : LamSc q.1 q.2 ∧ (q.1.cap ++ q.2).Nodup := by
  unfold lamB at h
  simp only [Bool.and_eq_true, decide_eq_true_eq, Bool.not_eq_true', List.all_eq_true] at h
  obtain ⟨⟨⟨⟨⟨⟨⟨⟨h1, h2⟩, h3⟩, h4⟩, h5⟩, h6⟩, h7⟩, h8⟩, h9⟩ := h
  have nd : q.2.Nodup := (List.nodup_append.mp h7).2.1
  refine ⟨⟨⟨h1, h2, h3, h4, h5, nd, h6⟩, fun qn cl pm cv tv us hl => ?_⟩, h7⟩
  obtain ⟨kk, k1, k2⟩ := bind_all (fd := PySem.W.kla_fn "<lambda>" qn q.1.params q.1.body q.1.scope cl pm cv tv) (plainA_ok h8) (A := q.2) (ks := []) (us := us) (ws := []) (by rw [List.append_nil]; exact h9) (by rw [List.append_nil]; exact nd) hl rfl
  have z := k1.trans (k2 none)
  rw [List.append_nil, List.append_nil] at z
  exact z
def iniB (i : IniT) : Bool := decide (i.scope.names.lookup ("super" : Str) = some .globalImplicit) && decide (i.scope.kind = .function) && !i.scope.isCoroutine && !i.scope.isGenerator && i.scope.names.all (fun y => decide (y.2 ≠ .cell)) && [i.nself, i.ntext, i.nfld].all (fun x => decide (i.scope.names.lookup x = some .local)) && decide [i.nself, i.ntext, i.nfld].Nodup &&
  decide (i.scope.names.lookup ("__class__" : Str) = some .free) && i.scope.names.all (fun y => decide (y.2 ≠ .free) || decide (y.1 = ("__class__" : Str))) && (i.p2.endLine == i.p4.line) && !badName i.ntext && !badName i.nself && !badName i.nfld && plainA i.params && decide (i.params.args.map (·.arg) = [i.nself, i.ntext, i.nfld])
structure IniOk (i : IniT) : Prop where
  sc : i.scope.names.lookup ("super" : Str) = some .globalImplicit ∧ LamSc0 ⟨default, .Name i.nself i.p6, i.scope, ["__class__"]⟩ [i.nself, i.ntext, i.nfld]
  fr : ∀ y ∈ i.scope.names, y.2 = .free → y.1 = ("__class__" : Str)
  line : (i.p2.endLine == i.p4.line) = true
  nt : badName i.ntext = false
  ns : badName i.nself = false
  nf : badName i.nfld = false
  pl : plainA i.params = true
  ar : i.params.args.map (·.arg) = [i.nself, i.ntext, i.nfld]
theorem iniB_ok {i : IniT} (h : iniB i = true) : IniOk i := by
  unfold iniB at h
  simp only [Bool.and_eq_true, decide_eq_true_eq, Bool.not_eq_true', List.all_eq_true, Bool.or_eq_true] at h
  obtain ⟨⟨⟨⟨⟨⟨⟨⟨⟨⟨⟨⟨⟨⟨h1, h2⟩, h3⟩, h4⟩, h5⟩, h6⟩, h7⟩, h8⟩, h9⟩, h10⟩, h11⟩, h12⟩, h13⟩, h14⟩, h15⟩ := h
  exact ⟨⟨h1, h2, h3, h4, h5, h6, h7, fun x hx => by rw [List.mem_singleton.mp hx]; exact h8⟩, fun y hy ey => (h9 y hy).resolve_left fun z => z ey, h10, h11, h12, h13, h14, h15⟩
def Txt.inis (M : Txt) : List IniT := M.cs.filterMap (·.ini)
def Txt.textB (M : Txt) : Bool := M.dts.all scB && M.lts.all lamB && M.inis.all iniB && decide ((M.p.main.scope.names.lookup ("super" : Str)).isSome = false)

/-! ### of the module's objects -/
section
variable (M : Txt) (K : PySem.W.Frag)
abbrev FnO : Type := Option (Str × Str × Arguments × FuncBody × Scope × Addr × Addr)
def fnO (a : Addr) : FnO := match K.lookup a with
  | some ⟨_, _, .func fd, _⟩ => some (fd.name, fd.qualname, fd.params, fd.body, fd.scope, fd.globals, fd.builtins)
  | _ => none
def DefT.val (d : DefT) : FnO := some (d.name, d.qual, d.params, .stmts d.body, d.scope, mainGlobals, builtinsNs)
def IniT.val (i : IniT) : FnO := some ("__init__", i.qual, i.params, .stmts i.body, i.scope, mainGlobals, builtinsNs)
def iniA (i : IniT) : Addr := He.ma K (He.ga K i.cls) "__init__"
def gloB (x : Str) : Bool := decide (PySem.W.nsIn K mainGlobals x = some (some (.ref (He.ga K x))))
def freeB (x : Str) : Bool := decide (PySem.W.nsIn K mainGlobals x = some none)
def defB (d : DefT) : Bool := gloB K d.name && PySem.W.keepIn K (.ref (He.ga K d.name)) && match K.lookup (He.ga K d.name) with
  | some ⟨_, _, .func fd, _⟩ => PySem.W.codeIn K fd.code d.qual && fd.closure.isEmpty && decide (fd.defaults = .none)
  | _ => false
def conW : W → Value → Bool
  | .non, .none => true
  | .bl a, .bool b => a == b
  | .int i, .int j _ => decide (i = j)
  | .str x, .str y _ => decide (x = y)
  | _, _ => false
def conB (c : Str × W) : Bool := match PySem.W.nsIn K mainGlobals c.1 with
  | some (some u) => conW c.2 u
  | _ => false
def exfB (C : Addr) : Bool := (PySem.W.clsIn K C).isSome && decide (PySem.W.findIn K (.ref C) "__getattribute__" = some (some (.builtin "BaseException.__getattribute__"))) && (PySem.W.findIn K (.ref C) "__getattr__").isSome && decide (PySem.W.subIn K (.ref C) (.type "BaseException") = some true) &&
  decide (PySem.W.findIn K (.ref C) "__class__" = some (some (.builtin "object.__class__"))) && decide (PySem.W.specialIn K (.builtin "object.__class__") "__get__" = some (some (.builtin "getset_descriptor.__get__"))) && decide (PySem.W.takesIn K (.builtin "object.__class__") = some true) && decide (PySem.W.mroIn K C (.type "object") = some true)
/-- a class without own __init__ -/
def exc0B (C : Addr) : Bool := PySem.W.excIn K C He.veBase "ValueError.__new__" && PySem.W.keepIn K (.ref C) && decide (PySem.W.subIn K (.ref C) (.type "BaseException") = some true) && decide (PySem.W.typeIn K (.ref C) = some (.type "type"))
def oexB (C : Addr) : Bool := (match K.lookup C with
  | some ⟨.type "type", _, .cls cd, sl⟩ => (match cd.mro, sl.toList with
    | .ref C' :: bm, [_, _, _, _, some (.builtin n), _] => decide (C' = C) && decide (n = "ValueError.__new__") && !cd.hasDel && cd.hasDict && PySem.HandSPX.refsVE bm
    | _, _ => false)
  | _ => false) && decide (PySem.W.findIn K (.ref C) "__setattr__" = some (some (.builtin "object.__setattr__"))) && decide (PySem.W.subIn K (.ref C) (.type "BaseException") = some true) && decide (PySem.W.typeIn K (.ref C) = some (.type "type")) && PySem.W.keepIn K (.ref C)
def dflB (v : Value) : Bool := match v with
  | .none => true
  | .ref T => (match K.lookup T with
    | some ⟨_, _, .seq _ _, _⟩ => true
    | _ => false)
  | _ => false
def cellB (cl : List (Str × Addr)) (C : Addr) : Bool := match cl with
  | [(n, cc)] => decide (n = ("__class__" : Str)) && (match K.lookup cc with
    | some ⟨_, _, .cell (some (.ref C')), _⟩ => decide (C' = C)
    | _ => false)
  | _ => false
def fileB (cd : Value) : Bool := match cd with
  | .ref c => (match K.lookup c with
    | some ⟨_, _, .fields vs, _⟩ => (match (vs[2]? : Option Value) with
      | some (.str file _) => (M.p.main.file : Str) == file
      | _ => false)
    | _ => false)
  | _ => false
def exc1B (i : IniT) : Bool := oexB K (He.ga K i.cls) && decide (PySem.W.findIn K (.ref (He.ga K i.cls)) "__init__" = some (some (.ref (iniA K i)))) && decide (PySem.W.typeIn K (.ref (iniA K i)) = some (.type "function")) &&
  decide (PySem.W.ks_superIn K (He.ga K i.cls) (He.ga K i.cls) "__init__" = some (some (.builtin "ValueError.__init__"))) && decide (PySem.W.subIn K (.ref (He.ga K i.cls)) (.type "ValueError") = some true) && decide (PySem.W.mroIn K (He.ga K i.cls) (.ref (He.ga K i.cls)) = some true) &&
  decide (PySem.W.findIn K (.ref (He.ga K i.cls)) i.fld = some none) && xfB K (He.ga K i.cls) && match K.lookup (iniA K i) with
  | some ⟨_, _, .func fd, _⟩ => PySem.W.codeIn K fd.code i.qual && cellB K fd.closure (He.ga K i.cls) && fileB M K fd.code && dflB K fd.defaults
  | _ => false
def clsB (c : ClT) : Bool := gloB K c.name && exfB K (He.ga K c.name) && match c.ini with
  | none => exc0B K (He.ga K c.name)
  | some i => decide (i.cls = c.name) && exc1B M K i
def Txt.tf (M : Txt) : List He.Defn := (M.dts.filter (·.lm)).map fun d => (d.name, none)
/-- the tables' addresses with the names of their codes -/
def Txt.tabs (M : Txt) (K : PySem.W.Frag) : List (Addr × Str) := (M.dts.filter (·.lm)).map fun d => ((He.cT K (d.name, none)).2, (d.qual ++ ".<locals>.") ++ "<lambda>")
def Txt.gi (M : Txt) (K : PySem.W.Frag) : GI :=
  { K := K
    fnA := fun g => (M.dts[g]?).map fun d => He.ga K d.name
    clA := fun c => (M.cs[c]?).map fun c => He.ga K c.name
    flds := fun c => match M.cs[c]? with
      | some c => c.fld.toList
      | none => []
    lamT := fun j => (M.lts.map (·.1))[j]?
    T := M.tabs K
    gh := [] }
def kds (n : Nat) : List Kd := [.non, .bool, .int, .str, .tup, .lst, .dct] ++ (List.range n).map .cls
def tys (n : Nat) : List Ty := [.str, .int, .bool, .tup, .lst, .dct] ++ (List.range n).map .cls
def kitB : Bool := (kds M.cs.length).all fun k => (tys M.cs.length).all fun t => match kdV (M.gi K) k, tyU (M.gi K) t with
  | some a, some b => decide (PySem.W.kitOne K a b = some (isTy M.sub k t))
  | _, _ => true
def exmB : Bool := M.caught.all fun c => (List.range M.cs.length).all fun k => match (M.gi K).clA c, (M.gi K).clA k with
  | some D, some C => decide (PySem.W.exmOne K (.ref C) (.ref D) = some (M.sub k c))
  | _, _ => true
def Txt.mdlB (M : Txt) (K : PySem.W.Frag) : Bool := M.dts.all (defB K) && bltNames.all (freeB K) && freeB K "super" && M.ci.consts.all (conB K) && M.cs.all (clsB M K) && kitB M K && exmB M K && decide (PySem.W.nsIn K cStatics "thirdparty.any" = some none) && decide ((M.tabs K).map (·.1)).Nodup
end
/-! ### the Hook -/
abbrev AlV : Type := Bool × List FnO
def obsV (M : Txt) (g : Addr → Option Obj) (K : PySem.W.Frag) : AlV := (M.mdlB K && He.tabsB g M.tf K, M.dts.map (fun d => fnO K (He.ga K d.name)) ++ M.inis.map fun i => fnO K (iniA K i))
def valV (M : Txt) : AlV := (true, M.dts.map DefT.val ++ M.inis.map IniT.val)
/-- a list's object -/
def listO : Obj → Bool
  | ⟨.type c, _, .seq _ _, _⟩ => decide (c = "list")
  | _ => false
/-- a part of the heap without empty tables, without lists -/
def frV (g : Addr → Option Obj) (as : List Addr) : PySem.W.Frag := (He.frG g as).filter fun q => !He.emptyTab q.2 && !listO q.2
theorem frV_mem {g : Addr → Option Obj} {as : List Addr} {a : Addr} {o : Obj} (h : (frV g as).lookup a = some o) : g a = some o ∧ He.emptyTab o = false ∧ listO o = false := by
  obtain ⟨h1, h2⟩ := List.mem_filter.mp (He.lookup_mem h)
  have h2 : (!He.emptyTab o && !listO o) = true := h2
  rw [Bool.and_eq_true, Bool.not_eq_true', Bool.not_eq_true'] at h2
  exact ⟨He.frG_mem h1, h2⟩
theorem frV_in {as : List Addr} {h : Heap} : (frV h.get? as).In h := fun _ _ e => (frV_mem e).1
theorem frV_none {g : Addr → Option Obj} {as : List Addr} {a : Addr} {o : Obj} (h : g a = some o) (ht : He.emptyTab o = true) : (frV g as).lookup a = none := by
  cases e : (frV g as).lookup a with
  | none => rfl
  | some u =>
    obtain ⟨h1, h2, _⟩ := frV_mem e
    rw [h] at h1
    cases h1
    rw [ht] at h2
    cases h2
structure SaysV (M : Txt) (h : Heap) (K : PySem.W.Frag) : Prop where
  fns : M.dts.map (fun d => fnO K (He.ga K d.name)) ++ M.inis.map (fun i => fnO K (iniA K i)) = M.dts.map DefT.val ++ M.inis.map IniT.val
  mdl : M.mdlB K = true
  hd : ∀ p ∈ M.tf, PySem.W.codeHdIn K (He.cT K p).1 (He.cT K p).2 = true
  out : ∀ p ∈ M.tf, K.lookup (He.cT K p).2 = none
  empty : ∀ p ∈ M.tf, h.get? (He.cT K p).2 = some { cls := .none, data := .fields #[] }
  nol : ∀ a o, K.lookup a = some o → listO o = false
/-- what the module's names reach, and the statics -/
def asV (g : Addr → Option Obj) (n : Nat) : List Addr := cStatics :: He.asD g n
def obsVG (n : Nat) (M : Txt) (g : Addr → Option Obj) : AlV := obsV M g (frV g (asV g n))
theorem saysV_of {n : Nat} {M : Txt} {h : Heap} (e : obsVG n M h.get? = valV M) : SaysV M h (frV h.get? (asV h.get? n)) := by
  have e1 := congrArg (fun z : AlV => z.2) e
  have e2 := congrArg (fun z : AlV => z.1) e
  obtain ⟨h1, h2⟩ := He.ba (show (M.mdlB (frV h.get? (asV h.get? n)) && He.tabsB h.get? M.tf (frV h.get? (asV h.get? n))) = true from e2)
  have key : ∀ p ∈ M.tf, PySem.W.codeHdIn (frV h.get? (asV h.get? n)) (He.cT (frV h.get? (asV h.get? n)) p).1 (He.cT (frV h.get? (asV h.get? n)) p).2 = true ∧ ∃ o, h.get? (He.cT (frV h.get? (asV h.get? n)) p).2 = some o ∧ He.emptyTab o = true := fun p hp => by
    obtain ⟨h3, h4⟩ := He.ba (List.all_eq_true.mp h2 p hp)
    refine ⟨h3, ?_⟩
    split at h4
    · rename_i o q
      exact ⟨o, q, h4⟩
    · cases h4
  refine ⟨e1, h1, fun p hp => (key p hp).1, fun p hp => ?_, fun p hp => ?_, fun a o e => ?_⟩
  · obtain ⟨_, o, q, z⟩ := key p hp
    exact frV_none q z
  · obtain ⟨_, o, q, z⟩ := key p hp
    rw [q, He.emptyTab_eq z]
  · exact (frV_mem e).2.2
def hookV (n : Nat) (M : Txt) : PySem.W.Hook where
  α := AlV
  obs := fun s => obsVG n M s.heap.get?
  val := fun _ => valV M
  says := fun _ h => ∃ K : PySem.W.Frag, K.In h ∧ SaysV M h K
  of := fun _ _ e => ⟨_, frV_in, saysV_of e⟩
  keeps := fun _ _ _ ⟨K, hK, c⟩ k => ⟨K, PySem.W.Frag.In.keeps hK k, ⟨c.fns, c.mdl, c.hd, c.out, fun p hp => k _ _ (c.empty p hp), c.nol⟩⟩
theorem obsVG_eq {n : Nat} {M : Txt} {g : Addr → Option Obj} {s : Shared} (h : ∀ a, g a = s.heap.get? a) : obsVG n M g = (hookV n M).obs s := by
  have e : g = s.heap.get? := funext h
  rw [e] <;> rfl
end Vi
set_option Elab.async false
set_option linter.all false
set_option maxRecDepth 100000
set_option maxHeartbeats 4000000
/-! Vi41: from what the head tells to the module's facts. -/
namespace Vi
open PySem PySem.Spec PyProof.Rows L2

theorem num_mem {α : Type} : ∀ {l : List α} {n : Nat} {q : Nat × α}, q ∈ numberedFrom n l → n ≤ q.1 ∧ l[q.1 - n]? = some q.2
  | [], _, _, h => by cases h
  | x :: r, n, q, h => by
    rcases List.mem_cons.mp h with e | e
    · subst e
      exact ⟨Nat.le_refl _, by simp⟩
    · obtain ⟨h1, h2⟩ := num_mem e
      have e2 : q.1 - n = (q.1 - (n + 1)) + 1 := by omega
      exact ⟨by omega, by rw [e2, List.getElem?_cons_succ]; exact h2⟩
theorem num_look {α : Type} {f : α → Str} {l : List α} {x : Str} {g : Nat} (h : ((numberedFrom 0 l).map fun q => (f q.2, q.1)).lookup x = some g) : ∃ d, l[g]? = some d ∧ f d = x := by
  obtain ⟨q, hq, e⟩ := List.mem_map.mp (PySem.mem_of_lookup h)
  obtain ⟨_, h2⟩ := num_mem hq
  cases e
  exact ⟨q.2, h2, rfl⟩
theorem at_app {α β : Type} {f g : α → β} : ∀ {l : List α} {r r' : List β}, l.map f ++ r = l.map g ++ r' → ∀ {i : Nat} {x : α}, l[i]? = some x → f x = g x
  | [], _, _, _, _, _, h => by simp at h
  | y :: l, r, r', e, i, x, h => by
    rw [List.map_cons, List.map_cons, List.cons_append, List.cons_append] at e
    injection e with e1 e2
    cases i with
    | zero =>
      simp at h
      rw [← h]
      exact e1
    | succ i => exact at_app e2 (i := i) (by simpa using h)
theorem map_at {α β : Type} {f g : α → β} {l : List α} (e : l.map f = l.map g) {x : α} (h : x ∈ l) : f x = g x := by
  obtain ⟨i, hi, ex⟩ := List.getElem_of_mem h
  have e2 : l.map f ++ [] = l.map g ++ [] := by rw [e]
  exact at_app e2 (i := i) (by rw [List.getElem?_eq_getElem hi, ex])
theorem app_right {α β : Type} {f g : α → β} : ∀ {l : List α} {r r' : List β}, l.map f ++ r = l.map g ++ r' → r = r'
  | [], _, _, e => by simpa using e
  | y :: l, r, r', e => by
    rw [List.map_cons, List.map_cons, List.cons_append, List.cons_append] at e
    injection e with e1 e2
    exact app_right e2
theorem conW_ok {w : W} {u : Value} (h : conW w u = true) : ConstW w u := by
  unfold conW at h
  split at h
  · exact ⟨.non, rfl, fun _ _ _ => .non⟩
  · rename_i a b
    have e : a = b := by simpa using h
    subst e
    exact ⟨.bl a, rfl, fun _ _ _ => .bl _⟩
  · rename_i i j t
    have e : i = j := of_decide_eq_true h
    subst e
    exact ⟨.int i, ⟨_, rfl⟩, fun _ _ _ => .int _⟩
  · rename_i x y t
    have e : x = y := of_decide_eq_true h
    subst e
    exact ⟨.str x, ⟨_, rfl⟩, fun _ _ _ => .str _⟩
  · cases h
section
variable {M : Txt} {K : PySem.W.Frag}
theorem exfB_ok {C : Addr} (h : exfB K C = true) : ExF K C := by
  unfold exfB at h
  simp only [Bool.and_eq_true, decide_eq_true_eq] at h
  obtain ⟨⟨⟨⟨⟨⟨⟨h1, h2⟩, h3⟩, h4⟩, h5⟩, h6⟩, h7⟩, h8⟩ := h
  exact ⟨h1, h2, Option.isSome_iff_exists.mp h3, h4, h5, h6, h7, h8⟩
theorem oexB_ok {C : Addr} (h : oexB K C = true) : OexC K C := by
  unfold oexB at h
  simp only [Bool.and_eq_true, decide_eq_true_eq] at h
  obtain ⟨⟨⟨⟨h1, h2⟩, h3⟩, h4⟩, h5⟩ := h
  refine ⟨?_, h2, h3, h4, h5⟩
  split at h1
  · rename_i dd cd sl ho
    split at h1
    · rename_i C' bm k0 k1 k2 k3 n k5 hm hs
      simp only [Bool.and_eq_true, decide_eq_true_eq, Bool.not_eq_true'] at h1
      obtain ⟨⟨⟨⟨rfl, rfl⟩, hdel⟩, hdict⟩, hr⟩ := h1
      obtain ⟨nm, bs, mro, nsp, qn, hd, sn, sub, ab, col, del⟩ := cd
      dsimp only at hm hdel hdict
      subst hm hdel hdict
      have hsl : sl = #[k0, k1, k2, k3, some (.builtin "ValueError.__new__"), k5] := by
        obtain ⟨l⟩ := sl
        simp only at hs
        rw [hs]
      subst hsl
      exact ⟨nm, qn, nsp, bs, bm, sn, sub, ab, col, dd, k0, k1, k2, k3, k5, ho, hr⟩
    · cases h1
  · cases h1
/-- a def of the text, as the head tells it -/
theorem def_at {d : DefT} (e : fnO K (He.ga K d.name) = d.val) (h : defB K d = true) : ∃ fd, FunD K d.name d.qual d.params d.body d.scope [] [] (He.ga K d.name) fd ∧ He.codeOf K (d.name, none) = He.codeOf K (d.name, none) ∧ (∃ c, fd.code = .ref c ∧ He.codeOf K (d.name, none) = c) := by
  unfold defB at h
  rw [Bool.and_eq_true, Bool.and_eq_true] at h
  obtain ⟨⟨_, kp⟩, h3⟩ := h
  unfold fnO at e
  split at h3
  · rename_i oc od fd osl lk
    rw [lk] at e
    simp only [Bool.and_eq_true, decide_eq_true_eq] at h3
    obtain ⟨⟨hc, hcl⟩, hdf⟩ := h3
    obtain ⟨n1, n2, n3, n4, n5, n6, n7, n8, n9, n10, n11, n12, n13, n14, n15⟩ := fd
    have e2 : (some (n1, n2, n3, n4, n5, n6, n15) : FnO) = some (d.name, d.qual, d.params, .stmts d.body, d.scope, mainGlobals, builtinsNs) := e
    simp only [Option.some.injEq, Prod.mk.injEq] at e2
    obtain ⟨q1, q2, q3, q4, q5, q6, q7⟩ := e2
    have q8 : n7 = [] := isEmpty_nil hcl
    have q9 : n8 = .none := hdf
    subst q1 q2 q3 q4 q5 q6 q7 q8 q9
    obtain ⟨c, hcd⟩ := He.codeIn_ref hc
    exact ⟨_, ⟨⟨oc, od, _, n9, n10, n11, n12, n13, n14, osl, rfl, lk, hc, .inl ⟨rfl, rfl⟩, .inl rfl⟩, kp⟩, rfl, c, hcd, He.codeOf_eq (p := (d.name, none)) lk hcd⟩
  · cases h3
theorem ini_at {i : IniT} (e : fnO K (iniA K i) = i.val) (h : exc1B M K i = true) (o : IniOk i) {P : Program} {w : World} {mg : Str → Option Value} {base : Heap} (hP : P = M.p) (nsup : mg "super" = none) (opq : PySem.W.nsIn K cStatics "thirdparty.any" = some none) (top : (M.p.main.scope.names.lookup ("super" : Str)).isSome = false) :
    ∃ fd, OexC K (He.ga K i.cls) ∧ PySem.W.findIn K (.ref (He.ga K i.cls)) "__init__" = some (some (.ref (iniA K i))) ∧ PySem.W.typeIn K (.ref (iniA K i)) = some (.type "function") ∧ FnOk P w K mg base (L2.CX P w) 1 (iniA K i) fd [i.nself, i.ntext, i.nfld] (spSup (He.ga K i.cls) i.fld) ∧ Binds K fd [i.nself, i.ntext, i.nfld] [] ∧
      PySem.W.findIn K (.ref (He.ga K i.cls)) i.fld = some none ∧ XfC K (He.ga K i.cls) := by
  unfold exc1B at h
  simp only [Bool.and_eq_true, decide_eq_true_eq] at h
  obtain ⟨⟨⟨⟨⟨⟨⟨⟨h1, h2⟩, h3⟩, h4⟩, h5⟩, h6⟩, h7⟩, h8⟩, h9⟩ := h
  unfold fnO at e
  split at h9
  · rename_i oc od fd osl lk
    rw [lk] at e
    simp only [Bool.and_eq_true] at h9
    obtain ⟨⟨⟨hc, hcl⟩, hfile⟩, hdf⟩ := h9
    obtain ⟨n1, n2, n3, n4, n5, n6, n7, n8, n9, n10, n11, n12, n13, n14, n15⟩ := fd
    have e2 : (some (n1, n2, n3, n4, n5, n6, n15) : FnO) = some (("__init__" : Str), i.qual, i.params, .stmts i.body, i.scope, mainGlobals, builtinsNs) := e
    simp only [Option.some.injEq, Prod.mk.injEq] at e2
    obtain ⟨q1, q2, q3, q4, q5, q6, q7⟩ := e2
    subst q1 q2 q3 q4 q5 q6 q7
    unfold cellB at hcl
    split at hcl
    · rename_i nm cc e7
      have e7 : n7 = [(nm, cc)] := e7
      subst e7
      simp only [Bool.and_eq_true, decide_eq_true_eq] at hcl
      obtain ⟨rfl, hcell⟩ := hcl
      split at hcell
      · rename_i clc cld C' csl lcc
        have eC : C' = He.ga K i.cls := of_decide_eq_true hcell
        subst eC
        unfold fileB at hfile
        split at hfile
        · rename_i cda ecd
          have ecd : n13 = .ref cda := ecd
          subst ecd
          split at hfile
          · rename_i ccl cdd cvs ccs lcd
            split at hfile
            · rename_i file tf hvs
              have k1 := o.nt
              have k2 := o.ns
              have k3 := o.nf
              have U : SupI K P mg (He.ga K i.cls) (iniA K i) (PySem.W.ksFn "__init__" i.qual i.params i.body i.scope n8 n9 n10 n11 n12 (.ref cda) n14 cc) i.nself i.ntext i.nfld i.fld i.scope i.p0 i.p1 i.p2 i.p3 i.p4 i.p5 i.p6 i.p7 i.p8 i.p9 := by
                refine ⟨⟨_, _, _, n8, n9, n10, n11, n14, oc, n12, od, osl, cc, cda, rfl, lk, hc, ?_, ⟨clc, cld, csl, lcc⟩, ccl, cdd, cvs, ccs, file, tf, lcd, hvs, by rw [hP]; exact hfile⟩, oexB_ok h1, nsup, h4, h5, h6, opq, by rw [hP]; exact top, h7, o.sc, o.fr, o.line, ?_⟩
                · have z := o.ar
                  have p1 := plainA_ok o.pl
                  rw [p1]
                  cases q : i.params.args with
                  | nil => rw [q] at z; cases z
                  | cons a r =>
                    rw [q] at z
                    rw [List.map_cons] at z
                    exact ⟨a, rfl, (List.cons.inj z).1⟩
                · exact ⟨(badName_ok k1).1, (badName_ok k1).2, (badName_ok k2).1, (badName_ok k2).2, (badName_ok k3).1, (badName_ok k3).2⟩
              refine ⟨_, oexB_ok h1, h2, h3, sup_ok (k := 0) U, fun s us hK hl => ?_, h7, xfB_ok h8⟩
              rw [List.append_nil] at hl ⊢
              have nd : [i.nself, i.ntext, i.nfld].Nodup := o.sc.2.nd
              obtain ⟨kk, b1, b2⟩ := bind_all (fd := PySem.W.ksFn "__init__" i.qual i.params i.body i.scope n8 n9 n10 n11 n12 (.ref cda) n14 cc) (plainA_ok o.pl) (A := [i.nself, i.ntext, i.nfld]) (ks := []) (us := us) (ws := []) (by rw [List.append_nil]; exact o.ar) (by rw [List.append_nil]; exact nd) hl rfl
              have b2 : ∀ v, kk v = pure ([i.nself, i.ntext, i.nfld].zip us) := fun v => by
                have z := b2 v
                rw [List.append_nil, List.append_nil] at z
                exact z
              unfold dflB at hdf
              split at hdf
              · rename_i e8
                have e8 : n8 = .none := e8
                subst e8
                exact .of_eq (b1.trans (b2 none))
              · rename_i Tp e8
                have e8 : n8 = .ref Tp := e8
                subst e8
                split at hdf
                · rename_i oc2 od2 its n2 sl2 lT
                  exact .of_defaults rfl (hK _ _ lT) rfl b1 (b2 _)
                · cases hdf
              · cases hdf
            · cases hfile
          · cases hfile
        · cases hfile
      · cases hcell
    · cases hcl
  · cases h9
end
end Vi
set_option Elab.async false
set_option linter.all false
set_option maxRecDepth 100000
set_option maxHeartbeats 4000000
/-! Vi42: the module's facts, all together. -/
namespace Vi
open PySem PySem.Spec PyProof.Rows L2

section
variable {M : Txt} {K : PySem.W.Frag} {h : Heap} {mg : Str → Option Value} {base : Heap} {w : World} {fuel : Nat}
structure MdB (M : Txt) (K : PySem.W.Frag) : Prop where
  defs : ∀ d ∈ M.dts, defB K d = true
  blt : ∀ x ∈ bltNames, freeB K x = true
  sup : freeB K "super" = true
  con : ∀ c ∈ M.ci.consts, conB K c = true
  cls : ∀ c ∈ M.cs, clsB M K c = true
  kit : kitB M K = true
  exm : exmB M K = true
  opq : PySem.W.nsIn K cStatics "thirdparty.any" = some none
  nd : ((M.tabs K).map (·.1)).Nodup
theorem mdB_of (h : M.mdlB K = true) : MdB M K := by
  unfold Txt.mdlB at h
  simp only [Bool.and_eq_true, decide_eq_true_eq, List.all_eq_true] at h
  obtain ⟨⟨⟨⟨⟨⟨⟨⟨h1, h2⟩, h3⟩, h4⟩, h5⟩, h6⟩, h7⟩, h8⟩, h9⟩ := h
  exact ⟨h1, h2, h3, h4, h5, h6, h7, h8, h9⟩
theorem nodup_one {α β : Type} {f : α → β} : ∀ {l : List α}, (l.map f).Nodup → ∀ {a b : α}, a ∈ l → b ∈ l → f a = f b → a = b
  | [], _, _, _, h, _, _ => by cases h
  | x :: r, nd, a, b, ha, hb, e => by
    rw [List.map_cons] at nd
    obtain ⟨n1, n2⟩ := List.nodup_cons.mp nd
    rcases List.mem_cons.mp ha with ea | ha
    · rcases List.mem_cons.mp hb with eb | hb
      · rw [ea, eb]
      · exact absurd (List.mem_map.mpr ⟨b, hb, by rw [← e, ea]⟩) n1
    · rcases List.mem_cons.mp hb with eb | hb
      · exact absurd (List.mem_map.mpr ⟨a, ha, by rw [e, eb]⟩) n1
      · exact nodup_one n2 ha hb e
theorem cls_at {c : Nat} {C : Addr} (e : (M.gi K).clA c = some C) : ∃ t, M.cs[c]? = some t ∧ He.ga K t.name = C := Option.map_eq_some_iff.mp e
theorem lt_of_cls {c : Nat} {C : Addr} (e : (M.gi K).clA c = some C) : c < M.cs.length := by
  obtain ⟨t, h, _⟩ := cls_at e
  exact (List.getElem?_eq_some_iff.mp h).1
theorem kit_ok (h : kitB M K = true) : KitOk (M.gi K) M.sub := by
  intro k t a b ha hb
  have hk : k ∈ kds M.cs.length := by
    cases k with
    | cls c =>
      have e : ((M.gi K).clA c).map Value.ref = some a := ha
      obtain ⟨C, hC, _⟩ := Option.map_eq_some_iff.mp e
      exact List.mem_append_right _ (List.mem_map.mpr ⟨c, List.mem_range.mpr (lt_of_cls hC), rfl⟩)
    | _ => exact List.mem_append_left _ (by simp)
  have ht : t ∈ tys M.cs.length := by
    cases t with
    | cls c =>
      have e : ((M.gi K).clA c).map Value.ref = some b := hb
      obtain ⟨C, hC, _⟩ := Option.map_eq_some_iff.mp e
      exact List.mem_append_right _ (List.mem_map.mpr ⟨c, List.mem_range.mpr (lt_of_cls hC), rfl⟩)
    | _ => exact List.mem_append_left _ (by simp)
  have z := List.all_eq_true.mp (List.all_eq_true.mp h k hk) t ht
  rw [ha, hb] at z
  exact of_decide_eq_true z
theorem exm_ok (h : exmB M K = true) : ∀ c ∈ M.caught, ∀ D, (M.gi K).clA c = some D → ∀ k C, (M.gi K).clA k = some C → PySem.W.exmOne K (.ref C) (.ref D) = some (M.sub k c) := fun c hc D hD k C hC => by
  have z := List.all_eq_true.mp (List.all_eq_true.mp h c hc) k (List.mem_range.mpr (lt_of_cls hC))
  rw [hD, hC] at z
  exact of_decide_eq_true z
theorem cls_of (m : MdB M K) {c : Nat} {t : ClT} (h : M.cs[c]? = some t) : PySem.W.nsIn K mainGlobals t.name = some (some (.ref (He.ga K t.name))) ∧ ExF K (He.ga K t.name) ∧ (M.gi K).clA c = some (He.ga K t.name) ∧ (M.gi K).flds c = t.fld.toList ∧ (match t.ini with
  | none => exc0B K (He.ga K t.name)
  | some i => decide (i.cls = t.name) && exc1B M K i) = true := by
  have z := m.cls t (List.mem_of_getElem? h)
  unfold clsB at z
  rw [Bool.and_eq_true, Bool.and_eq_true] at z
  refine ⟨of_decide_eq_true z.1.1, exfB_ok z.1.2, ?_, ?_, z.2⟩
  · show (M.cs[c]?).map _ = _
    rw [h]
    rfl
  · show (match M.cs[c]? with
      | some c => c.fld.toList
      | none => []) = _
    rw [h]
theorem Txt.mdl (M : Txt) (hK : K.In h) (S : SaysV M h K) (tx : M.textB = true) (G : h.Ns mainGlobals mg) (TB : ∀ p ∈ M.tf.map (He.cT K), LamX.TabB base mg p.1 p.2) : Mdl M.p w mg base (M.gi K) M.ci M.dts M.lts M.sub fuel := by
  have m := mdB_of S.mdl
  unfold Txt.textB at tx
  simp only [Bool.and_eq_true, decide_eq_true_eq, List.all_eq_true] at tx
  obtain ⟨⟨⟨tx1, tx2⟩, tx3⟩, tx4⟩ := tx
  have free : ∀ {x : Str}, freeB K x = true → mg x = none := fun e => PySem.W.mg_none_of hK G (of_decide_eq_true e)
  have iniAt : ∀ {c : Nat} {t : ClT} {i : IniT}, M.cs[c]? = some t → t.ini = some i → fnO K (iniA K i) = i.val ∧ IniOk i := fun hc hi => by
    have hm : _ ∈ M.inis := List.mem_filterMap.mpr ⟨_, List.mem_of_getElem? hc, hi⟩
    exact ⟨map_at (app_right S.fns) hm, iniB_ok (tx3 _ hm)⟩
  refine ⟨fun x g hx => ?_, fun j q hq => lamB_ok (tx2 q (List.mem_of_getElem? hq)), fun j => rfl, rfl, fun x hx => free (m.blt x hx), fun x c hx => ?_, fun x v hx => ?_, fun f tab hf k i hi C hC => ?_, kit_ok m.kit, fun x k hx => ?_, fun x k b hx => ?_, exm_ok m.exm⟩
  · obtain ⟨d, hd, ed⟩ := num_look (f := DefT.name) hx
    have dm : d ∈ M.dts := List.mem_of_getElem? hd
    have db := m.defs d dm
    obtain ⟨fd, F, _, c, hc, hco⟩ := def_at (at_app S.fns hd) db
    have gl : PySem.W.nsIn K mainGlobals d.name = some (some (.ref (He.ga K d.name))) := by
      unfold defB at db
      rw [Bool.and_eq_true, Bool.and_eq_true] at db
      exact of_decide_eq_true db.1.1
    refine ⟨_, fd, d, [], [], by rw [← ed]; exact PySem.W.mg_of hK G gl, hd, F, fun n ks pick hp => ?_, scB_ok (tx1 d dm), fun hl => ?_⟩
    · have hp : (match M.dts[g]? with
        | some d => if plainD d && decide (n ≤ d.ps.length) && decide (ks = d.ps.drop n) then some (idPick d.ps.length) else none
        | none => none) = some pick := hp
      rw [hd] at hp
      dsimp only at hp
      split at hp
      · rename_i q
        simp only [Bool.and_eq_true, decide_eq_true_eq] at q
        cases hp
        exact bndW_of F q.1.1 q.1.2 q.2
      · cases hp
    · have hm : (d.name, none) ∈ M.tf := List.mem_map.mpr ⟨d, List.mem_filter.mpr ⟨dm, hl⟩, rfl⟩
      have ht : ((He.cT K (d.name, none)).2, (d.qual ++ ".<locals>.") ++ "<lambda>") ∈ M.tabs K := List.mem_map.mpr ⟨d, List.mem_filter.mpr ⟨dm, hl⟩, rfl⟩
      refine ⟨(He.cT K (d.name, none)).1, (He.cT K (d.name, none)).2, TB _ (List.mem_map.mpr ⟨_, hm, rfl⟩), ?_, ht, fun p hp e => ?_⟩
      · rw [hc]
        show Value.ref c = .ref (He.codeOf K (d.name, none))
        rw [hco]
      · rw [nodup_one m.nd hp ht e]
  · obtain ⟨t, ht, et⟩ := num_look (f := ClT.name) hx
    obtain ⟨h1, _, h3, _⟩ := cls_of m ht
    exact ⟨_, h3, by rw [← et]; exact PySem.W.mg_of hK G h1⟩
  · have z := m.con _ (PySem.mem_of_lookup hx)
    unfold conB at z
    split at z
    · rename_i u e
      exact ⟨u, PySem.W.mg_of hK G e, conW_ok z⟩
    · cases z
  · obtain ⟨q, hq, e⟩ := List.mem_filterMap.mp (PySem.mem_of_lookup hf)
    obtain ⟨f', e1, e2⟩ := Option.map_eq_some_iff.mp e
    cases e2
    obtain ⟨_, ht⟩ := num_mem hq
    have ht : M.cs[q.1]? = some q.2 := ht
    have z : (match k == q.1 with
      | true => some 0
      | false => ([] : List (Nat × Nat)).lookup k) = some i := hi
    cases ek : (k == q.1) with
    | false =>
      rw [ek] at z
      cases z
    | true =>
    rw [ek] at z
    cases z
    have ek : k = q.1 := by simpa using ek
    subst ek
    obtain ⟨_, _, h3, h4, h5⟩ := cls_of m ht
    rw [h3] at hC
    cases hC
    obtain ⟨i, ei, ef⟩ := Option.map_eq_some_iff.mp e1
    rw [ei] at h5
    simp only [Bool.and_eq_true, decide_eq_true_eq] at h5
    obtain ⟨z1, z2⟩ := iniAt ht ei
    obtain ⟨fd, _, _, _, _, _, g6, g7⟩ := ini_at (P := M.p) (w := w) (mg := mg) (base := base) z1 h5.2 z2 rfl (free m.sup) m.opq tx4
    rw [h5.1] at g6 g7
    subst ef
    refine ⟨g7, g6, ?_⟩
    rw [h4, e1]
    rfl
  · obtain ⟨q, hq, e⟩ := List.mem_filterMap.mp (PySem.mem_of_lookup hx)
    obtain ⟨_, ht⟩ := num_mem hq
    have ht : M.cs[q.1]? = some q.2 := ht
    split at e
    · rename_i hn
      cases e
      have hn : q.2.ini = none := isNone_none hn
      obtain ⟨h1, h2, h3, h4, h5⟩ := cls_of m ht
      rw [hn] at h5
      dsimp only at h5
      unfold exc0B at h5
      simp only [Bool.and_eq_true, decide_eq_true_eq] at h5
      obtain ⟨⟨⟨q1, q2⟩, q3⟩, q4⟩ := h5
      refine ⟨He.ga K q.2.name, _, _, _, _, F.excBase_ValueError, q1, PySem.W.mg_of hK G h1, q2, q3, q4, h3, ?_, h2⟩
      rw [h4]
      unfold ClT.fld
      rw [hn]
      rfl
    · cases e
  · obtain ⟨q, hq, e⟩ := List.mem_filterMap.mp (PySem.mem_of_lookup hx)
    obtain ⟨_, ht⟩ := num_mem hq
    have ht : M.cs[q.1]? = some q.2 := ht
    split at e
    · rename_i hn
      cases e
      obtain ⟨i, ei⟩ := Option.isSome_iff_exists.mp hn
      obtain ⟨h1, h2, h3, h4, h5⟩ := cls_of m ht
      rw [ei] at h5
      simp only [Bool.and_eq_true, decide_eq_true_eq] at h5
      obtain ⟨z1, z2⟩ := iniAt ht ei
      obtain ⟨fd, g1, g2, g3, g4, g5, g6, g7⟩ := ini_at (P := M.p) (w := w) (mg := mg) (base := base) z1 h5.2 z2 rfl (free m.sup) m.opq tx4
      rw [h5.1] at g1 g2 g4
      refine ⟨He.ga K q.2.name, _, fd, i.fld, _, g1, g2, g3, g4, PySem.W.mg_of hK G h1, h3, ?_, h2, g5, fun z => by cases z⟩
      rw [h4]
      unfold ClT.fld
      rw [ei]
      rfl
    · cases e
end
end Vi
set_option Elab.async false
set_option linter.all false
set_option maxRecDepth 100000
set_option maxHeartbeats 4000000
/-! Vi43: the law, by the interpreter. -/
namespace Vi
open PySem PySem.Spec PyProof.Rows L2

theorem ints_rd {G : GI} {as : List Addr} {H : Hp} : ∀ ns : List Int, RDs G as H (ns.map W.int) (ns.map V.int)
  | [] => .nil
  | n :: ns => .cons (.int n) (ints_rd ns)
/-- what the interpreter must answer -/
def Plain (M : Txt) (fuel k g : Nat) : Prop := ∀ ns : List Int, ns.length ≤ 63 → (∀ z ∈ ns, Builtin.Int.intBits z ≤ 1048576) → ∃ s, callAt (M.pg fuel) k (.fn g) [.lst (ns.map W.int)] ⟨[], []⟩ = .ok (.bl true) s
section
variable {l : PySem.W.OpenLaw} {M : Txt} {fuel k g : Nat}
theorem law_walk {q : Program} {loose : List Str} {XP : (Str → Option Value) → Heap → Prop} {d : DefRec} {n : Nat} {d0 : DefT} {x : Str} (hp : l.prog = M.p) (hn : l.most = some 63) (hdf : d.params.defaults = []) (hd : d.name = ("law" : Str)) (hl : M.ci.defs.lookup ("law" : Str) = some g) (hg : M.dts[g]? = some d0) (hd0 : d0.ps = [x]) (hpl : plainD d0 = true) (tx : M.textB = true) (hr : Room (k + 2) callerA)
    (pl : Plain M fuel k g) : PySem.W.WalkO q loose XP (hookV n M).says l.row.toRowW d [] (fun f vs => PySem.call f vs) := by
  refine Att.attach_callB hn hdf fun w s0 s1 mg mb fa o pm cd doc a vs ns G Y ho hdd hcd hmg hobj hints hlen hbits hgen => ?_
  obtain ⟨K, KX, S⟩ := Y
  have cc : ∀ p ∈ M.tf.map (He.cT K), ∃ q ∈ M.tf, He.cT K q = p := fun p hp => List.mem_map.mp hp
  refine law_run (cs := M.tf.map (He.cT K)) KX G.T.g G.T.b G.T.builtins G.T.nolimit hgen (fun p hp => ?_) (fun p hp => ?_) (fun p hp => ?_) G.T.bmain hobj hints (Nat.le_trans hlen (by rw [sizeLine_eq]; decide)) fun base H kb nb TB e0 tab seq => ?_
  · obtain ⟨q, hq, rfl⟩ := cc p hp
    exact S.empty q hq
  · obtain ⟨q, hq, rfl⟩ := cc p hp
    exact S.out q hq
  · obtain ⟨q, hq, rfl⟩ := cc p hp
    exact PySem.W.codeHd_of_K KX (S.hd q hq)
  · have md : Mdl M.p w mg base (M.gi K) M.ci M.dts M.lts M.sub fuel := M.mdl KX S tx G.T.g TB
    rw [hp]
    rw [hp] at e0
    obtain ⟨f, fd, ps, h1, h2, F, B⟩ := (md.ciOk k).defs "law" g hl
    have ef : f = fa := by
      rw [← hd, hmg] at h1
      cases h1
      rfl
    subst ef
    obtain ⟨f', fd', d', dvs, kws, g1, g2, g3, g4, g5, g6⟩ := md.defs "law" g hl
    rw [hg] at g2
    cases g2
    rw [h1] at g1
    cases g1
    have la : Rd H a (.lst (ns.map V.int)) := by
      rcases seq with h | ⟨o, its, m, lk, c1, c2, c3, _⟩
      · exact h
      · have z := S.nol a o lk
        obtain ⟨oc, od, dt, sl⟩ := o
        dsimp only at c1 c3
        subst c1 c3
        cases z
    have hb : M.ci.binds g 1 [] = some (idPick d0.ps.length) := by
      show (match M.dts[g]? with
        | some d => if plainD d && decide (1 ≤ d.ps.length) && decide (([] : List Str) = d.ps.drop 1) then some (idPick d.ps.length) else none
        | none => none) = _
      rw [hg]
      dsimp only
      rw [hpl, hd0]
      rfl
    have lenPs : ps.length = 1 := by
      obtain ⟨zs, p1, p2, p3⟩ := (B 1 [] _ hb).to s1 [.ref f] [] KX rfl rfl
      rw [hd0] at p1
      have e : zs.length = 1 := by
        cases p1 with
        | arg _ r =>
          cases r
          rfl
      omega
    obtain ⟨zs, p1, p2, p3⟩ := (B 1 [] _ hb).to s1 [.ref f] [] KX rfl rfl
    rw [hd0] at p1
    have ez : zs = [.ref f] ∨ True := .inr trivial
    obtain ⟨zs2, q1, q2, q3⟩ := (B 1 [] _ hb).to s1 [.ref a] [] KX rfl rfl
    rw [hd0] at q1
    have ez2 : zs2 = [.ref a] := by
      cases q1 with
      | arg h r =>
        cases r
        have h : ([Value.ref a] ++ [])[0]? = some _ := h
        cases h
        rfl
    subst ez2
    obtain ⟨s, hs⟩ := pl ns hlen hbits
    refine F.run callerA [] s1 H ⟨[.ref a], []⟩ [.ref a] [.ref a] (fun v _ => v = .bl true) (fun _ _ _ => False) hr rfl e0 q3 (.cons rfl .nil) ⟨by rw [lenPs]; rfl, [], [], ⟨[], []⟩, [.lst (ns.map W.int)], ?_, .cons (.d (.lst la ⟨by simp, by simp [GI.g]⟩ (ints_rd ns))) .nil, ?_⟩
    · refine ⟨rfl, List.nodup_nil, (fun n a o h => by simp at h), (fun k hk => by cases hk), (fun k hk => by cases hk), fun p hp => ?_, (fun b hb => by cases hb)⟩
      obtain ⟨dd, hdm, rfl⟩ := List.mem_map.mp (show p ∈ M.tabs K from hp)
      exact LamX.TabS.nil (tab _ (List.mem_map.mpr ⟨_, List.mem_map.mpr ⟨dd, hdm, rfl⟩, rfl⟩))
    · have hs : callAt (pgOf M.ci M.dts M.lts M.sub fuel) k (.fn g) [.lst (ns.map W.int)] ⟨[], []⟩ = .ok (.bl true) s := hs
      rw [hs]
      intro as' H' _ _ v rv
      cases rv with
      | d r =>
        cases r
        rfl
end
end Vi
set_option Elab.async false
set_option linter.all false
/-! K88t: the text of k88. -/
namespace K88
open PySem PySem.Spec PyProof.Rows L2 Vi
def T : Vi.Txt := ⟨PySem.Challenge.pw_shufflebook_k88_values_written, ["_law_begun"], [(133, 12), (165, 12), (172, 11), (58, 16), (71, 19), (71, 23), (85, 17), (104, 23), (107, 29)], [0]⟩
end K88
set_option Elab.async false
set_option linter.all false
set_option maxRecDepth 100000
set_option maxHeartbeats 0
/-! K88a: the head of k88. -/
namespace K88
open PySem PySem.Spec PyProof.Rows L2 Vi

abbrev R : PySem.W.OpenRow := PySem.W.OpenLaw.row PySem.Challenge.rw_shufflebook_k88_values_written
abbrev hk : PySem.W.Hook := hookV 6 T
def ob (s : PySem.W.SharedT) : AlV := obsVG 6 T (HandSHeadRun.getT s)
theorem ob_eq (s : PySem.W.SharedT) : ob s = hk.obs s.abs := obsVG_eq (HandSHeadRun.getT_eq s)
def loose1 : List Str := ["ShuffleError", "NoName", "NoNumber", "NoThings", "NoOrder", "NoTable", "NoKind", "NoBook", "NoState", "NoExpression", "NoLaw", "NoDeed", "NoPast", "Twice", "NoText", "Used", "TooMany", "MOST_DEEP", "MOST_FIGURES", "MOST_NUMBER", "SMALL", "FIGURES", "is_word", "is_figure"]
def loose2 : List Str := ["is_value", "value_text", "pieces_of", "plain_of", "value_of", "read_value", "_law_begun", "_law_mixed", "_law_draw", "_law_pick", "_law_plain", "_law_is", "_law_value_text", "_law_caught", "_law_word", "_law_some_value", "_law_nested"]
def loose : List Str := loose1 ++ loose2
theorem text : T.textB = true := by kernel_rfl
abbrev lawAt : Nat := 44
theorem law_at : (HandSHeadRun.topDef R.prog lawAt).name = ("law" : Str) := by kernel_rfl
theorem run (w : World) : HandSHeadRun.RunEq R (PySem.W.view R.prog [lawAt]) hk ob 40000 loose w := by
  intro os
  kernel_rfl
end K88
set_option Elab.async false
set_option linter.all false
set_option maxRecDepth 100000
set_option maxHeartbeats 4000000
/-! K88b: the defs of k88 as combinators (printed by tools/Print.lean). -/
namespace K88
open PySem PySem.Spec PyProof.Rows L2 Vi
abbrev tx (x : String) : W := .str (Str.ofString x)
/-- is_word -/
def b0 : DS := (sSeq (sRet (dAnd (dIsi (dV 0) [.str]) (dAnd (d2 opNe (dV 0) (dC (tx ""))) (d1 bAll (dLc [1, 2] (diE (dV 0)) (dgName 2) tYes (d2 opIn (dV 2) (dC (tx "abcdefghijklmnopqrstuvwxyz"))))))))
 sPass)
theorem e0 : (T.dts[0]?).map (DefT.fd T.ci) = some ⟨1, 3, true, b0⟩ := by kernel_rfl

/-- is_figure -/
def b1 : DS := (sSeq (sRet (dAnd (dIsi (dV 0) [.int]) (dAnd (dNot (dIsi (dV 0) [.bool])) (d2 opLt (d1 bAbs (dV 0)) (dC (.int 1000000000000))))))
 sPass)
theorem e1 : (T.dts[1]?).map (DefT.fd T.ci) = some ⟨1, 1, true, b1⟩ := by kernel_rfl

/-- is_value -/
def b2 : DS := (sSeq (sSet (dLst (daCons (dV 0) daNil)) (dgName 1))
 (sSeq (sFor (diRange (dC (.int 60))) (dgName 2)
 (sSeq (sSet (dLstN daNil) (dgName 3))
 (sSeq (sFor (diE (dV 1)) (dgName 4)
 (sSeq (sIf (tAnd (tE (dIsi (dV 4) [.tup])) (tE (d2 opLt (dV 2) (d2 opSub (dC (.int 60)) (dC (.int 1))))))
 (sSeq (sExpr (dM2 .lst mExtend (dV 3) (dV 4)))
 sPass)
 (sSeq (sIf (tAnd (tE (d1 opNotN (dV 4))) (tAnd (tNot (tE (dCall 0 [.inl 0] (daCons (dV 4) daNil)))) (tNot (tE (dCall 1 [.inl 0] (daCons (dV 4) daNil))))))
 (sSeq (sRet (dC (.bl false)))
 sPass)
 sPass)
 sPass))
 sPass))
 (sSeq (sIf (tE (d2 opEq (dV 3) (dLst daNil)))
 (sSeq (sRet (dC (.bl true)))
 sPass)
 sPass)
 (sSeq (sSet (dV 3) (dgName 1))
 sPass)))))
 (sSeq (sRet (dC (.bl false)))
 sPass)))
theorem e2 : (T.dts[2]?).map (DefT.fd T.ci) = some ⟨1, 5, true, b2⟩ := by kernel_rfl

/-- value_text -/
def b3 : DS := (sSeq (sIf (tNot (tE (dCall 2 [.inl 0] (daCons (dV 0) daNil))))
 (sSeq (sRaise 14 [.inl 1] (daCons (dC (tx "no value")) (daCons (dC (.int 0)) daNil)))
 sPass)
 sPass)
 (sSeq (sPar [1, 2] (daCons (dLstN daNil) (daCons (dLstN (daCons (dV 0) daNil)) daNil)))
 (sSeq (sWhile (tE (d2 opNe (dV 2) (dLst daNil)))
 (sSeq (sSet (dM1 .lst mPop (dV 2)) (dgName 3))
 (sSeq (sIf (tE (dIsi (dV 3) [.lst]))
 (sSeq (sExpr (dM2 .lst mAppend (dV 1) (d2 opIx (dV 3) (dC (.int 0)))))
 sPass)
 (sSeq (sIf (tE (dIsi (dV 3) [.tup]))
 (sSeq (sExpr (dM2 .lst mAppend (dV 2) (dLst (daCons (dC (tx ")")) daNil))))
 (sSeq (sFor (diEnumRev (dV 3)) (dgTup 2 (dgCons (dgName 4) (dgCons (dgName 5) dgNil)))
 (sSeq (sExpr (dM2 .lst mExtend (dV 2) (dIf (tE (d2 opEq (dV 4) (d2 opSub (d1 bLen (dV 3)) (dC (.int 1))))) (dLst (daCons (dV 5) daNil)) (dLst (daCons (dV 5) (daCons (dLst (daCons (dC (tx " ")) daNil)) daNil))))))
 sPass))
 (sSeq (sExpr (dM2 .lst mAppend (dV 2) (dLst (daCons (dC (tx "(")) daNil))))
 sPass)))
 (sSeq (sExpr (dM2 .lst mAppend (dV 1) (dIf (tE (d1 opIsN (dV 3))) (dC (tx "-")) (d1 bStr (dV 3)))))
 sPass))
 sPass))
 sPass)))
 (sSeq (sRet (dM2 .str (pureM bJoin) (dC (tx "")) (dV 1)))
 sPass))))
theorem e3 : (T.dts[3]?).map (DefT.fd T.ci) = some ⟨1, 6, true, b3⟩ := by kernel_rfl

/-- pieces_of -/
def b4 : DS := (sSeq (sPar [1, 2] (daCons (dLstN daNil) (daCons (dC (.int 0)) daNil)))
 (sSeq (sWhile (tE (d2 opLt (dV 2) (d1 bLen (dV 0))))
 (sSeq (sSet (d2 opAdd (dV 2) (dC (.int 1))) (dgName 3))
 (sSeq (sIf (tE (d2 opNotIn (d2 opIx (dV 0) (dV 2)) (dC (tx "() "))))
 (sSeq (sWhile (tAnd (tE (d2 opLt (dV 3) (d1 bLen (dV 0)))) (tE (d2 opNotIn (d2 opIx (dV 0) (dV 3)) (dC (tx "() ")))))
 (sSeq (sAug 3 opAddI (dC (.int 1)))
 sPass))
 sPass)
 sPass)
 (sSeq (sExpr (dM2 .lst mAppend (dV 1) (dSlice (dV 0) (some (dV 2)) (some (dV 3)))))
 (sSeq (sSet (dV 3) (dgName 2))
 sPass)))))
 (sSeq (sRet (dV 1))
 sPass)))
theorem e4 : (T.dts[4]?).map (DefT.fd T.ci) = some ⟨1, 4, true, b4⟩ := by kernel_rfl

/-- plain_of -/
def b5 : DS := (sSeq (sIf (tE (d2 opEq (dV 0) (dC (tx "-"))))
 (sSeq (sRet (dLst (daCons (dC .non) daNil)))
 sPass)
 sPass)
 (sSeq (sIf (tE (dCall 0 [.inl 0] (daCons (dV 0) daNil)))
 (sSeq (sRet (dLst (daCons (dV 0) daNil)))
 sPass)
 sPass)
 (sSeq (sSet (dIf (tE (d2 opEq (dSlice (dV 0) none (some (dC (.int 1)))) (dC (tx "-")))) (dSlice (dV 0) (some (dC (.int 1))) none) (dV 0)) (dgName 1))
 (sSeq (sIf (tOr (tNot (tE (dChain opLe opLe (dC (.int 1)) (d1 bLen (dV 1)) (dC (.int 12))))) (tNot (tE (d1 bAll (dLc [2, 3] (diE (dV 1)) (dgName 3) tYes (d2 opIn (dV 3) (dC (tx "0123456789"))))))))
 (sSeq (sRet (dLst daNil))
 sPass)
 sPass)
 (sSeq (sRet (dIf (tE (d2 opEq (d1 bStr (d1 bInt (dV 0))) (dV 0))) (dLst (daCons (d1 bInt (dV 0)) daNil)) (dLst daNil)))
 sPass)))))
theorem e5 : (T.dts[5]?).map (DefT.fd T.ci) = some ⟨1, 4, true, b5⟩ := by kernel_rfl

/-- value_of -/
def b6 : DS := (sSeq (sPar [1, 2] (daCons (dLstN daNil) (daCons (dLst daNil) daNil)))
 (sSeq (sFor (diE (dV 0)) (dgName 3)
 (sSeq (sIf (tE (d2 opEq (dV 3) (dC (tx "("))))
 (sSeq (sExpr (dM2 .lst mAppend (dV 1) (dLstN daNil)))
 (sSeq sCnt
 sPass))
 sPass)
 (sSeq (sIf (tE (d2 opEq (dV 3) (dC (tx " "))))
 (sSeq sCnt
 sPass)
 sPass)
 (sSeq (sIf (tE (d2 opEq (dV 3) (dC (tx ")"))))
 (sSeq (sIf (tE (d2 opEq (dV 1) (dLst daNil)))
 (sSeq (sRet (dLst daNil))
 sPass)
 sPass)
 (sSeq (sSet (dLst (daCons (d1 bTuple (dM1 .lst mPop (dV 1))) daNil)) (dgName 4))
 sPass))
 (sSeq (sSet (dCall 5 [.inl 0] (daCons (dV 3) daNil)) (dgName 4))
 sPass))
 (sSeq (sIf (tOr (tE (d2 opEq (dV 4) (dLst daNil))) (tAnd (tE (d2 opEq (dV 1) (dLst daNil))) (tE (d2 opNe (dV 2) (dLst daNil)))))
 (sSeq (sRet (dLst daNil))
 sPass)
 sPass)
 (sSeq (sIf (tE (d2 opEq (dV 1) (dLst daNil)))
 (sSeq (sSet (dV 4) (dgName 2))
 sPass)
 (sSeq (sExpr (dM2 .lst mAppend (d2 opIx (dV 1) (d1 opNeg (dC (.int 1)))) (d2 opIx (dV 4) (dC (.int 0)))))
 sPass))
 sPass))))))
 (sSeq (sRet (dIf (tE (d2 opEq (dV 1) (dLst daNil))) (dV 2) (dLst daNil)))
 sPass)))
theorem e6 : (T.dts[6]?).map (DefT.fd T.ci) = some ⟨1, 5, true, b6⟩ := by kernel_rfl

/-- read_value -/
def b7 : DS := (sSeq (sIf (tNot (tE (dIsi (dV 0) [.str])))
 (sSeq (sRaise 14 [.inl 1] (daCons (dC (tx "no text")) (daCons (dC (.int 0)) daNil)))
 sPass)
 sPass)
 (sSeq (sSet (dCall 6 [.inl 0] (daCons (dCall 4 [.inl 0] (daCons (dV 0) daNil)) daNil)) (dgName 1))
 (sSeq (sIf (tOr (tE (d2 opEq (dV 1) (dLst daNil))) (tOr (tNot (tE (dCall 2 [.inl 0] (daCons (d2 opIx (dV 1) (dC (.int 0))) daNil)))) (tE (d2 opNe (dCall 3 [.inl 0] (daCons (d2 opIx (dV 1) (dC (.int 0))) daNil)) (dV 0)))))
 (sSeq (sRaise 14 [.inl 1] (daCons (dC (tx "no text of a value")) (daCons (dC (.int 0)) daNil)))
 sPass)
 sPass)
 (sSeq (sRet (d2 opIx (dV 1) (dC (.int 0))))
 sPass))))
theorem e7 : (T.dts[7]?).map (DefT.fd T.ci) = some ⟨1, 2, true, b7⟩ := by kernel_rfl

/-- _law_begun -/
def b8 : DS := (sSeq (sSet (dLcN [2, 3] (diE (dV 0)) (dgName 3) (tE (d2 opGe (d1 bAbs (dV 3)) (d2 opPow (dC (.int 10)) (dC (.int 18))))) (d2 opSub (d1 bAbs (dV 3)) (d2 opPow (dC (.int 10)) (dC (.int 18))))) (dgName 1))
 (sSeq (sRet (dDisp [((dC (tx "great")), (dV 1)), ((dC (tx "cells")), (dLc [2, 3] (diE (dV 0)) (dgName 3) tYes (d1 bAbs (dV 3)))), ((dC (tx "rest")), (dC (.int 0))), ((dC (tx "turn")), (dC (.int 0)))]))
 sPass))
theorem e8 : (T.dts[8]?).map (DefT.fd T.ci) = some ⟨1, 4, false, b8⟩ := by kernel_rfl

/-- _law_mixed -/
def b9 : DS := (sSeq (sPar [1, 2] (daCons (d2 opAdd (d2 opIx (dV 0) (dC (tx "turn"))) (dC (.int 1))) (daCons (dC (.int 0)) daNil)))
 (sSeq (sPutK (dV 1) (dV 0) (dC (tx "turn")))
 (sSeq (sFor (diE (dLst (daCons (dC (.int 2147483629)) (daCons (dC (.int 2147483587)) (daCons (dC (.int 2147483579)) (daCons (dC (.int 2147483563)) daNil)))))) (dgName 3)
 (sSeq (sSet (d2 opAdd (d2 opMul (dC (.int 69621)) (dV 1)) (d2 opFdiv (dV 3) (dC (.int 41)))) (dgName 4))
 (sSeq (sFor (diE (d2 opIx (dV 0) (dC (tx "cells")))) (dgName 5)
 (sSeq (sSet (d2 opMod (d1 bInt (d2 opAdd (d2 opAdd (d2 opMul (dV 4) (dC (.int 48271))) (dV 5)) (dV 1))) (dV 3)) (dgName 4))
 sPass))
 (sSeq (sSet (d2 opAdd (d2 opMul (dV 2) (dC (.int 2147483659))) (d2 opMod (d1 bInt (d2 opPow (dV 4) (dC (.int 5)))) (dV 3))) (dgName 2))
 sPass))))
 (sSeq (sRet (dV 2))
 sPass))))
theorem e9 : (T.dts[9]?).map (DefT.fd T.ci) = some ⟨1, 6, true, b9⟩ := by kernel_rfl

/-- _law_draw -/
def b10 : DS := (sSeq (sIf (tE (d2 opEq (d2 opIx (dV 0) (dC (tx "rest"))) (dC (.int 0))))
 (sSeq (sPutK (dIf (tE (d2 opNe (d2 opIx (dV 0) (dC (tx "great"))) (dLst daNil))) (dM2 .lst mPopAt (d2 opIx (dV 0) (dC (tx "great"))) (dC (.int 0))) (dCall 9 [.inl 0] (daCons (dV 0) daNil))) (dV 0) (dC (tx "rest")))
 sPass)
 sPass)
 (sSeq (sSet (d2 opMod (d1 bInt (d2 opIx (dV 0) (dC (tx "rest")))) (dV 1)) (dgName 2))
 (sSeq (sPutK (d2 opFdiv (d2 opIx (dV 0) (dC (tx "rest"))) (dV 1)) (dV 0) (dC (tx "rest")))
 (sSeq (sRet (dV 2))
 sPass))))
theorem e10 : (T.dts[10]?).map (DefT.fd T.ci) = some ⟨2, 3, true, b10⟩ := by kernel_rfl

/-- _law_pick -/
def b11 : DS := (sSeq (sRet (d2 opIx (dV 1) (dCall 10 [.inl 0, .inl 1] (daCons (dV 0) (daCons (d1 bLen (dV 1)) daNil)))))
 sPass)
theorem e11 : (T.dts[11]?).map (DefT.fd T.ci) = some ⟨2, 2, true, b11⟩ := by kernel_rfl

/-- _law_plain -/
def b12 : DS := (sSeq (sIf (tE (dIsi (dV 0) [.lst, .tup]))
 (sSeq (sRet (d2 opEq (dLc [1, 2] (diE (dV 0)) (dgName 2) (tNot (tE (dCall 12 [.inl 0] (daCons (dV 2) daNil)))) (dC (.int 1))) (dLst daNil)))
 sPass)
 sPass)
 (sSeq (sIf (tE (dIsi (dV 0) [.dct]))
 (sSeq (sRet (dCall 12 [.inl 0] (daCons (d1 bList dBad) daNil)))
 sPass)
 sPass)
 (sSeq (sRet (dOr (d1 opIsN (dV 0)) (dIsi (dV 0) [.int, .str])))
 sPass)))
theorem e12 : (T.dts[12]?).map (DefT.fd T.ci) = some ⟨1, 3, true, b12⟩ := by kernel_rfl

/-- _law_is -/
def b13 : DS := (sSeq (sRet (dAnd (dCall 12 [.inl 0] (daCons (dV 0) daNil)) (dAnd (d2 opEq (dV 0) (dV 1)) (dAnd (d2 opEq (dV 1) (dV 0)) (dRepEq (dV 0) (dV 1))))))
 sPass)
theorem e13 : (T.dts[13]?).map (DefT.fd T.ci) = some ⟨2, 2, true, b13⟩ := by kernel_rfl

/-- _law_value_text -/
def b14 : DS := (sSeq (sIf (tE (dIsi (dV 0) [.tup]))
 (sSeq (sRet (d2 opAdd (d2 opAdd (dC (tx "(")) (dM2 .str (pureM bJoin) (dC (tx " ")) (dLc [1, 2] (diE (dV 0)) (dgName 2) tYes (dCall 14 [.inl 0] (daCons (dV 2) daNil))))) (dC (tx ")"))))
 sPass)
 sPass)
 (sSeq (sRet (dIf (tE (d1 opIsN (dV 0))) (dC (tx "-")) (d1 bStr (dV 0))))
 sPass))
theorem e14 : (T.dts[14]?).map (DefT.fd T.ci) = some ⟨1, 3, true, b14⟩ := by kernel_rfl

/-- _law_caught -/
def b15 : DS := (sSeq (sSet (dLstN daNil) (dgName 1))
 (sSeq (sTryApp 0 (dCallV 0 daNil) 1 2)
 (sSeq (sRet (dIf (tE (d2 opNe (dV 1) (dLst daNil))) (d2 opIx (dV 1) (dC (.int 0))) (dC .non)))
 sPass)))
theorem e15 : (T.dts[15]?).map (DefT.fd T.ci) = some ⟨1, 3, true, b15⟩ := by kernel_rfl

/-- _law_word -/
def b16 : DS := (sSeq (sSet (dLstN daNil) (dgName 4))
 (sSeq (sSet (dCallLam 15 [.inl 0] daNil 0 [0, 4]) (dgName 1))
 (sSeq (sIf (tE (d1 opIsN (dV 1)))
 (sSeq (sRet (d2 opIx (dV 4) (dC (.int 0))))
 sPass)
 sPass)
 (sSeq (sIf (tE (dIsi (dV 1) [.cls 15]))
 (sSeq (sRet (dTup (daCons (dC (tx "used")) (daCons (d1 (opFldX [(15, 0)]) (dV 1)) daNil))))
 sPass)
 sPass)
 (sSeq (sIf (tE (dIsi (dV 1) [.cls 16]))
 (sSeq (sRet (dTup (daCons (dC (tx "many")) (daCons (d1 (opFldX [(16, 0)]) (dV 1)) daNil))))
 sPass)
 sPass)
 (sSeq (sIf (tE (dIsi (dV 1) [.cls 14]))
 (sSeq (sRet (dTup (daCons (dC (tx "text")) (daCons (d1 (opFldX [(14, 0)]) (dV 1)) daNil))))
 sPass)
 sPass)
 (sSeq (sFor (diE (dLst (daCons (dTup (daCons (dC (tx "name")) (daCons (dIsi (dV 1) [.cls 1]) daNil))) (daCons (dTup (daCons (dC (tx "twice")) (daCons (dIsi (dV 1) [.cls 13]) daNil))) (daCons (dTup (daCons (dC (tx "table")) (daCons (dIsi (dV 1) [.cls 5]) daNil))) (daCons (dTup (daCons (dC (tx "deed")) (daCons (dIsi (dV 1) [.cls 11]) daNil))) (daCons (dTup (daCons (dC (tx "order")) (daCons (dIsi (dV 1) [.cls 4]) daNil))) (daCons (dTup (daCons (dC (tx "number")) (daCons (dIsi (dV 1) [.cls 2]) daNil))) (daCons (dTup (daCons (dC (tx "past")) (daCons (dIsi (dV 1) [.cls 12]) daNil))) (daCons (dTup (daCons (dC (tx "expression")) (daCons (dIsi (dV 1) [.cls 9]) daNil))) (daCons (dTup (daCons (dC (tx "law")) (daCons (dIsi (dV 1) [.cls 10]) daNil))) (daCons (dTup (daCons (dC (tx "kind")) (daCons (dIsi (dV 1) [.cls 6]) daNil))) (daCons (dTup (daCons (dC (tx "things")) (daCons (dIsi (dV 1) [.cls 3]) daNil))) (daCons (dTup (daCons (dC (tx "book")) (daCons (dIsi (dV 1) [.cls 7]) daNil))) (daCons (dTup (daCons (dC (tx "state")) (daCons (dIsi (dV 1) [.cls 8]) daNil))) daNil))))))))))))))) (dgTup 2 (dgCons (dgName 2) (dgCons (dgName 3) dgNil)))
 (sSeq (sIf (tE (dV 3))
 (sSeq (sRet (dV 2))
 sPass)
 sPass)
 sPass))
 (sSeq (sRet (dC (tx "other")))
 sPass))))))))
theorem e16 : (T.dts[16]?).map (DefT.fd T.ci) = some ⟨1, 5, true, b16⟩ := by kernel_rfl

/-- _law_some_value -/
def b17 : DS := (sSeq (sSet (dIf (tE (d2 opGt (dV 1) (dC (.int 0)))) (dCall 10 [.inl 0, .inl 1] (daCons (dV 0) (daCons (dC (.int 6)) daNil))) (dCall 10 [.inl 0, .inl 1] (daCons (dV 0) (daCons (dC (.int 3)) daNil)))) (dgName 2))
 (sSeq (sIf (tE (d2 opEq (dV 2) (dC (.int 0))))
 (sSeq (sRet (dCall 11 [.inl 0, .inl 1] (daCons (dV 0) (daCons (dLst (daCons (dC (tx "a")) (daCons (dC (tx "on")) (daCons (dC (tx "zz")) (daCons (dC (tx "entry")) (daCons (dC (tx "abcdefghijklm")) daNil)))))) daNil))))
 sPass)
 sPass)
 (sSeq (sIf (tE (d2 opEq (dV 2) (dC (.int 1))))
 (sSeq (sRet (dCall 11 [.inl 0, .inl 1] (daCons (dV 0) (daCons (dLst (daCons (dC (.int 0)) (daCons (dC (.int 1)) (daCons (d2 opSub (dC (.int 0)) (dC (.int 1))) (daCons (dC (.int 7)) (daCons (d2 opSub (dC (.int 0)) (dC (.int 42))) (daCons (dC (.int 999999999999)) (daCons (d2 opSub (dC (.int 0)) (dC (.int 999999999999))) daNil)))))))) daNil))))
 sPass)
 sPass)
 (sSeq (sIf (tE (d2 opEq (dV 2) (dC (.int 2))))
 (sSeq (sRet (dC .non))
 sPass)
 sPass)
 (sSeq (sRet (d1 bTuple (dLc [3, 4] (diRange (dCall 10 [.inl 0, .inl 1] (daCons (dV 0) (daCons (dC (.int 4)) daNil)))) (dgName 4) tYes (dCall 17 [.inl 0, .inl 1] (daCons (dV 0) (daCons (d2 opSub (dV 1) (dC (.int 1))) daNil))))))
 sPass)))))
theorem e17 : (T.dts[17]?).map (DefT.fd T.ci) = some ⟨2, 5, true, b17⟩ := by kernel_rfl

/-- _law_nested -/
def b18 : DS := (sSeq (sFor (diRange (dV 0)) (dgName 2)
 (sSeq (sSet (dTup (daCons (dV 1) daNil)) (dgName 1))
 sPass))
 (sSeq (sRet (dV 1))
 sPass))
theorem e18 : (T.dts[18]?).map (DefT.fd T.ci) = some ⟨2, 3, true, b18⟩ := by kernel_rfl

/-- law -/
def b19 : DS := (sSeq (sSet (dCall 8 [.inl 0] (daCons (dV 0) daNil)) (dgName 1))
 (sSeq (sFor (diE (dLst (daCons (dC (tx "A")) (daCons (dC (tx "")) (daCons (dC (tx "a b")) (daCons (dC (tx "a1")) (daCons (dC (tx "-")) (daCons (d2 opPow (dC (.int 10)) (dC (.int 12))) (daCons (d2 opSub (dC (.int 0)) (d2 opPow (dC (.int 10)) (dC (.int 12)))) (daCons (dC (.bl true)) (daCons (dLst (daCons (dC (tx "a")) daNil)) (daCons (dTup (daCons (dC (tx "a")) (daCons (dLst (daCons (dC (tx "b")) daNil)) daNil))) (daCons (dTup (daCons (dC (tx "a")) (daCons (dC (tx "B")) daNil))) (daCons (dCall 18 [.inl 0, .inl 1] (daCons (dC (.int 60)) (daCons (dC (tx "a")) daNil))) (daCons (dTup (daCons (dC (tx "a")) (daCons (dC (.bl true)) daNil))) daNil))))))))))))))) (dgName 10)
 (sSeq (sIf (tE (d2 opNe (dCallLam 16 [.inl 0] daNil 2 [10]) (dTup (daCons (dC (tx "text")) (daCons (dC (.int 0)) daNil)))))
 (sSeq (sRet (dC (.bl false)))
 sPass)
 sPass)
 sPass))
 (sSeq (sSet (dCall 18 [.inl 0, .inl 1] (daCons (dC (.int 59)) (daCons (dC (tx "a")) daNil))) (dgName 2))
 (sSeq (sIf (tOr (tNot (tE (dCall 13 [.inl 0, .inl 1] (daCons (dCall 3 [.inl 0] (daCons (dV 2) daNil)) (daCons (d2 opAdd (d2 opAdd (d2 opMul (dC (tx "(")) (dC (.int 59))) (dC (tx "a"))) (d2 opMul (dC (tx ")")) (dC (.int 59)))) daNil))))) (tOr (tE (d2 opNe (dCall 7 [.inl 0] (daCons (d2 opAdd (d2 opAdd (d2 opMul (dC (tx "(")) (dC (.int 59))) (dC (tx "a"))) (d2 opMul (dC (tx ")")) (dC (.int 59)))) daNil)) (dV 2))) (tE (d2 opNe (dCallLam 16 [.inl 0] daNil 4 []) (dTup (daCons (dC (tx "text")) (daCons (dC (.int 0)) daNil)))))))
 (sSeq (sRet (dC (.bl false)))
 sPass)
 sPass)
 (sSeq (sFor (diE (dLst (daCons (dC .non) (daCons (dC (.int 5)) (daCons (dC (tx "")) (daCons (dC (tx " ")) (daCons (dC (tx "A")) (daCons (dC (tx "a b")) (daCons (dC (tx "01")) (daCons (dC (tx "-0")) (daCons (dC (tx "--1")) (daCons (dC (tx "+1")) (daCons (dC (tx "1000000000000")) (daCons (dC (tx "(")) (daCons (dC (tx ")")) (daCons (dC (tx "(a")) (daCons (dC (tx "a)")) (daCons (dC (tx "(a))")) (daCons (dC (tx "( a)")) (daCons (dC (tx "(a )")) (daCons (dC (tx "(a  b)")) (daCons (dC (tx "()()")) (daCons (dC (tx "(a)(b)")) (daCons (dC (tx "a()")) (daCons (dC (tx "1a")) (daCons (dC (tx "a1")) (daCons (dC (tx "- 1")) (daCons (dC (tx "(-)-")) (daCons (dC (tx "(a\nb)")) (daCons (dC (tx "1/2")) daNil)))))))))))))))))))))))))))))) (dgName 10)
 (sSeq (sIf (tE (d2 opNe (dCallLam 16 [.inl 0] daNil 3 [10]) (dTup (daCons (dC (tx "text")) (daCons (dC (.int 0)) daNil)))))
 (sSeq (sRet (dC (.bl false)))
 sPass)
 sPass)
 sPass))
 (sSeq (sFor (diRange (d2 opAdd (dC (.int 8)) (d2 bMin2 (d1 bLen (dV 0)) (dC (.int 10))))) (dgName 3)
 (sSeq (sPar [4, 5] (daCons (dCall 17 [.inl 0, .inl 1] (daCons (dV 1) (daCons (dC (.int 3)) daNil))) (daCons (dCall 17 [.inl 0, .inl 1] (daCons (dV 1) (daCons (dC (.int 3)) daNil))) daNil)))
 (sSeq (sSet (dCall 14 [.inl 0] (daCons (dV 4) daNil)) (dgName 6))
 (sSeq (sIf (tOr (tNot (tE (dCall 13 [.inl 0, .inl 1] (daCons (dCall 3 [.inl 0] (daCons (dV 4) daNil)) (daCons (dV 6) daNil))))) (tOr (tNot (tE (dCall 13 [.inl 0, .inl 1] (daCons (dCall 7 [.inl 0] (daCons (dV 6) daNil)) (daCons (dV 4) daNil))))) (tOr (tNot (tE (dCall 13 [.inl 0, .inl 1] (daCons (dCall 7 [.inl 0] (daCons (dV 6) daNil)) (daCons (dV 4) daNil))))) (tNot (tE (dCall 13 [.inl 0, .inl 1] (daCons (dCall 3 [.inl 0] (daCons (dV 4) daNil)) (daCons (dV 6) daNil))))))))
 (sSeq (sRet (dC (.bl false)))
 sPass)
 sPass)
 (sSeq (sIf (tE (d2 opNe (d2 opEq (dCall 3 [.inl 0] (daCons (dV 4) daNil)) (dCall 3 [.inl 0] (daCons (dV 5) daNil))) (d2 opEq (dV 4) (dV 5))))
 (sSeq (sRet (dC (.bl false)))
 sPass)
 sPass)
 (sSeq (sSet (dCall 10 [.inl 0, .inl 1] (daCons (dV 1) (daCons (d2 opAdd (d1 bLen (dV 6)) (dC (.int 1))) daNil))) (dgName 7))
 (sSeq (sSet (dCall 11 [.inl 0, .inl 1] (daCons (dV 1) (daCons (dLst (daCons (d2 opAdd (d2 opAdd (dSlice (dV 6) none (some (dV 7))) (dCall 11 [.inl 0, .inl 1] (daCons (dV 1) (daCons (dLst (daCons (dC (tx "(")) (daCons (dC (tx ")")) (daCons (dC (tx " ")) (daCons (dC (tx "A")) daNil))))) daNil)))) (dSlice (dV 6) (some (dV 7)) none)) (daCons (d2 opAdd (dSlice (dV 6) none (some (dV 7))) (dSlice (dV 6) (some (d2 opAdd (dV 7) (dC (.int 1)))) none)) daNil))) daNil))) (dgName 9))
 (sSeq (sSet (dCallLam 16 [.inl 0] daNil 1 [9]) (dgName 8))
 (sSeq (sIf (tAnd (tE (d2 opNe (dV 8) (dTup (daCons (dC (tx "text")) (daCons (dC (.int 0)) daNil))))) (tOr (tNot (tE (dCall 12 [.inl 0] (daCons (dV 8) daNil)))) (tE (d2 opNe (dCall 14 [.inl 0] (daCons (dV 8) daNil)) (dV 9)))))
 (sSeq (sRet (dC (.bl false)))
 sPass)
 sPass)
 sPass)))))))))
 (sSeq (sRet (dC (.bl true)))
 sPass)))))))
theorem e19 : (T.dts[19]?).map (DefT.fd T.ci) = some ⟨1, 11, true, b19⟩ := by kernel_rfl

def l0 : DE := (dM2 .lst mAppend (dV 1) (dCallV 0 daNil))
theorem f0 : (T.lts[0]?).map (ldOf T.ci) = some ⟨2, 0, l0⟩ := by kernel_rfl

def l1 : DE := (dCall 7 [.inl 0] (daCons (dV 0) daNil))
theorem f1 : (T.lts[1]?).map (ldOf T.ci) = some ⟨1, 0, l1⟩ := by kernel_rfl

def l2 : DE := (dCall 3 [.inl 0] (daCons (dV 0) daNil))
theorem f2 : (T.lts[2]?).map (ldOf T.ci) = some ⟨1, 0, l2⟩ := by kernel_rfl

def l3 : DE := (dCall 7 [.inl 0] (daCons (dV 0) daNil))
theorem f3 : (T.lts[3]?).map (ldOf T.ci) = some ⟨1, 0, l3⟩ := by kernel_rfl

def l4 : DE := (dCall 7 [.inl 0] (daCons (d2 opAdd (d2 opAdd (d2 opMul (dC (tx "(")) (dC (.int 60))) (dC (tx "a"))) (d2 opMul (dC (tx ")")) (dC (.int 60)))) daNil))
theorem f4 : (T.lts[4]?).map (ldOf T.ci) = some ⟨0, 0, l4⟩ := by kernel_rfl

end K88
set_option Elab.async false
set_option linter.all false
set_option maxRecDepth 100000
set_option maxHeartbeats 4000000
/-! K88c: calls of k88's defs, by the interpreter: words, figures. -/
namespace K88
open PySem Vi

/-- the text of these codes -/
abbrev Tx (l : List Nat) : Str := SX.S l

abbrev pg : Pg := T.pg 100000
theorem call_fn {d : FD} {g k : Nat} {l : List W} {s : Vi.S} (h : (T.dts[g]?).map (DefT.fd T.ci) = some d) (hl : l.length = d.np) : callAt pg (k + 1) (.fn g) l s = leave d.fz s (d.body (ctAt pg k) (startEnv d.ns l) s.enter) := by
  have e : pg.defs[g]? = some d := by
    show (T.dts.map (DefT.fd T.ci))[g]? = _
    rw [List.getElem?_map]
    exact h
  show (match pg.defs[g]? with
    | some d => if l.length = d.np then leave d.fz s (d.body ⟨callAt pg k, pg.fuel, pg.sub⟩ (startEnv d.ns l) s.enter) else .bad
    | none => .bad) = _
  rw [e]
  exact if_pos hl
theorem call_clo {d : LD} {j k : Nat} {cs l : List W} {s : Vi.S} (h : (T.lts[j]?).map (ldOf T.ci) = some d) (hl : l.length = d.np ∧ cs.length = d.nc) : callAt pg (k + 1) (.clo j cs) l s = leave true s (retOf (d.body (ctAt pg k) ((cs ++ l).map some) s.enter)) := by
  have e : pg.lams[j]? = some d := by
    show (T.lts.map (ldOf T.ci))[j]? = _
    rw [List.getElem?_map]
    exact h
  show (match pg.lams[j]? with
    | some d => if l.length = d.np ∧ cs.length = d.nc then leave true s (retOf (d.body ⟨callAt pg k, pg.fuel, pg.sub⟩ ((cs ++ l).map some) s.enter)) else .bad
    | none => .bad) = _
  rw [e]
  exact if_pos hl
/-- no place in it -/
def free (w : W) : Prop := ∀ n, belowW n w = true
theorem back_eq {s : Vi.S} {o : List O} (h : o.take s.objs.length = s.objs) (t : List Nat) (ht : t = s.keep) (k : List Nat) : Vi.S.back s ⟨o, k⟩ t = s := by
  subst ht
  unfold Vi.S.back keptBy
  rw [if_pos rfl]
  show (⟨o.take s.objs.length, s.keep⟩ : Vi.S) = s
  rw [h]
theorem leave_rt {s s1 : Vi.S} {w : W} (d : isD w = true) (f : free w) (hk : s1.keep = s.objs.length :: s.keep) (ho : s1.objs.take s.objs.length = s.objs) : leave true s (.ok (.rt w) s1) = .ok w s := by
  obtain ⟨o, k⟩ := s1
  have hk : k = s.objs.length :: s.keep := hk
  subst hk
  show (if isD w then (if true = true ∧ s.objs.length = s.objs.length then (if belowW s.objs.length w then Res.ok w (Vi.S.back s ⟨o, _⟩ s.keep) else _) else _) else .bad) = _
  rw [if_pos d, if_pos ⟨rfl, rfl⟩, if_pos (f _), back_eq ho _ rfl]
theorem leave_nx {s s1 : Vi.S} {e : Vi.Env} (hk : s1.keep = s.objs.length :: s.keep) (ho : s1.objs.take s.objs.length = s.objs) : leave true s (.ok (.nx e) s1) = .ok .non s := leave_rt (w := .non) rfl (fun _ => rfl) hk ho
theorem leave_ex {s s1 : Vi.S} {x : W} (f : free x) (hk : s1.keep = s.objs.length :: s.keep) (ho : s1.objs.take s.objs.length = s.objs) : leave true s (.exc x s1) = .exc x s := by
  obtain ⟨o, k⟩ := s1
  have hk : k = s.objs.length :: s.keep := hk
  subst hk
  show (if (decide (s.objs.length = s.objs.length) && belowW s.objs.length x) = true then Res.exc x (Vi.S.back s ⟨o, _⟩ s.keep) else _) = _
  rw [f, decide_eq_true rfl]
  show Res.exc x (Vi.S.back s ⟨o, _⟩ s.keep) = _
  rw [back_eq ho _ rfl]
theorem take_self (s : Vi.S) : s.enter.objs.take s.objs.length = s.objs := List.take_length
/-- the call answers w and leaves the state as it is -/
def Ret (k : Nat) (f : W) (l : List W) (w : W) : Prop := ∀ s, callAt pg k f l s = .ok w s
def Thr (k : Nat) (f : W) (l : List W) (x : W) : Prop := ∀ s, callAt pg k f l s = .exc x s

/-! ### words -/
def smallL (c : Nat) : Bool := decide (97 ≤ c) && decide (c ≤ 122)
def isWordL (l : List Nat) : Bool := !(l == []) && l.all smallL
def isWordW : W → Bool
  | .str x => isWordL x.cps.toList
  | _ => false
theorem hasSub_one (c : Nat) (y : Str) : hasSub ⟨#[c]⟩ y = decide (c ∈ y.cps.toList) := SX.in_one y.cps.toList c
theorem signs_S (l : List Nat) : Vi.signs (Tx l) = l.map fun c => W.str ⟨#[c]⟩ := rfl
/-- a comprehension that changes nothing -/
theorem lc_pure {c : Ct} {env : Vi.Env} {s : Vi.S} {i : Nat} {e : DE} {f : W → W} : ∀ {l : List W}, (∀ x ∈ l, e c (env.set i (some x)) s = .ok (f x) s ∧ isD (f x) = true) → lcLoop (dgName i) tYes e c env l s = .ok (l.map f) s
  | [], _ => rfl
  | x :: r, h => by
    obtain ⟨h1, h2⟩ := h x List.mem_cons_self
    have ih := lc_pure (l := r) fun y hy => h y (List.mem_cons_of_mem _ hy)
    show (match e c (env.set i (some x)) s with
      | .ok y s => if isD y then (match lcLoop (dgName i) tYes e c env r s with
        | .ok ys s => Res.ok (y :: ys) s
        | _ => .bad) else .bad
      | _ => .bad) = _
    rw [h1]
    show (if isD (f x) then _ else _) = _
    rw [if_pos h2, ih]
    rfl
theorem dLc_map {vs : List Nat} {i : Nat} {di : DI} {e : DE} {c : Ct} {env : Vi.Env} {s s1 : Vi.S} {l : List W} {f : W → W} (hi : di c env s = .ok (.inl l) s1) (h : ∀ x ∈ l, e c ((wipeE env vs).set i (some x)) s1 = .ok (f x) s1 ∧ isD (f x) = true) (hl : l.length ≤ sizeMax) :
    dLc vs di (dgName i) Vi.tYes e c env s = .ok (.lst (l.map f)) s1 := by
  have lp := lc_pure h
  unfold dLc lcAll
  rw [hi]
  show (Res.bind (match lcLoop (dgName i) Vi.tYes e c (wipeE env vs) l s1 with
    | .ok ys s => if decide (ys.length ≤ sizeMax) then Res.ok ys s else .bad
    | _ => .bad) fun ys s => Res.ok (W.lst ys) s) = _
  rw [lp]
  show (Res.bind (if decide ((l.map f).length ≤ sizeMax) = true then Res.ok (l.map f) s1 else .bad) fun ys s => Res.ok (W.lst ys) s) = _
  rw [if_pos (decide_eq_true (by rw [List.length_map]; exact hl))]
  rfl
theorem d1_ok {f : Vi.S → W → Option W} {a : DE} {c : Ct} {env : Vi.Env} {s s1 : Vi.S} {x y : W} (h : a c env s = .ok x s1) (hf : f s1 x = some y) : d1 f a c env s = .ok y s1 := by
  unfold d1
  rw [h]
  show Res.opt (f s1 x) s1 = _
  rw [hf]
  rfl
theorem d2_ok {f : Vi.S → W → W → Option W} {a b : DE} {c : Ct} {env : Vi.Env} {s s1 s2 : Vi.S} {x y z : W} (h : a c env s = .ok x s1) (h2 : b c env s1 = .ok y s2) (hf : f s2 x y = some z) : d2 f a b c env s = .ok z s2 := by
  unfold d2
  rw [h]
  show Res.bind (b c env s1) _ = _
  rw [h2]
  show Res.opt (f s2 x y) s2 = _
  rw [hf]
  rfl
theorem dAnd_ok {a b : DE} {c : Ct} {env : Vi.Env} {s s1 s2 : Vi.S} {x y : Bool} (h : a c env s = .ok (.bl x) s1) (h2 : x = true → b c env s1 = .ok (.bl y) s2) (h3 : x = false → s2 = s1) : dAnd a b c env s = .ok (.bl (x && y)) s2 := by
  unfold dAnd
  rw [h]
  cases x with
  | true =>
    show b c env s1 = _
    rw [h2 rfl]
    rfl
  | false =>
    rw [h3 rfl]
    rfl
theorem seq_ok {a b : DS} {c : Ct} {env env1 : Vi.Env} {s s1 : Vi.S} (h : a c env s = .ok (.nx env1) s1) : sSeq a b c env s = b c env1 s1 := by
  unfold sSeq
  rw [h]
  rfl
theorem seq_rt {a b : DS} {c : Ct} {env : Vi.Env} {s s1 : Vi.S} {w : W} (h : a c env s = .ok (.rt w) s1) : sSeq a b c env s = .ok (.rt w) s1 := by
  unfold sSeq
  rw [h]
  rfl
theorem seq_ct {a b : DS} {c : Ct} {env env1 : Vi.Env} {s s1 : Vi.S} (h : a c env s = .ok (.ct env1) s1) : sSeq a b c env s = .ok (.ct env1) s1 := by
  unfold sSeq
  rw [h]
  rfl
theorem seq_ex {a b : DS} {c : Ct} {env : Vi.Env} {s s1 : Vi.S} {x : W} (h : a c env s = .exc x s1) : sSeq a b c env s = .exc x s1 := by
  unfold sSeq
  rw [h]
  rfl
theorem ret_ok {e : DE} {c : Ct} {env : Vi.Env} {s s1 : Vi.S} {w : W} (h : e c env s = .ok w s1) : sRet e c env s = .ok (.rt w) s1 := by
  unfold sRet
  rw [h]
  rfl
theorem set_ok {e : DE} {i : Nat} {c : Ct} {env : Vi.Env} {s s1 : Vi.S} {w : W} (h : e c env s = .ok w s1) : sSet e (dgName i) c env s = .ok (.nx (env.set i (some w))) s1 := by
  unfold sSet
  rw [h]
  rfl
theorem if_ok {t : DT} {a b : DS} {c : Ct} {env : Vi.Env} {s s1 : Vi.S} {k : Bool} (h : t c env s = .ok k s1) : sIf t a b c env s = if k then a c env s1 else b c env s1 := by
  unfold sIf
  rw [h]
  rfl
theorem tE_ok {e : DE} {c : Ct} {env : Vi.Env} {s s1 : Vi.S} {k : Bool} (h : e c env s = .ok (.bl k) s1) : tE e c env s = .ok k s1 := by
  unfold tE
  rw [h]
  rfl
theorem dIf_ok {t : DT} {a b : DE} {c : Ct} {env : Vi.Env} {s s1 : Vi.S} {k : Bool} (h : t c env s = .ok k s1) : dIf t a b c env s = if k then a c env s1 else b c env s1 := by
  unfold dIf
  rw [h]
  rfl
theorem bools_map (f : Nat → Bool) : ∀ l : List Nat, boolsOf (l.map fun c => W.bl (f c)) = some (l.map f)
  | [] => rfl
  | x :: r => by
    show (boolsOf (r.map _)).map (f x :: ·) = _
    rw [bools_map f r]
    rfl
theorem small_mem (c : Nat) : decide (c ∈ (Str.ofString "abcdefghijklmnopqrstuvwxyz").cps.toList) = smallL c := by
  have e : (Str.ofString "abcdefghijklmnopqrstuvwxyz").cps.toList = List.range' 97 26 := by decide +kernel
  rw [e]
  unfold smallL
  by_cases h : 97 ≤ c ∧ c ≤ 122
  · rw [decide_eq_true (List.mem_range'_1.mpr ⟨h.1, by omega⟩), decide_eq_true h.1, decide_eq_true h.2]
    rfl
  · have n : c ∉ List.range' 97 26 := fun z => h (by have := List.mem_range'_1.mp z; omega)
    rw [decide_eq_false n]
    by_cases h1 : 97 ≤ c
    · rw [decide_eq_false (show ¬ c ≤ 122 from fun z => h ⟨h1, z⟩), Bool.and_false]
    · rw [decide_eq_false h1, Bool.false_and]
/-- all(sign in table for sign in text) -/
theorem all_in {tb : Str} {p : Nat → Bool} (hp : ∀ c, decide (c ∈ tb.cps.toList) = p c) {vs : List Nat} {i j : Nat} {c : Ct} {env : Vi.Env} {s : Vi.S} {l : List Nat} (he : env[j]? = some (some (.str (Tx l)))) (hi : i < (wipeE env vs).length) (hl : l.length ≤ sizeMax) :
    d1 bAll (dLc vs (diE (dV j)) (dgName i) Vi.tYes (d2 opIn (dV i) (dC (.str tb)))) c env s = .ok (.bl (l.all p)) s := by
  have hd : diE (dV j) c env s = .ok (.inl (Vi.signs (Tx l))) s := by
    unfold diE dV
    rw [he]
    rfl
  have m := dLc_map (vs := vs) (i := i) (e := d2 opIn (dV i) (dC (.str tb))) (f := fun w => match w with
    | .str x => .bl (hasSub x tb)
    | _ => .non) hd (fun x hx => by
      obtain ⟨a, _, rfl⟩ := List.mem_map.mp hx
      refine ⟨d2_ok (s1 := s) (x := .str ⟨#[a]⟩) ?_ rfl rfl, rfl⟩
      unfold dV
      rw [List.getElem?_set_self hi]) (by rw [signs_S, List.length_map]; exact hl)
  rw [show (Vi.signs (Tx l)).map (fun w => match w with
    | .str x => W.bl (hasSub x tb)
    | _ => .non) = l.map fun c => W.bl (p c) by
    rw [signs_S, List.map_map]
    exact List.map_congr_left fun c _ => by
      show W.bl (hasSub ⟨#[c]⟩ _) = _
      rw [hasSub_one, hp]] at m
  refine d1_ok m ?_
  show (boolsOf (l.map fun c => W.bl (p c))).map _ = _
  rw [bools_map]
  show some (W.bl ((l.map p).all id)) = _
  rw [List.all_map]
  rfl
/-- the text's signs are signs; its length -/
def txtOk (l : List Nat) : Prop := PyData.strOk (Tx l) = true ∧ l.length ≤ 16777216
theorem eqS_Tx (l m : List Nat) : eqS (Tx l) (Tx m) = (l == m) := rfl
theorem ne_str {s : Vi.S} {l m : List Nat} (h : PyData.strOk (Tx l) = true) (h2 : PyData.strOk (Tx m) = true) : opNe s (.str (Tx l)) (.str (Tx m)) = some (.bl (!(l == m))) := by
  show (if (PyData.strOk (Tx l) && PyData.strOk (Tx m)) = true then some (W.bl (!eqS (Tx l) (Tx m))) else _) = _
  rw [h, h2]
  rfl
theorem eq_str {s : Vi.S} {l m : List Nat} (h : PyData.strOk (Tx l) = true) (h2 : PyData.strOk (Tx m) = true) : opEq s (.str (Tx l)) (.str (Tx m)) = some (.bl (l == m)) := by
  show (if (PyData.strOk (Tx l) && PyData.strOk (Tx m)) = true then some (W.bl (eqS (Tx l) (Tx m))) else _) = _
  rw [h, h2]
  rfl
theorem word_str {k : Nat} {l : List Nat} (h : txtOk l) : Ret (k + 1) (.fn 0) [.str (Tx l)] (.bl (isWordL l)) := fun s => by
  rw [call_fn e0 rfl]
  refine Eq.trans ?_ (leave_rt (s1 := s.enter) (w := .bl (isWordL l)) rfl (fun _ => rfl) rfl (take_self s))
  congr 1
  refine seq_rt (ret_ok ?_)
  refine dAnd_ok (x := true) (y := isWordL l) rfl (fun _ => dAnd_ok (x := !(l == [])) (y := l.all smallL) (s1 := s.enter) ?_ (fun _ => ?_) fun _ => rfl) fun z => by cases z
  · exact d2_ok rfl rfl (ne_str (m := []) h.1 (by decide +kernel))
  · exact all_in small_mem rfl (show 2 < 3 by decide) h.2
/-! ### data -/
/-- what the defs are handed: data whose texts are texts; lists stand for no value -/
def good : W → Bool
  | .non => true
  | .bl _ => true
  | .int _ => true
  | .str x => PyData.strOk x && decide (x.length ≤ 16777216)
  | .tup _ => true
  | .lst _ => true
  | _ => false
def kd : W → Kd
  | .non => .non
  | .bl _ => .bool
  | .int _ => .int
  | .str _ => .str
  | .tup _ => .tup
  | _ => .lst
theorem kd_ok {s : Vi.S} {w : W} (h : good w = true) : kdOf s w = some (kd w) := by
  cases w <;> first | rfl | cases h
theorem isi_ok {a : DE} {ts : List Ty} {c : Ct} {env : Vi.Env} {s s1 : Vi.S} {x : W} {k : Kd} (h : a c env s = .ok x s1) (hk : kdOf s1 x = some k) : dIsi a ts c env s = .ok (.bl (ts.any (isTy c.sub k))) s1 := by
  unfold dIsi
  rw [h]
  show (match kdOf s1 x with
    | some k => Res.ok (W.bl (ts.any (isTy c.sub k))) s1
    | none => .bad) = _
  rw [hk]
theorem dV_ok {i : Nat} {c : Ct} {env : Vi.Env} {s : Vi.S} {w : W} (h : env[i]? = some (some w)) : dV i c env s = .ok w s := by
  unfold dV
  rw [h]
theorem txt_of {x : Str} (h : good (.str x) = true) : x = Tx x.cps.toList ∧ txtOk x.cps.toList := by
  have h : (PyData.strOk x && decide (x.length ≤ 16777216)) = true := h
  rw [Bool.and_eq_true, decide_eq_true_eq] at h
  have e : x = Tx x.cps.toList := (SX.S_tl x).symm
  refine ⟨e, by rw [← e]; exact h.1, ?_⟩
  have := h.2
  simpa [Str.length] using this
theorem word_any {k : Nat} {w : W} (h : good w = true) : Ret (k + 1) (.fn 0) [w] (.bl (isWordW w)) := by
  cases w with
  | str x =>
    obtain ⟨e, t⟩ := txt_of h
    have z := word_str (k := k) t
    rw [← e] at z
    exact z
  | non | bl | int | tup | lst =>
    intro s
    rw [call_fn e0 rfl]
    refine Eq.trans ?_ (leave_rt (s1 := s.enter) (w := .bl false) rfl (fun _ => rfl) rfl (take_self s))
    rfl
  | _ => cases h
def isFigW : W → Bool
  | .int i => decide ((if i < 0 then -i else i) < 1000000000000)
  | _ => false
theorem fig_any {k : Nat} {w : W} (h : good w = true) : Ret (k + 1) (.fn 1) [w] (.bl (isFigW w)) := by
  cases w with
  | non | bl | int | tup | lst | str =>
    intro s
    rw [call_fn e1 rfl]
    refine Eq.trans ?_ (leave_rt (s1 := s.enter) (w := .bl _) rfl (fun _ => rfl) rfl (take_self s))
    rfl
  | _ => cases h
end K88
set_option Elab.async false
set_option linter.all false
set_option maxRecDepth 100000
set_option maxHeartbeats 4000000
/-! K88d: is_value. -/
namespace K88
open PySem Vi

mutual
/-- data without places, whose texts are texts -/
def clean : W → Bool
  | .non => true
  | .bl _ => true
  | .int _ => true
  | .str x => PyData.strOk x && decide (x.length ≤ 16777216)
  | .tup l => cleans l
  | .lst l => cleans l
  | _ => false
def cleans : List W → Bool
  | [] => true
  | x :: xs => clean x && cleans xs
end
theorem clean_good {w : W} (h : clean w = true) : good w = true := by
  cases w <;> first | rfl | exact h | cases h
theorem clean_D {w : W} (h : clean w = true) : isD w = true := by
  cases w <;> first | rfl | cases h
mutual
theorem clean_free (n : Nat) : ∀ w : W, clean w = true → belowW n w = true
  | .non, _ => rfl
  | .bl _, _ => rfl
  | .int _, _ => rfl
  | .str _, _ => rfl
  | .tup l, h => cleans_free n l h
  | .lst l, h => cleans_free n l h
  | .dct _, h => by cases h
  | .rc _ _, h => by cases h
  | .adr _, h => by cases h
  | .fn _, h => by cases h
  | .clo _ _, h => by cases h
  | .exc _ _, h => by cases h
theorem cleans_free (n : Nat) : ∀ l : List W, cleans l = true → belowWs n l = true
  | [], _ => rfl
  | x :: xs, h => by
    have h : (clean x && cleans xs) = true := h
    rw [Bool.and_eq_true] at h
    show (belowW n x && belowWs n xs) = true
    rw [clean_free n x h.1, cleans_free n xs h.2]
    rfl
end
theorem cleans_mem : ∀ {l : List W} {x : W}, cleans l = true → x ∈ l → clean x = true
  | [], _, _, h => by cases h
  | y :: ys, x, h, m => by
    have h : (clean y && cleans ys) = true := h
    rw [Bool.and_eq_true] at h
    rcases List.mem_cons.mp m with e | m
    · rw [e]; exact h.1
    · exact cleans_mem h.2 m
theorem cleans_app : ∀ (l m : List W), cleans (l ++ m) = (cleans l && cleans m)
  | [], m => by simp [cleans]
  | x :: xs, m => by
    show (clean x && cleans (xs ++ m)) = (clean x && cleans xs && cleans m)
    rw [cleans_app xs m, Bool.and_assoc]
theorem held_free {s : Vi.S} {n : Nat} {w : W} (h : free w) : s.held n w = s := by
  obtain ⟨o, k⟩ := s
  unfold S.held
  have e : k.map (fun j => if (decide (n < j) && !belowW j w) = true then o.length else j) = k := by
    conv => rhs; rw [← List.map_id k]
    refine List.map_congr_left fun j _ => ?_
    rw [h j, Bool.not_true, Bool.and_false]
    rfl
  show (⟨o, k.map (fun j => if (decide (n < j) && !belowW j w) = true then o.length else j)⟩ : Vi.S) = _
  rw [e]
theorem put_same {s : Vi.S} {q : Nat} {o : O} (h : s.objs[q]? = some o) : s.put q o = s := by
  obtain ⟨l, k⟩ := s
  unfold S.put
  have h : l[q]? = some o := h
  have e : l.set q o = l := by
    obtain ⟨hq, e⟩ := List.getElem?_eq_some_iff.mp h
    rw [← e]
    exact List.set_getElem_self hq
  show (⟨l.set q o, k⟩ : Vi.S) = _
  rw [e]
theorem put_put {s : Vi.S} {q : Nat} {o p : O} : (s.put q o).put q p = s.put q p := by
  unfold S.put
  show (⟨(s.objs.set q o).set q p, _⟩ : Vi.S) = _
  rw [List.set_set]
theorem put_at {s : Vi.S} {q : Nat} {o p : O} (h : s.objs[q]? = some o) : (s.put q p).objs[q]? = some p := by
  show (s.objs.set q p)[q]? = _
  exact List.getElem?_set_self (List.getElem?_eq_some_iff.mp h).1
theorem put_ne {s : Vi.S} {q j : Nat} {p : O} (h : j ≠ q) : (s.put q p).objs[j]? = s.objs[j]? := by
  show (s.objs.set q p)[j]? = _
  exact List.getElem?_set_ne (Ne.symm h)
/-! ### the layers -/
def leafOk (w : W) : Bool := isNon w || isWordW w || isFigW w
/-- what one value adds to the next layer; nothing of a wrong one -/
def ext (t : Bool) : W → Option (List W)
  | .tup l => if t then some l else none
  | w => if leafOk w then some [] else none
def lay (t : Bool) : List W → Option (List W)
  | [] => some []
  | w :: r => match ext t w, lay t r with
    | some l, some m => some (l ++ m)
    | _, _ => none
def isVal : Nat → List W → Bool
  | 0, _ => false
  | m + 1, items => match lay (decide (1 ≤ m)) items with
    | none => false
    | some [] => true
    | some L => isVal m L
mutual
def sz : W → Nat
  | .tup l => 1 + szs l
  | _ => 1
def szs : List W → Nat
  | [] => 0
  | x :: xs => sz x + szs xs
end
theorem szs_app : ∀ (l m : List W), szs (l ++ m) = szs l + szs m
  | [], m => by simp [szs]
  | x :: xs, m => by
    show sz x + szs (xs ++ m) = sz x + szs xs + szs m
    rw [szs_app xs m, Nat.add_assoc]
theorem sz_pos (w : W) : 1 ≤ sz w := by
  cases w <;> first | exact Nat.le_refl _ | (show 1 ≤ 1 + szs _; omega)
theorem szs_len : ∀ l : List W, l.length ≤ szs l
  | [] => Nat.le_refl _
  | x :: xs => by
    have := sz_pos x
    have := szs_len xs
    show xs.length + 1 ≤ sz x + szs xs
    omega
theorem ext_cases {t : Bool} {w : W} {l : List W} (h : ext t w = some l) : (w = .tup l ∧ t = true) ∨ (l = [] ∧ ∀ m, w ≠ .tup m) := by
  unfold ext at h
  split at h
  · split at h
    · rename_i e
      cases h
      exact .inl ⟨rfl, e⟩
    · cases h
  · rename_i n
    split at h
    · cases h
      exact .inr ⟨rfl, fun m e => n m e⟩
    · cases h
theorem ext_sz {t : Bool} {w : W} {l : List W} (h : ext t w = some l) : szs l + 1 ≤ sz w := by
  rcases ext_cases h with ⟨rfl, _⟩ | ⟨rfl, _⟩
  · show szs l + 1 ≤ 1 + szs l
    omega
  · exact sz_pos w
theorem lay_sz {t : Bool} : ∀ {items L : List W}, lay t items = some L → szs L ≤ szs items
  | [], _, h => by cases h; exact Nat.le_refl _
  | w :: r, L, h => by
    unfold lay at h
    split at h
    · rename_i l m e1 e2
      cases h
      rw [szs_app]
      have := ext_sz e1
      have := lay_sz e2
      show szs l + szs m ≤ sz w + szs r
      omega
    · cases h
theorem ext_clean {t : Bool} {w : W} {l : List W} (h : ext t w = some l) (c : clean w = true) : cleans l = true := by
  rcases ext_cases h with ⟨rfl, _⟩ | ⟨rfl, _⟩
  · exact c
  · rfl
theorem lay_clean {t : Bool} : ∀ {items L : List W}, lay t items = some L → cleans items = true → cleans L = true
  | [], _, h, _ => by cases h; rfl
  | w :: r, L, h, c => by
    have c : (clean w && cleans r) = true := c
    rw [Bool.and_eq_true] at c
    unfold lay at h
    split at h
    · rename_i l m e1 e2
      cases h
      rw [cleans_app, ext_clean e1 c.1, lay_clean e2 c.2]
      rfl
    · cases h
theorem lay_false : ∀ {items L : List W}, lay false items = some L → L = []
  | [], _, h => by cases h; rfl
  | w :: r, L, h => by
    unfold lay at h
    split at h
    · rename_i l m e1 e2
      cases h
      have q := lay_false e2
      subst q
      rcases ext_cases e1 with ⟨_, z⟩ | ⟨rfl, _⟩
      · cases z
      · rfl
    · cases h
/-! ### one turn of the inner loop -/
abbrev inner : DS := (sSeq (sIf (tAnd (tE (dIsi (dV 4) [.tup])) (tE (d2 opLt (dV 2) (d2 opSub (dC (.int 60)) (dC (.int 1))))))
 (sSeq (sExpr (dM2 .lst mExtend (dV 3) (dV 4)))
 sPass)
 (sSeq (sIf (tAnd (tE (d1 opNotN (dV 4))) (tAnd (tNot (tE (dCall 0 [.inl 0] (daCons (dV 4) daNil)))) (tNot (tE (dCall 1 [.inl 0] (daCons (dV 4) daNil))))))
 (sSeq (sRet (dC (.bl false)))
 sPass)
 sPass)
 sPass))
 sPass)
theorem tAnd_ok {a b : DT} {c : Ct} {env : Vi.Env} {s s1 : Vi.S} {x y : Bool} (h : a c env s = .ok x s1) (h2 : x = true → b c env s1 = .ok y s1) : tAnd a b c env s = .ok (x && y) s1 := by
  unfold tAnd
  rw [h]
  cases x with
  | true => exact h2 rfl
  | false => rfl
theorem tNot_ok {a : DT} {c : Ct} {env : Vi.Env} {s s1 : Vi.S} {x : Bool} (h : a c env s = .ok x s1) : tNot a c env s = .ok (!x) s1 := by
  unfold tNot
  rw [h]
  rfl
theorem call1_ok {k g i : Nat} {env : Vi.Env} {s : Vi.S} {x w : W} (he : env[i]? = some (some x)) (h : Ret k (.fn g) [x] w) : dCall g [.inl 0] (daCons (dV i) daNil) (ctAt pg k) env s = .ok w s := by
  unfold dCall daCons daNil
  rw [dV_ok he]
  exact h s
theorem extend_ok {s : Vi.S} {q : Nat} {acc l : List W} (h : s.objs[q]? = some (.lst acc)) (hl : acc.length + l.length ≤ sizeMax) (hf : ∀ n, belowWs n l = true) : mExtend s (.adr q) (.tup l) = .ok .non (s.put q (.lst (acc ++ l))) := by
  unfold mExtend
  show (match s.objs[q]? with
    | some (.lst l') => (match itemsOf s (.tup l) with
      | some m => if decide (l'.length + m.length ≤ sizeMax) then Res.ok W.non ((s.held q (.lst m)).put q (.lst (l' ++ m))) else .bad
      | none => .bad)
    | _ => .bad) = _
  rw [h]
  show (if decide (acc.length + l.length ≤ sizeMax) = true then Res.ok W.non ((s.held q (.lst l)).put q (.lst (acc ++ l))) else .bad) = _
  rw [if_pos (decide_eq_true hl), held_free (w := .lst l) fun n => hf n]
theorem leaf_turn {k q d : Nat} {v ly x : W} {s : Vi.S} (hx : clean x = true) (e2 : ∀ l, x = .tup l → ¬ d < 59) : inner (ctAt pg (k + 1)) [some v, some ly, some (.int (d : Nat)), some (.adr q), some x] s = if leafOk x then .ok (.nx [some v, some ly, some (.int (d : Nat)), some (.adr q), some x]) s else .ok (.rt (.bl false)) s := by
  have g := clean_good hx
  have t1 : tAnd (tE (dIsi (dV 4) [.tup])) (tE (d2 opLt (dV 2) (d2 opSub (dC (.int 60)) (dC (.int 1))))) (ctAt pg (k + 1)) [some v, some ly, some (.int (d : Nat)), some (.adr q), some x] s = .ok false s := by
    have a := tE_ok (isi_ok (ts := [.tup]) (c := ctAt pg (k + 1)) (dV_ok (i := 4) (env := [some v, some ly, some (.int (d : Nat)), some (.adr q), some x]) rfl) (kd_ok (s := s) g))
    have b : tE (d2 opLt (dV 2) (d2 opSub (dC (.int 60)) (dC (.int 1)))) (ctAt pg (k + 1)) [some v, some ly, some (.int (d : Nat)), some (.adr q), some x] s = .ok (decide ((d : Int) < 59)) s := rfl
    refine (tAnd_ok a fun _ => b).trans ?_
    congr 1
    cases x with
    | tup l =>
      have := e2 l rfl
      rw [decide_eq_false (show ¬ (d : Int) < 59 by omega), Bool.and_false]
    | _ => first | rfl | cases g
  have w := word_any (k := k) g
  have f := fig_any (k := k) g
  have t2 : tAnd (tE (d1 opNotN (dV 4))) (tAnd (tNot (tE (dCall 0 [.inl 0] (daCons (dV 4) daNil)))) (tNot (tE (dCall 1 [.inl 0] (daCons (dV 4) daNil))))) (ctAt pg (k + 1)) [some v, some ly, some (.int (d : Nat)), some (.adr q), some x] s = .ok (!leafOk x) s := by
    have a : tE (d1 opNotN (dV 4)) (ctAt pg (k + 1)) [some v, some ly, some (.int (d : Nat)), some (.adr q), some x] s = .ok (!isNon x) s := rfl
    refine (tAnd_ok a fun _ => tAnd_ok (tNot_ok (tE_ok (call1_ok rfl w))) fun _ => tNot_ok (tE_ok (call1_ok rfl f))).trans ?_
    congr 1
    unfold leafOk
    cases isNon x <;> cases isWordW x <;> cases isFigW x <;> rfl
  unfold inner
  cases z : leafOk x with
  | true =>
    rw [z] at t2
    rw [if_pos rfl]
    refine (seq_ok (env1 := [some v, some ly, some (.int (d : Nat)), some (.adr q), some x]) (s1 := s) ?_).trans rfl
    rw [if_ok t1]
    show sSeq _ sPass _ _ s = _
    refine (seq_ok (env1 := [some v, some ly, some (.int (d : Nat)), some (.adr q), some x]) (s1 := s) ?_).trans rfl
    rw [if_ok t2]
    rfl
  | false =>
    rw [z] at t2
    rw [if_neg (by decide)]
    refine seq_rt ?_
    rw [if_ok t1]
    show sSeq _ sPass _ _ s = _
    refine seq_rt ?_
    rw [if_ok t2]
    rfl
theorem turn {k q d : Nat} {v ly x : W} {s : Vi.S} {acc : List W} (hq : s.objs[q]? = some (.lst acc)) (hx : clean x = true) (hl : acc.length + sz x ≤ sizeMax) :
    inner (ctAt pg (k + 1)) [some v, some ly, some (.int (d : Nat)), some (.adr q), some x] s = match ext (decide (d < 59)) x with
      | some l => .ok (.nx [some v, some ly, some (.int (d : Nat)), some (.adr q), some x]) (s.put q (.lst (acc ++ l)))
      | none => .ok (.rt (.bl false)) s := by
  by_cases h : ∃ l, x = .tup l ∧ d < 59
  · obtain ⟨l, rfl, hd⟩ := h
    have e : ext (decide (d < 59)) (.tup l) = some l := if_pos (decide_eq_true hd)
    rw [e]
    have t1 : tAnd (tE (dIsi (dV 4) [.tup])) (tE (d2 opLt (dV 2) (d2 opSub (dC (.int 60)) (dC (.int 1))))) (ctAt pg (k + 1)) [some v, some ly, some (.int (d : Nat)), some (.adr q), some (.tup l)] s = .ok true s := by
      show Res.ok (decide ((d : Int) < 59)) s = _
      rw [decide_eq_true (show (d : Int) < 59 by omega)]
    unfold inner
    refine (seq_ok (env1 := [some v, some ly, some (.int (d : Nat)), some (.adr q), some (.tup l)]) (s1 := s.put q (.lst (acc ++ l))) ?_).trans rfl
    rw [if_ok t1]
    show sSeq _ sPass _ _ s = _
    refine (seq_ok (env1 := [some v, some ly, some (.int (d : Nat)), some (.adr q), some (.tup l)]) (s1 := s.put q (.lst (acc ++ l))) ?_).trans rfl
    have hl2 : acc.length + l.length ≤ sizeMax := by
      have := szs_len l
      have hl : acc.length + (1 + szs l) ≤ sizeMax := hl
      omega
    have em := extend_ok hq hl2 (fun n => cleans_free n l hx)
    unfold sExpr dM2
    show Res.bind (if (isMK s .lst (.adr q)) = true then _ else _) _ = _
    have im : isMK s .lst (.adr q) = true := by
      show (match s.objs[q]? with
        | some (.lst l) => some l
        | _ => none).isSome = true
      rw [hq]
      rfl
    rw [if_pos im]
    show Res.bind (mExtend s (.adr q) (.tup l)) _ = _
    rw [em]
    rfl
  · have e2 : ∀ l, x = .tup l → ¬ d < 59 := fun l e z => h ⟨l, e, z⟩
    rw [leaf_turn hx e2]
    have ee : ext (decide (d < 59)) x = if leafOk x then some [] else none := by
      cases x with
      | tup l =>
        show (if decide (d < 59) = true then some l else none) = _
        rw [if_neg (by rw [decide_eq_false (e2 l rfl)]; decide)]
        rfl
      | _ => rfl
    rw [ee]
    cases leafOk x with
    | true =>
      rw [if_pos rfl, if_pos rfl]
      show _ = Res.ok _ (s.put q (.lst (acc ++ [])))
      rw [List.append_nil, put_same hq]
    | false =>
      rw [if_neg (by decide), if_neg (by decide)]
end K88
set_option Elab.async false
set_option linter.all false
set_option maxRecDepth 100000
set_option maxHeartbeats 4000000
/-! K88e: is_value, its loops. -/
namespace K88
open PySem Vi

theorem eqWs_nil (x : W) (r : List W) : eqWs (x :: r) [] = false := by unfold eqWs; rfl
theorem eq_nil {s : Vi.S} {w : W} {L : List W} (h : seeW s w = .lst L) : opEq s w (.lst []) = some (.bl L.isEmpty) := by
  unfold opEq
  have e : seeW s (.lst []) = .lst [] := rfl
  rw [h, e]
  cases L with
  | nil => rfl
  | cons x r =>
    have q : eqW (.lst (x :: r)) (.lst []) = false := eqWs_nil x r
    rw [q]
    show (if _ then some (W.bl false) else some (W.bl false)) = _
    split <;> rfl
theorem ne_nil {s : Vi.S} {w : W} {L : List W} (h : seeW s w = .lst L) : opNe s w (.lst []) = some (.bl (!L.isEmpty)) := by
  unfold opNe
  have e : seeW s (.lst []) = .lst [] := rfl
  rw [h, e]
  cases L with
  | nil => rfl
  | cons x r =>
    have q : eqW (.lst (x :: r)) (.lst []) = false := eqWs_nil x r
    rw [q]
    show (if _ then some (W.bl true) else some (W.bl true)) = _
    split <;> rfl
theorem see_adr {s : Vi.S} {q : Nat} {L : List W} (h : s.objs[q]? = some (.lst L)) : seeW s (.adr q) = .lst L := by
  show (match s.objs[q]? with
    | some (.lst l) => W.lst l
    | _ => W.adr q) = _
  rw [h]
theorem for_cons {i : Nat} {b : DS} {c : Ct} {x : W} {xs : List W} {env : Vi.Env} {s : Vi.S} {env1 : Vi.Env} {s1 : Vi.S} (h : b c (env.set i (some x)) s = .ok (.nx env1) s1) : forLoop (dgName i) b c (x :: xs) env s = forLoop (dgName i) b c xs env1 s1 := by
  show Res.bind (b c (env.set i (some x)) s) _ = _
  rw [h]
  rfl
theorem for_ct {i : Nat} {b : DS} {c : Ct} {x : W} {xs : List W} {env : Vi.Env} {s : Vi.S} {env1 : Vi.Env} {s1 : Vi.S} (h : b c (env.set i (some x)) s = .ok (.ct env1) s1) : forLoop (dgName i) b c (x :: xs) env s = forLoop (dgName i) b c xs env1 s1 := by
  show Res.bind (b c (env.set i (some x)) s) _ = _
  rw [h]
  rfl
theorem for_rt {i : Nat} {b : DS} {c : Ct} {x w : W} {xs : List W} {env : Vi.Env} {s s1 : Vi.S} (h : b c (env.set i (some x)) s = .ok (.rt w) s1) : forLoop (dgName i) b c (x :: xs) env s = .ok (.rt w) s1 := by
  show Res.bind (b c (env.set i (some x)) s) _ = _
  rw [h]
  rfl
theorem forN_cons {i p n j : Nat} {b : DS} {c : Ct} {x : W} {l : List W} {env : Vi.Env} {s : Vi.S} {env1 : Vi.Env} {s1 : Vi.S} (hp : s.objs[p]? = some (.lst l)) (hx : l[j]? = some x) (h : b c (env.set i (some x)) s = .ok (.nx env1) s1) : forLoopN (dgName i) b c p (n + 1) j env s = forLoopN (dgName i) b c p n (j + 1) env1 s1 := by
  show (match s.objs[p]? with
    | some (.lst l) => (match l[j]? with
      | some x => forOne (dgName i) b c x env s fun env s => forLoopN (dgName i) b c p n (j + 1) env s
      | none => .ok (.nx env) s)
    | _ => .bad) = _
  rw [hp]
  dsimp only
  rw [hx]
  show Res.bind (b c (env.set i (some x)) s) _ = _
  rw [h]
  rfl
theorem forN_rt {i p n j : Nat} {b : DS} {c : Ct} {x w : W} {l : List W} {env : Vi.Env} {s s1 : Vi.S} (hp : s.objs[p]? = some (.lst l)) (hx : l[j]? = some x) (h : b c (env.set i (some x)) s = .ok (.rt w) s1) : forLoopN (dgName i) b c p (n + 1) j env s = .ok (.rt w) s1 := by
  show (match s.objs[p]? with
    | some (.lst l) => (match l[j]? with
      | some x => forOne (dgName i) b c x env s fun env s => forLoopN (dgName i) b c p n (j + 1) env s
      | none => .ok (.nx env) s)
    | _ => .bad) = _
  rw [hp]
  dsimp only
  rw [hx]
  show Res.bind (b c (env.set i (some x)) s) _ = _
  rw [h]
  rfl
theorem forN_nil {i p n j : Nat} {b : DS} {c : Ct} {l : List W} {env : Vi.Env} {s : Vi.S} (hp : s.objs[p]? = some (.lst l)) (hx : l[j]? = none) : forLoopN (dgName i) b c p (n + 1) j env s = .ok (.nx env) s := by
  show (match s.objs[p]? with
    | some (.lst l) => (match l[j]? with
      | some x => forOne (dgName i) b c x env s fun env s => forLoopN (dgName i) b c p n (j + 1) env s
      | none => .ok (.nx env) s)
    | _ => .bad) = _
  rw [hp]
  dsimp only
  rw [hx]
theorem diE_adr {a : DE} {c : Ct} {env : Vi.Env} {s s1 : Vi.S} {p : Nat} {l : List W} (h : a c env s = .ok (.adr p) s1) (hp : s1.objs[p]? = some (.lst l)) : diE a c env s = .ok (.inr p) s1 := by
  unfold diE
  rw [h]
  show (match s1.objs[p]? with
    | some (.lst _) => Res.ok (Sum.inr p) s1
    | _ => .bad) = _
  rw [hp]
/-- how the inner loop ends -/
def InEnd (v ly : W) (d q : Nat) (s : Vi.S) (acc : List W) (r : Res Vi.Flow) : Option (List W) → Prop
  | some L => ∃ o, r = .ok (.nx [some v, some ly, some (.int (d : Nat)), some (.adr q), o]) (s.put q (.lst (acc ++ L)))
  | none => ∃ a, r = .ok (.rt (.bl false)) (s.put q (.lst a))
theorem lay_some {t : Bool} {x : W} {r l m : List W} (h1 : ext t x = some l) (h2 : lay t r = some m) : lay t (x :: r) = some (l ++ m) := by
  unfold lay
  rw [h1, h2]
theorem lay_none2 {t : Bool} {x : W} {r : List W} (h2 : lay t r = none) : lay t (x :: r) = none := by
  unfold lay
  rw [h2]
  split
  · rename_i e
    cases e
  · rfl
theorem lay_none1 {t : Bool} {x : W} {r : List W} (h : ext t x = none) : lay t (x :: r) = none := by
  unfold lay
  rw [h]
theorem InEnd.step {v ly x : W} {d q : Nat} {s : Vi.S} {acc l : List W} {xs : List W} {r : Res Vi.Flow} (e : ext (decide (d < 59)) x = some l) (h : InEnd v ly d q (s.put q (.lst (acc ++ l))) (acc ++ l) r (lay (decide (d < 59)) xs)) : InEnd v ly d q s acc r (lay (decide (d < 59)) (x :: xs)) := by
  cases e2 : lay (decide (d < 59)) xs with
  | some m =>
    rw [e2] at h
    rw [lay_some e e2]
    obtain ⟨o, h⟩ := h
    refine ⟨o, ?_⟩
    rw [h, put_put, List.append_assoc]
  | none =>
    rw [e2] at h
    rw [lay_none2 e2]
    obtain ⟨a, h⟩ := h
    refine ⟨a, ?_⟩
    rw [h, put_put]
theorem room_step {acc l : List W} {x : W} {xs : List W} {t : Bool} (e : ext t x = some l) (hl : acc.length + szs (x :: xs) ≤ sizeMax) : (acc ++ l).length + szs xs ≤ sizeMax := by
  have := ext_sz e
  have := szs_len l
  have hl : acc.length + (sz x + szs xs) ≤ sizeMax := hl
  rw [List.length_append]
  omega
theorem inner_list {k q d : Nat} {v ly : W} : ∀ (items acc : List W) (o : Option W) (s : Vi.S), s.objs[q]? = some (.lst acc) → cleans items = true → acc.length + szs items ≤ sizeMax →
    InEnd v ly d q s acc (forLoop (dgName 4) inner (ctAt pg (k + 1)) items [some v, some ly, some (.int (d : Nat)), some (.adr q), o] s) (lay (decide (d < 59)) items)
  | [], acc, o, s, hq, _, _ => ⟨o, by
    rw [List.append_nil, put_same hq]
    rfl⟩
  | x :: xs, acc, o, s, hq, hc, hl => by
    have hc : (clean x && cleans xs) = true := hc
    rw [Bool.and_eq_true] at hc
    have hl1 : acc.length + sz x ≤ sizeMax := by
      have hl : acc.length + (sz x + szs xs) ≤ sizeMax := hl
      omega
    have tn := turn (k := k) (d := d) (v := v) (ly := ly) hq hc.1 hl1
    cases e : ext (decide (d < 59)) x with
    | none =>
      rw [e] at tn
      rw [lay_none1 e]
      exact ⟨acc, by rw [put_same hq]; exact for_rt tn⟩
    | some l =>
      rw [e] at tn
      have ih := inner_list (k := k) (d := d) (v := v) (ly := ly) xs (acc ++ l) (some x) (s.put q (.lst (acc ++ l))) (put_at hq) hc.2 (room_step e hl)
      refine InEnd.step e ?_
      rw [show forLoop (dgName 4) inner (ctAt pg (k + 1)) (x :: xs) [some v, some ly, some (.int (d : Nat)), some (.adr q), o] s = _ from for_cons tn]
      exact ih
theorem inner_place {k q d p : Nat} {v ly : W} {items : List W} (hpq : p ≠ q) : ∀ (xs acc : List W) (o : Option W) (s : Vi.S) (j n : Nat), s.objs[p]? = some (.lst items) → items.drop j = xs → xs.length < n → s.objs[q]? = some (.lst acc) → cleans xs = true → acc.length + szs xs ≤ sizeMax →
    InEnd v ly d q s acc (forLoopN (dgName 4) inner (ctAt pg (k + 1)) p n j [some v, some ly, some (.int (d : Nat)), some (.adr q), o] s) (lay (decide (d < 59)) xs)
  | [], acc, o, s, j, n + 1, hp, hj, hn, hq, _, _ => ⟨o, by
    rw [List.append_nil, put_same hq]
    refine forN_nil hp ?_
    rw [List.drop_eq_nil_iff] at hj
    exact List.getElem?_eq_none hj⟩
  | x :: xs, acc, o, s, j, n + 1, hp, hj, hn, hq, hc, hl => by
    have hc : (clean x && cleans xs) = true := hc
    rw [Bool.and_eq_true] at hc
    have hl1 : acc.length + sz x ≤ sizeMax := by
      have hl : acc.length + (sz x + szs xs) ≤ sizeMax := hl
      omega
    have tn := turn (k := k) (d := d) (v := v) (ly := ly) hq hc.1 hl1
    have hx : items[j]? = some x := by
      have z : (items.drop j)[0]? = some x := by rw [hj]; rfl
      rw [List.getElem?_drop] at z
      exact z
    have hj2 : items.drop (j + 1) = xs := by
      rw [← List.drop_drop, hj]
      rfl
    cases e : ext (decide (d < 59)) x with
    | none =>
      rw [e] at tn
      rw [lay_none1 e]
      exact ⟨acc, by rw [put_same hq]; exact forN_rt hp hx tn⟩
    | some l =>
      rw [e] at tn
      have ih := inner_place (k := k) (d := d) (v := v) (ly := ly) hpq xs (acc ++ l) (some x) (s.put q (.lst (acc ++ l))) (j + 1) n (by rw [put_ne hpq]; exact hp) hj2 (by simp at hn; omega) (put_at hq) hc.2 (room_step e hl)
      refine InEnd.step e ?_
      rw [show forLoopN (dgName 4) inner (ctAt pg (k + 1)) p (n + 1) j [some v, some ly, some (.int (d : Nat)), some (.adr q), o] s = _ from forN_cons hp hx tn]
      exact ih
  | _, _, _, _, _, 0, _, _, hn, _, _, _ => absurd hn (Nat.not_lt_zero _)
/-! ### the outer loop -/
abbrev outer : DS := (sSeq (sSet (dLstN daNil) (dgName 3))
 (sSeq (sFor (diE (dV 1)) (dgName 4)
 inner)
 (sSeq (sIf (tE (d2 opEq (dV 3) (dLst daNil)))
 (sSeq (sRet (dC (.bl true)))
 sPass)
 sPass)
 (sSeq (sSet (dV 3) (dgName 1))
 sPass))))
/-- what a layer holds -/
def LayAt (s : Vi.S) (ly : W) (items : List W) : Prop := ly = .lst items ∨ ∃ p, ly = .adr p ∧ s.objs[p]? = some (.lst items)
theorem new_at (s : Vi.S) (o : O) : (s.new o).objs[s.objs.length]? = some o := by
  show (s.objs ++ [o])[s.objs.length]? = _
  rw [List.getElem?_append_right (Nat.le_refl _)]
  simp
theorem new_old {s : Vi.S} {o : O} {p : Nat} {u : O} (h : s.objs[p]? = some u) : (s.new o).objs[p]? = some u := by
  show (s.objs ++ [o])[p]? = _
  rw [List.getElem?_append_left (List.getElem?_eq_some_iff.mp h).1]
  exact h
theorem put_new (s : Vi.S) (o p : O) : (s.new o).put s.objs.length p = s.new p := by
  show (⟨(s.objs ++ [o]).set s.objs.length p, s.keep⟩ : Vi.S) = ⟨s.objs ++ [p], s.keep⟩
  rw [List.set_append_right _ _ (Nat.le_refl _)]
  simp
theorem outer_turn {k d : Nat} {v ly : W} {items : List W} {o3 o4 : Option W} {s : Vi.S} (hy : LayAt s ly items) (hc : cleans items = true) (hl : szs items ≤ 16777216) (hf : items.length < 100000) :
    match lay (decide (d < 59)) items with
    | none => ∃ s1, outer (ctAt pg (k + 1)) [some v, some ly, some (.int (d : Nat)), o3, o4] s = .ok (.rt (.bl false)) s1 ∧ s1.keep = s.keep ∧ s1.objs.take s.objs.length = s.objs
    | some L => if L.isEmpty then (∃ s1, outer (ctAt pg (k + 1)) [some v, some ly, some (.int (d : Nat)), o3, o4] s = .ok (.rt (.bl true)) s1 ∧ s1.keep = s.keep ∧ s1.objs.take s.objs.length = s.objs)
      else ∃ o, outer (ctAt pg (k + 1)) [some v, some ly, some (.int (d : Nat)), o3, o4] s = .ok (.nx [some v, some (.adr s.objs.length), some (.int (d : Nat)), some (.adr s.objs.length), o]) (s.new (.lst L)) := by
  have tk : ∀ o : O, (s.new o).objs.take s.objs.length = s.objs := fun o => by
    show (s.objs ++ [o]).take s.objs.length = _
    exact List.take_left
  -- the inner loop
  have fr : InEnd v ly d s.objs.length (s.new (.lst [])) [] (sFor (diE (dV 1)) (dgName 4) inner (ctAt pg (k + 1)) [some v, some ly, some (.int (d : Nat)), some (.adr s.objs.length), o4] (s.new (.lst []))) (lay (decide (d < 59)) items) := by
    rcases hy with rfl | ⟨p, rfl, hp⟩
    · exact inner_list items [] o4 (s.new (.lst [])) (new_at _ _) hc (by show 0 + szs items ≤ 16777216; omega)
    · have hpl : p ≠ s.objs.length := fun e => by
        have := (List.getElem?_eq_some_iff.mp hp).1
        omega
      have z := inner_place (k := k) (d := d) (v := v) (ly := .adr p) hpl items [] o4 (s.new (.lst [])) 0 100000 (new_old hp) rfl hf (new_at _ _) hc (by show 0 + szs items ≤ 16777216; omega)
      have e : sFor (diE (dV 1)) (dgName 4) inner (ctAt pg (k + 1)) [some v, some (.adr p), some (.int (d : Nat)), some (.adr s.objs.length), o4] (s.new (.lst [])) = forLoopN (dgName 4) inner (ctAt pg (k + 1)) p 100000 0 [some v, some (.adr p), some (.int (d : Nat)), some (.adr s.objs.length), o4] (s.new (.lst [])) := by
        unfold sFor
        rw [diE_adr (s1 := s.new (.lst [])) (dV_ok (i := 1) (w := .adr p) rfl) (new_old hp)]
        rfl
      rw [e]
      exact z
  have st : sSet (dLstN daNil) (dgName 3) (ctAt pg (k + 1)) [some v, some ly, some (.int (d : Nat)), o3, o4] s = .ok (.nx [some v, some ly, some (.int (d : Nat)), some (.adr s.objs.length), o4]) (s.new (.lst [])) := rfl
  unfold outer
  rw [seq_ok st]
  cases e : lay (decide (d < 59)) items with
  | none =>
    rw [e] at fr
    obtain ⟨a, h⟩ := fr
    rw [put_new] at h
    exact ⟨_, seq_rt h, rfl, tk _⟩
  | some L =>
    rw [e] at fr
    obtain ⟨o, h⟩ := fr
    rw [put_new, List.nil_append] at h
    have t : tE (d2 opEq (dV 3) (dLst daNil)) (ctAt pg (k + 1)) [some v, some ly, some (.int (d : Nat)), some (.adr s.objs.length), o] (s.new (.lst L)) = .ok L.isEmpty (s.new (.lst L)) := tE_ok (d2_ok (s1 := s.new (.lst L)) (x := .adr s.objs.length) (y := .lst []) rfl rfl (eq_nil (see_adr (new_at _ _))))
    dsimp only
    cases z : L.isEmpty with
    | true =>
      rw [z] at t
      rw [if_pos rfl]
      refine ⟨s.new (.lst L), ?_, rfl, tk _⟩
      rw [seq_ok h]
      refine seq_rt ?_
      rw [if_ok t]
      rfl
    | false =>
      rw [z] at t
      rw [if_neg (by decide)]
      refine ⟨o, ?_⟩
      rw [seq_ok h]
      rw [seq_ok (env1 := [some v, some ly, some (.int (d : Nat)), some (.adr s.objs.length), o]) (s1 := s.new (.lst L)) (by rw [if_ok t]; rfl)]
      rfl
end K88
set_option Elab.async false
set_option linter.all false
set_option maxRecDepth 100000
set_option maxHeartbeats 4000000
/-! K88f: is_value answers isVal. -/
namespace K88
open PySem Vi

def intsFrom (d m : Nat) : List W := (List.range' d m).map fun i => W.int (i : Nat)
theorem intsFrom_cons (d m : Nat) : intsFrom d (m + 1) = .int (d : Nat) :: intsFrom (d + 1) m := by
  unfold intsFrom
  rw [List.range'_succ, List.map_cons]
theorem upto_eq (n : Nat) : upto n = intsFrom 0 n := by
  unfold upto intsFrom
  rw [List.range_eq_range']
theorem outer_loop {k : Nat} {v : W} : ∀ (m d : Nat) (ly : W) (items : List W) (o2 o3 o4 : Option W) (s : Vi.S), d + (m + 1) = 60 → LayAt s ly items → cleans items = true → szs items ≤ 99999 →
    ∃ s1, forLoop (dgName 2) outer (ctAt pg (k + 1)) (intsFrom d (m + 1)) [some v, some ly, o2, o3, o4] s = .ok (.rt (.bl (isVal (m + 1) items))) s1 ∧ s1.keep = s.keep ∧ s1.objs.take s.objs.length = s.objs
  | m, d, ly, items, o2, o3, o4, s, hd, hy, hc, hs => by
    have hlen := szs_len items
    have tn := outer_turn (k := k) (d := d) (v := v) (o3 := o3) (o4 := o4) hy hc (by omega) (by omega)
    have ed : decide (d < 59) = decide (1 ≤ m) := by
      by_cases h : d < 59
      · rw [decide_eq_true h, decide_eq_true (show 1 ≤ m by omega)]
      · rw [decide_eq_false h, decide_eq_false (show ¬ 1 ≤ m by omega)]
    rw [ed] at tn
    rw [intsFrom_cons]
    have ei : isVal (m + 1) items = match lay (decide (1 ≤ m)) items with
      | none => false
      | some [] => true
      | some L => isVal m L := rfl
    cases e : lay (decide (1 ≤ m)) items with
    | none =>
      rw [e] at tn ei
      obtain ⟨s1, h1, h2, h3⟩ := tn
      exact ⟨s1, by rw [ei]; exact for_rt h1, h2, h3⟩
    | some L =>
      rw [e] at tn ei
      cases L with
      | nil =>
        obtain ⟨s1, h1, h2, h3⟩ := tn
        exact ⟨s1, by rw [ei]; exact for_rt h1, h2, h3⟩
      | cons x r =>
        obtain ⟨o, h1⟩ := tn
        have hm : 1 ≤ m := by
          cases m with
          | zero =>
            have z := lay_false e
            cases z
          | succ m => omega
        obtain ⟨m, rfl⟩ : ∃ n, m = n + 1 := ⟨m - 1, by omega⟩
        obtain ⟨s1, g1, g2, g3⟩ := outer_loop (k := k) (v := v) m (d + 1) (.adr s.objs.length) (x :: r) (some (.int (d : Nat))) (some (.adr s.objs.length)) o (s.new (.lst (x :: r))) (by omega) (.inr ⟨_, rfl, new_at _ _⟩) (lay_clean e hc) (Nat.le_trans (lay_sz e) hs)
        refine ⟨s1, ?_, g2, ?_⟩
        · rw [ei]
          exact (for_cons h1).trans g1
        · have z := congrArg (List.take s.objs.length) g3
          rw [List.take_take] at z
          have e2 : (s.new (.lst (x :: r))).objs.take s.objs.length = s.objs := by
            show (s.objs ++ _).take s.objs.length = _
            exact List.take_left
          rw [e2] at z
          have e3 : min s.objs.length (s.new (.lst (x :: r))).objs.length = s.objs.length := by
            show min s.objs.length (s.objs ++ [_]).length = _
            simp
          rw [e3] at z
          exact z
/-- is_value -/
theorem isval {k : Nat} {v : W} (hc : clean v = true) (hs : sz v ≤ 99999) : Ret (k + 2) (.fn 2) [v] (.bl (isVal 60 [v])) := fun s => by
  rw [call_fn e2 rfl]
  obtain ⟨s1, h1, h2, h3⟩ := outer_loop (k := k) (v := v) 59 0 (.lst [v]) [v] none none none s.enter rfl (.inl rfl) (by show (clean v && true) = true; rw [hc]; rfl) (by show sz v + 0 ≤ 99999; exact hs)
  refine Eq.trans ?_ (leave_rt (s1 := s1) (w := .bl (isVal 60 [v])) rfl (fun _ => rfl) h2 h3)
  congr 1
  show b2 (ctAt pg (k + 1)) [some v, none, none, none, none] s.enter = _
  unfold b2
  have dv : isD v = true := clean_D hc
  have st : sSet (dLst (daCons (dV 0) daNil)) (dgName 1) (ctAt pg (k + 1)) [some v, none, none, none, none] s.enter = .ok (.nx [some v, some (.lst [v]), none, none, none]) s.enter := by
    refine set_ok (w := .lst [v]) ?_
    show (if (allD [v] && decide (([v] : List W).length ≤ sizeMax)) = true then Res.ok (W.lst [v]) s.enter else .bad) = _
    have a : allD [v] = true := by
      show (isD v && true) = true
      rw [dv]
      rfl
    rw [a]
    rfl
  rw [seq_ok st]
  refine seq_rt ?_
  have e : sFor (diRange (dC (.int 60))) (dgName 2) outer (ctAt pg (k + 1)) [some v, some (.lst [v]), none, none, none] s.enter = forLoop (dgName 2) outer (ctAt pg (k + 1)) (upto 60) [some v, some (.lst [v]), none, none, none] s.enter := rfl
  refine Eq.trans e ?_
  rw [upto_eq]
  exact h1
end K88
set_option Elab.async false
set_option linter.all false
set_option maxRecDepth 100000
set_option maxHeartbeats 4000000
/-! K88g: value_text: what it writes. -/
namespace K88
open PySem Vi

/-- a whole number's codes -/
def intL (i : Int) : List Nat := (Str.ofString (toString i)).cps.toList
mutual
/-- the pieces of a value's text -/
def pcs : W → List (List Nat)
  | .non => [[45]]
  | .int i => [intL i]
  | .str x => [x.cps.toList]
  | .tup l => [40] :: (pcsI l ++ [[41]])
  | _ => []
def pcsI : List W → List (List Nat)
  | [] => []
  | x :: xs => pcs x ++ (match xs with
    | [] => []
    | y :: ys => [32] :: pcsI (y :: ys))
end
mutual
def okW : W → Bool
  | .tup l => okWs l
  | w => leafOk w
def okWs : List W → Bool
  | [] => true
  | x :: xs => okW x && okWs xs
end
theorem okWs_app : ∀ (l m : List W), okWs (l ++ m) = (okWs l && okWs m)
  | [], m => by simp [okWs]
  | x :: xs, m => by
    show (okW x && okWs (xs ++ m)) = (okW x && okWs xs && okWs m)
    rw [okWs_app xs m, Bool.and_assoc]
theorem okW_leaf {w : W} (h : ∀ l, w ≠ .tup l) : okW w = leafOk w := by
  cases w <;> first | rfl | exact absurd rfl (h _)
theorem lay_ok {t : Bool} : ∀ {items L : List W}, lay t items = some L → okWs L = true → okWs items = true
  | [], _, _, _ => rfl
  | x :: xs, L, h, o => by
    unfold lay at h
    split at h
    · rename_i l m e1 e2
      cases h
      rw [okWs_app, Bool.and_eq_true] at o
      show (okW x && okWs xs) = true
      rw [lay_ok e2 o.2, Bool.and_true]
      rcases ext_cases e1 with ⟨rfl, _⟩ | ⟨rfl, n⟩
      · exact o.1
      · rw [okW_leaf n]
        unfold ext at e1
        split at e1
        · exact absurd rfl (n _)
        · split at e1
          · assumption
          · cases e1
    · cases h
theorem isVal_ok : ∀ {m : Nat} {items : List W}, isVal m items = true → okWs items = true
  | 0, _, h => by cases h
  | m + 1, items, h => by
    unfold isVal at h
    split at h
    · cases h
    · rename_i e
      exact lay_ok e rfl
    · rename_i L _ e
      exact lay_ok e (isVal_ok h)
/-! ### the stack -/
abbrev mk (t : List Nat) : W := .lst [.str (Tx t)]
/-- what stands between brackets, as it is put on the stack -/
def push : List W → List W
  | [] => []
  | x :: xs => x :: (match xs with
    | [] => []
    | y :: ys => mk [32] :: push (y :: ys))
theorem push_snoc : ∀ (xs : List W) (x : W), push (xs ++ [x]) = push xs ++ (if xs.isEmpty then [x] else [mk [32], x])
  | [], x => rfl
  | [a], x => rfl
  | a :: b :: r, x => by
    show a :: mk [32] :: push ((b :: r) ++ [x]) = (a :: mk [32] :: push (b :: r)) ++ [mk [32], x]
    rw [push_snoc (b :: r) x]
    rfl
theorem push_rev : ∀ xs : List W, (push xs.reverse).reverse = push xs
  | [] => rfl
  | x :: xs => by
    rw [List.reverse_cons, push_snoc, List.reverse_append, push_rev xs]
    cases xs with
    | nil => rfl
    | cons y ys =>
      have e : ((y :: ys).reverse).isEmpty = false := by simp
      rw [e]
      rfl
/-- the pieces, the turns of a stack, top first -/
def pcsR : List W → List (List Nat)
  | [] => []
  | x :: xs => (match x with
    | .lst [.str t] => [t.cps.toList]
    | x => pcs x) ++ pcsR xs
mutual
def stp : W → Nat
  | .tup l => 3 + stpI l
  | _ => 1
def stpI : List W → Nat
  | [] => 0
  | x :: xs => stp x + 1 + stpI xs
end
def stpR : List W → Nat
  | [] => 0
  | x :: xs => stp x + stpR xs
mutual
theorem stp_sz : ∀ w : W, stp w + 1 ≤ 4 * sz w
  | .tup l => by
    have := stpI_sz l
    show 3 + stpI l + 1 ≤ 4 * (1 + szs l)
    omega
  | .non => by decide
  | .bl _ => by show 2 ≤ 4; omega
  | .int _ => by show 2 ≤ 4; omega
  | .str _ => by show 2 ≤ 4; omega
  | .lst _ => by show 2 ≤ 4; omega
  | .dct _ => by show 2 ≤ 4; omega
  | .rc _ _ => by show 2 ≤ 4; omega
  | .adr _ => by show 2 ≤ 4; omega
  | .fn _ => by show 2 ≤ 4; omega
  | .clo _ _ => by show 2 ≤ 4; omega
  | .exc _ _ => by show 2 ≤ 4; omega
theorem stpI_sz : ∀ l : List W, stpI l ≤ 4 * szs l
  | [] => Nat.le_refl _
  | x :: xs => by
    have := stp_sz x
    have := stpI_sz xs
    show stp x + 1 + stpI xs ≤ 4 * (sz x + szs xs)
    omega
end
theorem stp_pos (w : W) : 1 ≤ stp w := by
  cases w <;> first | exact Nat.le_refl _ | (show 1 ≤ 3 + stpI _; omega)
theorem stpR_len : ∀ l : List W, l.length ≤ stpR l
  | [] => Nat.le_refl _
  | x :: xs => by
    have := stp_pos x
    have := stpR_len xs
    show xs.length + 1 ≤ stp x + stpR xs
    omega
theorem stpR_app : ∀ l m : List W, stpR (l ++ m) = stpR l + stpR m
  | [], m => by simp [stpR]
  | x :: xs, m => by
    show stp x + stpR (xs ++ m) = stp x + stpR xs + stpR m
    rw [stpR_app xs m, Nat.add_assoc]
theorem stpR_push : ∀ l : List W, stpR (push l) ≤ stpI l
  | [] => Nat.le_refl _
  | [x] => by
    show stp x + 0 ≤ stp x + 1 + 0
    omega
  | x :: y :: r => by
    have := stpR_push (y :: r)
    show stp x + (1 + stpR (push (y :: r))) ≤ stp x + 1 + stpI (y :: r)
    omega
theorem pcsR_app : ∀ l m : List W, pcsR (l ++ m) = pcsR l ++ pcsR m
  | [], m => rfl
  | x :: xs, m => by
    show _ ++ pcsR (xs ++ m) = (_ ++ pcsR xs) ++ pcsR m
    rw [pcsR_app xs m, List.append_assoc]
/-- a value on the stack -/
def val (w : W) : Bool := clean w && okW w
theorem val_nolst {w : W} (h : val w = true) : ∀ t, w ≠ .lst [.str t] := fun t e => by
  subst e
  unfold val at h
  rw [Bool.and_eq_true] at h
  have z := h.2
  cases z
theorem pcsR_cons (x : W) (xs : List W) : pcsR (x :: xs) = (match x with
    | .lst [.str t] => [t.cps.toList]
    | x => pcs x) ++ pcsR xs := rfl
theorem pcsR_val {w : W} {r : List W} (h : val w = true) : pcsR (w :: r) = pcs w ++ pcsR r := by
  have n := val_nolst h
  rw [pcsR_cons]
  congr 1
  split
  · exact absurd rfl (n _)
  · rfl
def vals : List W → Bool
  | [] => true
  | x :: xs => val x && vals xs
theorem vals_of : ∀ {l : List W}, cleans l = true → okWs l = true → vals l = true
  | [], _, _ => rfl
  | x :: xs, c, o => by
    have c : (clean x && cleans xs) = true := c
    have o : (okW x && okWs xs) = true := o
    rw [Bool.and_eq_true] at c o
    show (clean x && okW x && vals xs) = true
    rw [c.1, o.1, vals_of c.2 o.2]
    rfl
theorem pcsR_push : ∀ l : List W, vals l = true → pcsR (push l) = pcsI l
  | [], _ => rfl
  | [x], h => by
    have h : (val x && true) = true := h
    rw [Bool.and_true] at h
    show pcsR [x] = pcs x ++ []
    rw [pcsR_val h]
    rfl
  | x :: y :: r, h => by
    have h : (val x && vals (y :: r)) = true := h
    rw [Bool.and_eq_true] at h
    show pcsR (x :: mk [32] :: push (y :: r)) = pcs x ++ [32] :: pcsI (y :: r)
    rw [pcsR_val h.1]
    show pcs x ++ ([32] :: pcsR (push (y :: r))) = _
    rw [pcsR_push (y :: r) h.2]
/-- what may stand on the stack -/
def onSt : List W → Prop
  | [] => True
  | x :: xs => ((∃ t, x = mk t ∧ txtOk t) ∨ val x = true) ∧ onSt xs
theorem onSt_app : ∀ {l m : List W}, onSt l → onSt m → onSt (l ++ m)
  | [], _, _, h => h
  | _ :: _, _, ⟨a, b⟩, h => ⟨a, onSt_app b h⟩
theorem txt32 : txtOk [32] := ⟨by decide +kernel, by decide⟩
theorem txt40 : txtOk [40] := ⟨by decide +kernel, by decide⟩
theorem txt41 : txtOk [41] := ⟨by decide +kernel, by decide⟩
theorem onSt_push : ∀ {l : List W}, vals l = true → onSt (push l)
  | [], _ => trivial
  | [x], h => by
    have h : (val x && true) = true := h
    rw [Bool.and_true] at h
    exact ⟨.inr h, trivial⟩
  | x :: y :: r, h => by
    have h : (val x && vals (y :: r)) = true := h
    rw [Bool.and_eq_true] at h
    exact ⟨.inr h.1, .inl ⟨[32], rfl, txt32⟩, onSt_push (l := y :: r) h.2⟩
theorem clean_mk {t : List Nat} (h : txtOk t) : clean (mk t) = true := by
  show (PyData.strOk (Tx t) && decide ((Tx t).length ≤ 16777216) && true) = true
  rw [h.1, decide_eq_true (by rw [SX.S_len]; exact h.2)]
  rfl
theorem on_clean {x : W} {xs : List W} (h : onSt (x :: xs)) : clean x = true := by
  rcases h.1 with ⟨t, rfl, ht⟩ | h
  · exact clean_mk ht
  · unfold val at h
    rw [Bool.and_eq_true] at h
    exact h.1
end K88
set_option Elab.async false
set_option linter.all false
set_option maxRecDepth 100000
set_option maxHeartbeats 4000000
/-! K88h: value_text: its loop. -/
namespace K88
open PySem Vi

theorem cleans_D {l : List W} (h : cleans l = true) : allD l = true := List.all_eq_true.mpr fun x hx => clean_D (cleans_mem h hx)
theorem ext_ok {s : Vi.S} {q : Nat} {acc l : List W} {y : W} (h : s.objs[q]? = some (.lst acc)) (hy : itemsOf s y = some l) (hl : acc.length + l.length ≤ sizeMax) (hf : ∀ n, belowWs n l = true) : mExtend s (.adr q) y = .ok .non (s.put q (.lst (acc ++ l))) := by
  unfold mExtend
  show (match s.objs[q]? with
    | some (.lst l') => (match itemsOf s y with
      | some m => if decide (l'.length + m.length ≤ sizeMax) then Res.ok W.non ((s.held q (.lst m)).put q (.lst (l' ++ m))) else .bad
      | none => .bad)
    | _ => .bad) = _
  rw [h, hy]
  show (if decide (acc.length + l.length ≤ sizeMax) = true then Res.ok W.non ((s.held q (.lst l)).put q (.lst (acc ++ l))) else .bad) = _
  rw [if_pos (decide_eq_true hl), held_free (w := .lst l) fun n => hf n]
theorem app_ok {s : Vi.S} {q : Nat} {acc : List W} {y : W} (h : s.objs[q]? = some (.lst acc)) (hl : acc.length < sizeMax) (hy : clean y = true) : mAppend s (.adr q) y = .ok .non (s.put q (.lst (acc ++ [y]))) := by
  unfold mAppend
  show (match s.objs[q]? with
    | some (.lst l) => if isD y && decide (l.length < sizeMax) then Res.ok W.non ((s.held q y).put q (.lst (l ++ [y]))) else .bad
    | _ => .bad) = _
  rw [h]
  show (if (isD y && decide (acc.length < sizeMax)) = true then Res.ok W.non ((s.held q y).put q (.lst (acc ++ [y]))) else .bad) = _
  rw [clean_D hy, decide_eq_true hl, held_free fun n => clean_free n y hy]
  rfl
theorem pop_ok {s : Vi.S} {q : Nat} {acc : List W} {y : W} (h : s.objs[q]? = some (.lst (acc ++ [y]))) : mPop s (.adr q) = .ok y (s.put q (.lst acc)) := by
  unfold mPop
  show (match s.objs[q]? with
    | some (.lst l) => (match l.getLast? with
      | some y => Res.ok y (s.put q (.lst l.dropLast))
      | none => .bad)
    | _ => .bad) = _
  rw [h]
  show (match (acc ++ [y]).getLast? with
    | some z => Res.ok z (s.put q (.lst (acc ++ [y]).dropLast))
    | none => .bad) = _
  rw [List.getLast?_concat, List.dropLast_concat]
theorem isMK_adr {s : Vi.S} {q : Nat} {l : List W} (h : s.objs[q]? = some (.lst l)) : isMK s .lst (.adr q) = true := by
  show (match s.objs[q]? with
    | some (.lst l) => some l
    | _ => none).isSome = true
  rw [h]
  rfl
theorem dM2_ok {f : Vi.S → W → W → Res W} {a b : DE} {c : Ct} {env : Vi.Env} {s s1 s2 s3 : Vi.S} {x y z : W} {k : MK} (h : a c env s = .ok x s1) (hk : isMK s1 k x = true) (h2 : b c env s1 = .ok y s2) (hf : f s2 x y = .ok z s3) : dM2 k f a b c env s = .ok z s3 := by
  unfold dM2
  rw [h]
  show (if isMK s1 k x = true then _ else _) = _
  rw [if_pos hk, h2]
  exact hf
theorem dM1_ok {f : Vi.S → W → Res W} {a : DE} {c : Ct} {env : Vi.Env} {s s1 s3 : Vi.S} {x z : W} {k : MK} (h : a c env s = .ok x s1) (hk : isMK s1 k x = true) (hf : f s1 x = .ok z s3) : dM1 k f a c env s = .ok z s3 := by
  unfold dM1
  rw [h]
  show (if isMK s1 k x = true then f s1 x else _) = _
  rw [if_pos hk]
  exact hf
theorem expr_ok {e : DE} {c : Ct} {env : Vi.Env} {s s1 : Vi.S} {w : W} (h : e c env s = .ok w s1) : sExpr e c env s = .ok (.nx env) s1 := by
  unfold sExpr
  rw [h]
  rfl
theorem lst1_ok {a : DE} {c : Ct} {env : Vi.Env} {s s1 : Vi.S} {x : W} (h : a c env s = .ok x s1) (d : isD x = true) : dLst (daCons a daNil) c env s = .ok (.lst [x]) s1 := by
  unfold dLst daCons daNil
  rw [h]
  show (if (allD [x] && decide (([x] : List W).length ≤ sizeMax)) = true then Res.ok (W.lst [x]) s1 else .bad) = _
  have a : allD [x] = true := by
    show (isD x && true) = true
    rw [d]
    rfl
  rw [a]
  rfl
theorem lst2_ok {a b : DE} {c : Ct} {env : Vi.Env} {s s1 s2 : Vi.S} {x y : W} (h : a c env s = .ok x s1) (h2 : b c env s1 = .ok y s2) (d : isD x = true) (d2 : isD y = true) : dLst (daCons a (daCons b daNil)) c env s = .ok (.lst [x, y]) s2 := by
  unfold dLst daCons daNil
  rw [h]
  show Res.bind (Res.bind (Res.bind (b c env s1) _) _) _ = _
  rw [h2]
  show (if (allD [x, y] && decide (([x, y] : List W).length ≤ sizeMax)) = true then Res.ok (W.lst [x, y]) s2 else .bad) = _
  have a : allD [x, y] = true := by
    show (isD x && (isD y && true)) = true
    rw [d, d2]
    rfl
  rw [a]
  rfl
/-! ### pushing -/
abbrev pushB : DS := (sSeq (sExpr (dM2 .lst mExtend (dV 2) (dIf (tE (d2 opEq (dV 4) (d2 opSub (d1 bLen (dV 3)) (dC (.int 1))))) (dLst (daCons (dV 5) daNil)) (dLst (daCons (dV 5) (daCons (dLst (daCons (dC (tx " ")) daNil)) daNil))))))
 sPass)
abbrev pushT : DG := dgTup 2 (dgCons (dgName 4) (dgCons (dgName 5) dgNil))
theorem push_turn {k a b n i : Nat} {v x : W} {l L : List W} {s : Vi.S} (hb : s.objs[b]? = some (.lst L)) (hl : L.length + 2 ≤ sizeMax) (hx : clean x = true) (hn : l.length = n) (hi : i < n) :
    pushB (ctAt pg k) [some v, some (.adr a), some (.adr b), some (.tup l), some (.int (i : Nat)), some x] s = .ok (.nx [some v, some (.adr a), some (.adr b), some (.tup l), some (.int (i : Nat)), some x]) (s.put b (.lst (L ++ if i + 1 = n then [x] else [x, mk [32]]))) := by
  have t : tE (d2 opEq (dV 4) (d2 opSub (d1 bLen (dV 3)) (dC (.int 1)))) (ctAt pg k) [some v, some (.adr a), some (.adr b), some (.tup l), some (.int (i : Nat)), some x] s = .ok (decide (i + 1 = n)) s := by
    show Res.ok ((i : Int) == (l.length : Int) - 1) s = _
    congr 1
    rw [hn]
    by_cases h : i + 1 = n
    · rw [decide_eq_true h]
      simp
      omega
    · rw [decide_eq_false h]
      simp
      omega
  unfold pushB
  refine (seq_ok (env1 := [some v, some (.adr a), some (.adr b), some (.tup l), some (.int (i : Nat)), some x]) (s1 := s.put b (.lst (L ++ if i + 1 = n then [x] else [x, mk [32]]))) (expr_ok (w := .non) ?_)).trans rfl
  have g : dIf (tE (d2 opEq (dV 4) (d2 opSub (d1 bLen (dV 3)) (dC (.int 1))))) (dLst (daCons (dV 5) daNil)) (dLst (daCons (dV 5) (daCons (dLst (daCons (dC (tx " ")) daNil)) daNil))) (ctAt pg k) [some v, some (.adr a), some (.adr b), some (.tup l), some (.int (i : Nat)), some x] s = .ok (.lst (if i + 1 = n then [x] else [x, mk [32]])) s := by
    rw [dIf_ok t]
    by_cases h : i + 1 = n
    · rw [decide_eq_true h, if_pos rfl, if_pos h]
      exact lst1_ok rfl (clean_D hx)
    · rw [decide_eq_false h, if_neg (by decide), if_neg h]
      exact lst2_ok rfl (lst1_ok (x := tx " ") rfl rfl) (clean_D hx) rfl
  refine dM2_ok (s1 := s) (x := .adr b) rfl (isMK_adr hb) g (ext_ok hb rfl ?_ fun m => ?_)
  · split
    · show L.length + 1 ≤ sizeMax
      omega
    · exact hl
  · split
    · show (belowW m x && true) = true
      rw [clean_free m x hx]
      rfl
    · show (belowW m x && (belowW m (mk [32]) && true)) = true
      rw [clean_free m x hx, clean_free m _ (clean_mk txt32)]
      rfl
theorem for_consG {g : DG} {b : DS} {c : Ct} {x : W} {xs : List W} {env env0 : Vi.Env} {s : Vi.S} {env1 : Vi.Env} {s1 : Vi.S} (hg : g x env s = some env0) (h : b c env0 s = .ok (.nx env1) s1) : forLoop g b c (x :: xs) env s = forLoop g b c xs env1 s1 := by
  show forOne g b c x env s _ = _
  unfold forOne
  rw [hg]
  show Res.bind (b c env0 s) _ = _
  rw [h]
  rfl
theorem push_len : ∀ l : List W, (push l).length ≤ 2 * l.length
  | [] => Nat.le_refl _
  | [x] => by show 1 ≤ 2; omega
  | x :: y :: r => by
    have := push_len (y :: r)
    show (push (y :: r)).length + 1 + 1 ≤ 2 * ((y :: r).length + 1)
    omega
theorem push_loop {k a b n : Nat} {v : W} {l : List W} (hn : l.length = n) : ∀ (xs : List W) (i : Nat) (L : List W) (o4 o5 : Option W) (s : Vi.S), i + xs.length = n → s.objs[b]? = some (.lst L) → L.length + 2 * xs.length ≤ sizeMax → cleans xs = true →
    ∃ p4 p5, forLoop pushT pushB (ctAt pg k) (numbered i xs) [some v, some (.adr a), some (.adr b), some (.tup l), o4, o5] s = .ok (.nx [some v, some (.adr a), some (.adr b), some (.tup l), p4, p5]) (s.put b (.lst (L ++ push xs)))
  | [], i, L, o4, o5, s, _, hb, _, _ => ⟨o4, o5, by
    show Res.ok _ s = Res.ok _ (s.put b (.lst (L ++ [])))
    rw [List.append_nil, put_same hb]⟩
  | x :: xs, i, L, o4, o5, s, hi, hb, hl, hc => by
    have hc : (clean x && cleans xs) = true := hc
    rw [Bool.and_eq_true] at hc
    have hl : L.length + 2 * (xs.length + 1) ≤ sizeMax := hl
    have hi : i + (xs.length + 1) = n := hi
    have tn := push_turn (k := k) (a := a) (v := v) (i := i) hb (by omega) hc.1 hn (by omega)
    have e := for_consG (g := pushT) (xs := numbered (i + 1) xs) (x := .tup [.int (i : Nat), x]) (env := [some v, some (.adr a), some (.adr b), some (.tup l), o4, o5]) (s := s) rfl tn
    have lenP : (L ++ (if i + 1 = n then [x] else [x, mk [32]])).length ≤ L.length + 2 := by
      rw [List.length_append]
      split <;> simp
    obtain ⟨p4, p5, ih⟩ := push_loop (k := k) (a := a) (b := b) (v := v) hn xs (i + 1) (L ++ if i + 1 = n then [x] else [x, mk [32]]) (some (.int (i : Nat))) (some x) (s.put b (.lst (L ++ if i + 1 = n then [x] else [x, mk [32]]))) (by omega) (put_at hb) (by omega) hc.2
    refine ⟨p4, p5, ?_⟩
    show forLoop pushT pushB (ctAt pg k) (.tup [.int (i : Nat), x] :: numbered (i + 1) xs) _ s = _
    rw [e, ih, put_put]
    congr 3
    cases xs with
    | nil =>
      have h : i + 1 = n := by simpa using hi
      rw [if_pos h]
      show L ++ [x] ++ [] = L ++ [x]
      rw [List.append_nil]
    | cons y ys =>
      have h : ¬ i + 1 = n := by
        have : i + ((y :: ys).length + 1) = n := hi
        simp at this
        omega
      rw [if_neg h]
      show L ++ [x, mk [32]] ++ push (y :: ys) = L ++ x :: mk [32] :: push (y :: ys)
      rw [List.append_assoc]
      rfl
end K88
set_option Elab.async false
set_option linter.all false
set_option maxRecDepth 100000
set_option maxHeartbeats 4000000
/-! K88i: numbers' texts. -/
namespace K88
open PySem Vi

theorem intL_nat (n : Nat) : intL (n : Int) = TL.numL n := TL.tl_num n
theorem intL_neg (m : Nat) : intL (Int.negSucc m) = 45 :: TL.numL (m + 1) := by
  unfold intL
  have e : toString (Int.negSucc m) = "-" ++ Nat.repr (m + 1) := rfl
  rw [e, Str.ofString_eq_toList, String.toList_append]
  have e2 : (Nat.repr (m + 1)).toList = Nat.toDigits 10 (m + 1) := by
    show (String.ofList (Nat.toDigits 10 (m + 1))).toList = _
    rw [String.toList_ofList]
  rw [e2]
  show (("-".toList ++ Nat.toDigits 10 (m + 1)).map Char.toNat).toArray.toList = _
  rw [List.map_append]
  rfl
theorem numL_code {n c : Nat} (h : c ∈ TL.numL n) : 48 ≤ c ∧ c ≤ 57 := TL.numL_digits n c h
theorem strOk_of {l : List Nat} (h : ∀ c ∈ l, c < 1114112) : PyData.strOk (Tx l) = true := by
  unfold PyData.strOk
  show (l.toArray).all _ = true
  rw [← Array.all_toList]
  exact List.all_eq_true.mpr fun c hc => decide_eq_true (h c (by simpa using hc))
theorem int_cases (i : Int) : (∃ n : Nat, i = n) ∨ ∃ m : Nat, i = Int.negSucc m := by
  cases i with
  | ofNat n => exact .inl ⟨n, rfl⟩
  | negSucc m => exact .inr ⟨m, rfl⟩
theorem intL_code {i : Int} {c : Nat} (h : c ∈ intL i) : c = 45 ∨ (48 ≤ c ∧ c ≤ 57) := by
  rcases int_cases i with ⟨n, rfl⟩ | ⟨m, rfl⟩
  · rw [intL_nat] at h
    exact .inr (numL_code h)
  · rw [intL_neg] at h
    rcases List.mem_cons.mp h with h | h
    · exact .inl h
    · exact .inr (numL_code h)
theorem fig_bound {i : Int} (h : isFigW (.int i) = true) : i.natAbs < 10 ^ 12 := by
  have h : (if i < 0 then -i else i) < 1000000000000 := of_decide_eq_true h
  split at h <;> omega
theorem intL_len {i : Int} (h : isFigW (.int i) = true) : (intL i).length ≤ 13 := by
  have b := fig_bound h
  rcases int_cases i with ⟨n, rfl⟩ | ⟨m, rfl⟩
  · rw [intL_nat]
    have := TL.numL_len (n := n) (k := 12) (by decide) (by simpa using b)
    omega
  · rw [intL_neg]
    have := TL.numL_len (n := m + 1) (k := 12) (by decide) (by simpa using b)
    show (TL.numL (m + 1)).length + 1 ≤ 13
    omega
theorem intL_ok {i : Int} (h : isFigW (.int i) = true) : txtOk (intL i) := ⟨strOk_of fun c hc => by
  have := intL_code hc
  omega, by have := intL_len h; omega⟩
theorem str_int {s : Vi.S} {i : Int} (h : isFigW (.int i) = true) : bStr s (.int i) = some (.str (Tx (intL i))) := by
  have b := fig_bound h
  have e : (Str.ofString (toString i)) = Tx (intL i) := (SX.S_tl _).symm
  show (if decide (i.natAbs.log2 < 1920) = true then some (W.str (toString i)) else none) = _
  rw [if_pos (decide_eq_true ?_)]
  · exact congrArg (fun x => some (W.str x)) e
  · by_cases z : i.natAbs = 0
    · rw [z]
      decide
    · have := (Nat.log2_lt z (k := 1920)).mpr (Nat.lt_of_lt_of_le b (by decide))
      exact this
/-- the one piece of a leaf -/
def leafL : W → List Nat
  | .non => [45]
  | .int i => intL i
  | .str x => x.cps.toList
  | _ => []
theorem leaf_kinds {w : W} (h : leafOk w = true) : w = .non ∨ (∃ i, w = .int i ∧ isFigW (.int i) = true) ∨ ∃ x, w = .str x ∧ isWordL x.cps.toList = true := by
  cases w with
  | non => exact .inl rfl
  | int i => exact .inr (.inl ⟨i, rfl, h⟩)
  | str x =>
    refine .inr (.inr ⟨x, rfl, ?_⟩)
    have h : (false || isWordL x.cps.toList || false) = true := h
    simpa using h
  | _ => cases h
theorem pcs_leaf {w : W} (h : leafOk w = true) : pcs w = [leafL w] := by
  rcases leaf_kinds h with rfl | ⟨i, rfl, _⟩ | ⟨x, rfl, _⟩ <;> rfl
theorem leaf_txt {w : W} (c : clean w = true) (h : leafOk w = true) : txtOk (leafL w) := by
  rcases leaf_kinds h with rfl | ⟨i, rfl, hi⟩ | ⟨x, rfl, _⟩
  · exact ⟨by decide +kernel, by decide⟩
  · exact intL_ok hi
  · exact (txt_of c).2
theorem leaf_str {k : Nat} {env : Vi.Env} {s : Vi.S} {w : W} {i : Nat} (he : env[i]? = some (some w)) (c : clean w = true) (h : leafOk w = true) : dIf (tE (d1 opIsN (dV i))) (dC (tx "-")) (d1 bStr (dV i)) (ctAt pg k) env s = .ok (.str (Tx (leafL w))) s := by
  have t : tE (d1 opIsN (dV i)) (ctAt pg k) env s = .ok (isNon w) s := tE_ok (d1_ok (dV_ok he) rfl)
  rw [dIf_ok t]
  rcases leaf_kinds h with rfl | ⟨j, rfl, hj⟩ | ⟨x, rfl, _⟩
  · rfl
  · exact d1_ok (dV_ok he) (str_int hj)
  · refine d1_ok (dV_ok he) ?_
    show some (W.str x) = some (W.str (Tx x.cps.toList))
    rw [← (txt_of c).1]
end K88
set_option Elab.async false
set_option linter.all false
set_option maxRecDepth 100000
set_option maxHeartbeats 4000000
/-! K88j: value_text writes the pieces. -/
namespace K88
open PySem Vi

abbrev ts (F : List (List Nat)) : List W := F.map fun t => .str (Tx t)
theorem put_comm {s : Vi.S} {a b : Nat} {o p : O} (h : a ≠ b) : (s.put a o).put b p = (s.put b p).put a o := by
  show (⟨(s.objs.set a o).set b p, s.keep⟩ : Vi.S) = ⟨(s.objs.set b p).set a o, s.keep⟩
  rw [List.set_comm _ _ h]
abbrev wTup : DS := (sSeq (sExpr (dM2 .lst mAppend (dV 2) (dLst (daCons (dC (tx ")")) daNil))))
 (sSeq (sFor (diEnumRev (dV 3)) pushT pushB)
 (sSeq (sExpr (dM2 .lst mAppend (dV 2) (dLst (daCons (dC (tx "(")) daNil))))
 sPass)))
abbrev wLeaf : DS := (sSeq (sExpr (dM2 .lst mAppend (dV 1) (dIf (tE (d1 opIsN (dV 3))) (dC (tx "-")) (d1 bStr (dV 3)))))
 sPass)
abbrev wBody : DS := (sSeq (sSet (dM1 .lst mPop (dV 2)) (dgName 3))
 (sSeq (sIf (tE (dIsi (dV 3) [.lst]))
 (sSeq (sExpr (dM2 .lst mAppend (dV 1) (d2 opIx (dV 3) (dC (.int 0)))))
 sPass)
 (sSeq (sIf (tE (dIsi (dV 3) [.tup]))
 wTup
 wLeaf)
 sPass))
 sPass))
theorem clean_str {t : List Nat} (h : txtOk t) : clean (.str (Tx t)) = true := by
  show (PyData.strOk (Tx t) && decide ((Tx t).length ≤ 16777216)) = true
  rw [h.1, decide_eq_true (by rw [SX.S_len]; exact h.2)]
  rfl
/-- one turn: from the stack x :: R, the texts F -/
theorem body_mark {k a b : Nat} {v : W} {h3 h4 h5 : Option W} {t : List Nat} {R : List W} {F : List (List Nat)} {s : Vi.S} (hab : a ≠ b) (ha : s.objs[a]? = some (.lst (ts F))) (hb : s.objs[b]? = some (.lst (mk t :: R).reverse)) (ht : txtOk t) (hF : F.length < sizeMax) :
    wBody (ctAt pg k) [some v, some (.adr a), some (.adr b), h3, h4, h5] s = .ok (.nx [some v, some (.adr a), some (.adr b), some (mk t), h4, h5]) ((s.put b (.lst R.reverse)).put a (.lst (ts (F ++ [t])))) := by
  rw [List.reverse_cons] at hb
  have st : sSet (dM1 .lst mPop (dV 2)) (dgName 3) (ctAt pg k) [some v, some (.adr a), some (.adr b), h3, h4, h5] s = .ok (.nx [some v, some (.adr a), some (.adr b), some (mk t), h4, h5]) (s.put b (.lst R.reverse)) := set_ok (dM1_ok (s1 := s) (x := .adr b) rfl (isMK_adr hb) (pop_ok hb))
  have ha1 : (s.put b (.lst R.reverse)).objs[a]? = some (.lst (ts F)) := by rw [put_ne hab]; exact ha
  have ex : sExpr (dM2 .lst mAppend (dV 1) (d2 opIx (dV 3) (dC (.int 0)))) (ctAt pg k) [some v, some (.adr a), some (.adr b), some (mk t), h4, h5] (s.put b (.lst R.reverse)) = .ok (.nx [some v, some (.adr a), some (.adr b), some (mk t), h4, h5]) ((s.put b (.lst R.reverse)).put a (.lst (ts F ++ [.str (Tx t)]))) :=
    expr_ok (dM2_ok (s1 := s.put b (.lst R.reverse)) (x := .adr a) rfl (isMK_adr ha1) (s2 := s.put b (.lst R.reverse)) (y := .str (Tx t)) rfl (app_ok ha1 (by show (ts F).length < sizeMax; rw [List.length_map]; exact hF) (clean_str ht)))
  have e : ts (F ++ [t]) = ts F ++ [.str (Tx t)] := by
    show (F ++ [t]).map _ = _
    rw [List.map_append]
    rfl
  rw [e]
  unfold wBody
  rw [seq_ok st]
  refine (seq_ok (env1 := [some v, some (.adr a), some (.adr b), some (mk t), h4, h5]) (s1 := (s.put b (.lst R.reverse)).put a (.lst (ts F ++ [.str (Tx t)]))) ?_).trans rfl
  rw [if_ok (k := true) (s1 := s.put b (.lst R.reverse)) rfl]
  show sSeq _ sPass _ _ _ = _
  exact (seq_ok ex).trans rfl
theorem not_lst {w : W} (h : val w = true) : kd w ≠ .lst := fun e => by
  unfold val at h
  rw [Bool.and_eq_true] at h
  cases w with
  | lst l => exact absurd h.2 (by intro z; cases z)
  | non | bl | int | str | tup => cases e
  | _ => exact absurd h.1 (by intro z; cases z)
theorem body_leaf {k a b : Nat} {v w : W} {h3 h4 h5 : Option W} {R : List W} {F : List (List Nat)} {s : Vi.S} (hab : a ≠ b) (ha : s.objs[a]? = some (.lst (ts F))) (hb : s.objs[b]? = some (.lst (w :: R).reverse)) (hc : clean w = true) (hw : leafOk w = true) (hF : F.length < sizeMax) :
    wBody (ctAt pg k) [some v, some (.adr a), some (.adr b), h3, h4, h5] s = .ok (.nx [some v, some (.adr a), some (.adr b), some w, h4, h5]) ((s.put b (.lst R.reverse)).put a (.lst (ts (F ++ [leafL w])))) := by
  rw [List.reverse_cons] at hb
  have st : sSet (dM1 .lst mPop (dV 2)) (dgName 3) (ctAt pg k) [some v, some (.adr a), some (.adr b), h3, h4, h5] s = .ok (.nx [some v, some (.adr a), some (.adr b), some w, h4, h5]) (s.put b (.lst R.reverse)) := set_ok (dM1_ok (s1 := s) (x := .adr b) rfl (isMK_adr hb) (pop_ok hb))
  have ha1 : (s.put b (.lst R.reverse)).objs[a]? = some (.lst (ts F)) := by rw [put_ne hab]; exact ha
  have ex : sExpr (dM2 .lst mAppend (dV 1) (dIf (tE (d1 opIsN (dV 3))) (dC (tx "-")) (d1 bStr (dV 3)))) (ctAt pg k) [some v, some (.adr a), some (.adr b), some w, h4, h5] (s.put b (.lst R.reverse)) = .ok (.nx [some v, some (.adr a), some (.adr b), some w, h4, h5]) ((s.put b (.lst R.reverse)).put a (.lst (ts F ++ [.str (Tx (leafL w))]))) :=
    expr_ok (dM2_ok (s1 := s.put b (.lst R.reverse)) (x := .adr a) rfl (isMK_adr ha1) (leaf_str rfl hc hw) (app_ok ha1 (by show (ts F).length < sizeMax; rw [List.length_map]; exact hF) (clean_str (leaf_txt hc hw))))
  have e : ts (F ++ [leafL w]) = ts F ++ [.str (Tx (leafL w))] := by
    show (F ++ [leafL w]).map _ = _
    rw [List.map_append]
    rfl
  rw [e]
  have g := clean_good hc
  have n1 : tE (dIsi (dV 3) [.lst]) (ctAt pg k) [some v, some (.adr a), some (.adr b), some w, h4, h5] (s.put b (.lst R.reverse)) = .ok false (s.put b (.lst R.reverse)) := by
    refine (tE_ok (isi_ok (ts := [.lst]) (dV_ok (i := 3) rfl) (kd_ok g))).trans ?_
    rcases leaf_kinds hw with rfl | ⟨j, rfl, _⟩ | ⟨x, rfl, _⟩ <;> rfl
  have n2 : tE (dIsi (dV 3) [.tup]) (ctAt pg k) [some v, some (.adr a), some (.adr b), some w, h4, h5] (s.put b (.lst R.reverse)) = .ok false (s.put b (.lst R.reverse)) := by
    refine (tE_ok (isi_ok (ts := [.tup]) (dV_ok (i := 3) rfl) (kd_ok g))).trans ?_
    rcases leaf_kinds hw with rfl | ⟨j, rfl, _⟩ | ⟨x, rfl, _⟩ <;> rfl
  unfold wBody
  rw [seq_ok st]
  refine (seq_ok (env1 := [some v, some (.adr a), some (.adr b), some w, h4, h5]) (s1 := (s.put b (.lst R.reverse)).put a (.lst (ts F ++ [.str (Tx (leafL w))]))) ?_).trans rfl
  rw [if_ok n1]
  show sSeq (sIf _ _ _) sPass _ _ _ = _
  refine (seq_ok (env1 := [some v, some (.adr a), some (.adr b), some w, h4, h5]) (s1 := (s.put b (.lst R.reverse)).put a (.lst (ts F ++ [.str (Tx (leafL w))]))) ?_).trans rfl
  rw [if_ok n2]
  show wLeaf _ _ _ = _
  unfold wLeaf
  exact (seq_ok ex).trans rfl
theorem body_tup {k a b : Nat} {v : W} {h3 h4 h5 : Option W} {l R : List W} {s : Vi.S} (hb : s.objs[b]? = some (.lst (.tup l :: R).reverse)) (hc : cleans l = true) (hl : R.length + 2 * l.length + 2 ≤ sizeMax) :
    ∃ p4 p5, wBody (ctAt pg k) [some v, some (.adr a), some (.adr b), h3, h4, h5] s = .ok (.nx [some v, some (.adr a), some (.adr b), some (.tup l), p4, p5]) (s.put b (.lst (mk [40] :: (push l ++ mk [41] :: R)).reverse)) := by
  rw [List.reverse_cons] at hb
  have st : sSet (dM1 .lst mPop (dV 2)) (dgName 3) (ctAt pg k) [some v, some (.adr a), some (.adr b), h3, h4, h5] s = .ok (.nx [some v, some (.adr a), some (.adr b), some (.tup l), h4, h5]) (s.put b (.lst R.reverse)) := set_ok (dM1_ok (s1 := s) (x := .adr b) rfl (isMK_adr hb) (pop_ok hb))
  have hb1 : (s.put b (.lst R.reverse)).objs[b]? = some (.lst R.reverse) := put_at hb
  have x1 : sExpr (dM2 .lst mAppend (dV 2) (dLst (daCons (dC (tx ")")) daNil))) (ctAt pg k) [some v, some (.adr a), some (.adr b), some (.tup l), h4, h5] (s.put b (.lst R.reverse)) = .ok (.nx [some v, some (.adr a), some (.adr b), some (.tup l), h4, h5]) (s.put b (.lst (R.reverse ++ [mk [41]]))) := by
    refine (expr_ok (dM2_ok (s1 := s.put b (.lst R.reverse)) (x := .adr b) rfl (isMK_adr hb1) (s2 := s.put b (.lst R.reverse)) (y := mk [41]) (lst1_ok (x := tx ")") rfl rfl) (app_ok hb1 (by rw [List.length_reverse]; omega) (clean_mk txt41)))).trans ?_
    rw [put_put]
  have hb2 : (s.put b (.lst (R.reverse ++ [mk [41]]))).objs[b]? = some (.lst (R.reverse ++ [mk [41]])) := put_at hb
  have cr : cleans l.reverse = true := by
    have : ∀ xs : List W, (∀ x ∈ xs, clean x = true) → cleans xs = true := by
      intro xs
      induction xs with
      | nil => intro _; rfl
      | cons x r ih =>
        intro h
        show (clean x && cleans r) = true
        rw [h x List.mem_cons_self, ih fun y hy => h y (List.mem_cons_of_mem _ hy)]
        rfl
    exact this _ fun x hx => cleans_mem hc (List.mem_reverse.mp hx)
  obtain ⟨p4, p5, lp⟩ := push_loop (k := k) (a := a) (b := b) (v := v) (l := l) rfl l.reverse 0 (R.reverse ++ [mk [41]]) h4 h5 (s.put b (.lst (R.reverse ++ [mk [41]]))) (by simp) hb2 (by simp; omega) cr
  rw [put_put] at lp
  have x2 : sFor (diEnumRev (dV 3)) pushT pushB (ctAt pg k) [some v, some (.adr a), some (.adr b), some (.tup l), h4, h5] (s.put b (.lst (R.reverse ++ [mk [41]]))) = .ok (.nx [some v, some (.adr a), some (.adr b), some (.tup l), p4, p5]) (s.put b (.lst (R.reverse ++ [mk [41]] ++ push l.reverse))) := lp
  have hb3 : (s.put b (.lst (R.reverse ++ [mk [41]] ++ push l.reverse))).objs[b]? = some (.lst (R.reverse ++ [mk [41]] ++ push l.reverse)) := put_at hb
  have pl := push_len l.reverse
  rw [List.length_reverse] at pl
  have x3 : sExpr (dM2 .lst mAppend (dV 2) (dLst (daCons (dC (tx "(")) daNil))) (ctAt pg k) [some v, some (.adr a), some (.adr b), some (.tup l), p4, p5] (s.put b (.lst (R.reverse ++ [mk [41]] ++ push l.reverse))) = .ok (.nx [some v, some (.adr a), some (.adr b), some (.tup l), p4, p5]) (s.put b (.lst (mk [40] :: (push l ++ mk [41] :: R)).reverse)) := by
    refine (expr_ok (dM2_ok (s1 := s.put b (.lst (R.reverse ++ [mk [41]] ++ push l.reverse))) (x := .adr b) rfl (isMK_adr hb3) (s2 := s.put b (.lst (R.reverse ++ [mk [41]] ++ push l.reverse))) (y := mk [40]) (lst1_ok (x := tx "(") rfl rfl) (app_ok hb3 (by simp only [List.length_append, List.length_reverse, List.length_cons, List.length_nil]; omega) (clean_mk txt40)))).trans ?_
    rw [put_put]
    congr 3
    have z := congrArg List.reverse (push_rev l)
    rw [List.reverse_reverse] at z
    rw [z]
    simp
  refine ⟨p4, p5, ?_⟩
  unfold wBody
  rw [seq_ok st]
  refine (seq_ok (env1 := [some v, some (.adr a), some (.adr b), some (.tup l), p4, p5]) (s1 := s.put b (.lst (mk [40] :: (push l ++ mk [41] :: R)).reverse)) ?_).trans rfl
  rw [if_ok (k := false) (s1 := s.put b (.lst R.reverse)) rfl]
  show sSeq (sIf _ _ _) sPass _ _ _ = _
  refine (seq_ok (env1 := [some v, some (.adr a), some (.adr b), some (.tup l), p4, p5]) (s1 := s.put b (.lst (mk [40] :: (push l ++ mk [41] :: R)).reverse)) ?_).trans rfl
  rw [if_ok (k := true) (s1 := s.put b (.lst R.reverse)) rfl]
  show wTup _ _ _ = _
  unfold wTup
  rw [seq_ok x1, seq_ok x2]
  exact (seq_ok x3).trans rfl
theorem while_step {t : DT} {b : DS} {c : Ct} {n : Nat} {env env1 : Vi.Env} {s s0 s1 : Vi.S} (ht : t c env s = .ok true s0) (h : b c env s0 = .ok (.nx env1) s1) : whileLoop t b c (n + 1) env s = whileLoop t b c n env1 s1 := by
  show Res.bind (t c env s) _ = _
  rw [ht]
  show Res.bind (b c env s0) _ = _
  rw [h]
  rfl
theorem while_end {t : DT} {b : DS} {c : Ct} {n : Nat} {env : Vi.Env} {s s0 : Vi.S} (ht : t c env s = .ok false s0) : whileLoop t b c (n + 1) env s = .ok (.nx env) s0 := by
  show Res.bind (t c env s) _ = _
  rw [ht]
  rfl
abbrev wTest : DT := tE (d2 opNe (dV 2) (dLst daNil))
theorem test_ok {k a b : Nat} {v : W} {h3 h4 h5 : Option W} {L : List W} {s : Vi.S} (hb : s.objs[b]? = some (.lst L)) : wTest (ctAt pg k) [some v, some (.adr a), some (.adr b), h3, h4, h5] s = .ok (!L.isEmpty) s := tE_ok (d2_ok (s1 := s) (x := .adr b) (y := .lst []) rfl rfl (ne_nil (see_adr hb)))
theorem write_loop {k a b : Nat} {v : W} (hab : a ≠ b) : ∀ (n : Nat) (R : List W) (F : List (List Nat)) (h3 h4 h5 : Option W) (s : Vi.S), stpR R < n → onSt R → s.objs[a]? = some (.lst (ts F)) → s.objs[b]? = some (.lst R.reverse) → F.length + stpR R ≤ 400000 →
    ∃ p3 p4 p5, whileLoop wTest wBody (ctAt pg k) n [some v, some (.adr a), some (.adr b), h3, h4, h5] s = .ok (.nx [some v, some (.adr a), some (.adr b), p3, p4, p5]) ((s.put b (.lst [])).put a (.lst (ts (F ++ pcsR R))))
  | 0, R, F, h3, h4, h5, s, hn, _, _, _, _ => absurd hn (Nat.not_lt_zero _)
  | n + 1, [], F, h3, h4, h5, s, hn, ho, ha, hb, hF => ⟨h3, h4, h5, by
    have e : (s.put b (.lst [])).put a (.lst (ts (F ++ pcsR []))) = s := by
      rw [put_same (o := .lst []) hb]
      show s.put a (.lst (ts (F ++ []))) = s
      rw [List.append_nil, put_same ha]
    rw [e]
    exact while_end (test_ok hb)⟩
  | n + 1, x :: R, F, h3, h4, h5, s, hn, ho, ha, hb, hF => by
    have tt : wTest (ctAt pg k) [some v, some (.adr a), some (.adr b), h3, h4, h5] s = .ok true s := by
      refine (test_ok hb).trans ?_
      have e : (x :: R).reverse.isEmpty = false := by simp
      rw [e]
      rfl
    have hn : stp x + stpR R < n + 1 := hn
    have hF : F.length + (stp x + stpR R) ≤ 400000 := hF
    have sp := stp_pos x
    have lR := stpR_len R
    rcases ho.1 with ⟨t, rfl, ht⟩ | hv
    · have bd := body_mark (k := k) (v := v) (h3 := h3) (h4 := h4) (h5 := h5) hab ha hb ht (by show F.length < 16777216; omega)
      have ha2 : ((s.put b (.lst R.reverse)).put a (.lst (ts (F ++ [t])))).objs[a]? = some (.lst (ts (F ++ [t]))) := put_at (o := .lst (ts F)) (by rw [put_ne hab]; exact ha)
      have hb2 : ((s.put b (.lst R.reverse)).put a (.lst (ts (F ++ [t])))).objs[b]? = some (.lst R.reverse) := by rw [put_ne (Ne.symm hab)]; exact put_at hb
      obtain ⟨p3, p4, p5, ih⟩ := write_loop (k := k) (v := v) hab n R (F ++ [t]) (some (mk t)) h4 h5 _ (by omega) ho.2 ha2 hb2 (by rw [List.length_append]; simp; omega)
      refine ⟨p3, p4, p5, ?_⟩
      rw [while_step tt bd, ih]
      rw [put_comm (a := a) (b := b) hab, put_put, put_put]
      show Res.ok _ ((s.put b (.lst [])).put a (.lst (ts (F ++ [t] ++ pcsR R)))) = Res.ok _ ((s.put b (.lst [])).put a (.lst (ts (F ++ ([t] ++ pcsR R)))))
      rw [List.append_assoc]
    · have hv2 := hv
      unfold val at hv2
      rw [Bool.and_eq_true] at hv2
      by_cases hx : ∃ l, x = .tup l
      · obtain ⟨l, rfl⟩ := hx
        have hcl : cleans l = true := hv2.1
        have hok : okWs l = true := hv2.2
        have es : stp (.tup l) = 3 + stpI l := rfl
        have lp := stpR_push l
        have ll : l.length ≤ stpI l := by
          have : ∀ xs : List W, xs.length ≤ stpI xs := by
            intro xs
            induction xs with
            | nil => exact Nat.le_refl _
            | cons y r ih =>
              show r.length + 1 ≤ stp y + 1 + stpI r
              omega
          exact this l
        obtain ⟨q4, q5, bd⟩ := body_tup (k := k) (a := a) (v := v) (h3 := h3) (h4 := h4) (h5 := h5) hb hcl (by show R.length + 2 * l.length + 2 ≤ 16777216; omega)
        have vl := vals_of hcl hok
        have ho2 : onSt (mk [40] :: (push l ++ mk [41] :: R)) := ⟨.inl ⟨[40], rfl, txt40⟩, onSt_app (onSt_push vl) ⟨.inl ⟨[41], rfl, txt41⟩, ho.2⟩⟩
        have sR : stpR (mk [40] :: (push l ++ mk [41] :: R)) ≤ 2 + stpI l + stpR R := by
          show 1 + stpR (push l ++ mk [41] :: R) ≤ _
          rw [stpR_app]
          show 1 + (stpR (push l) + (1 + stpR R)) ≤ _
          omega
        have pR : pcsR (mk [40] :: (push l ++ mk [41] :: R)) = pcsR (.tup l :: R) := by
          rw [pcsR_val hv]
          show [40] :: pcsR (push l ++ mk [41] :: R) = ([40] :: (pcsI l ++ [[41]])) ++ pcsR R
          rw [pcsR_app, pcsR_push l vl]
          show [40] :: (pcsI l ++ ([41] :: pcsR R)) = _
          simp
        obtain ⟨p3, p4, p5, ih⟩ := write_loop (k := k) (v := v) hab n (mk [40] :: (push l ++ mk [41] :: R)) F (some (.tup l)) q4 q5 _ (by omega) ho2 (by rw [put_ne hab]; exact ha) (put_at hb) (by omega)
        refine ⟨p3, p4, p5, ?_⟩
        rw [while_step tt bd, ih, put_put, pR]
      · have hw : leafOk x = true := by rw [← okW_leaf fun l e => hx ⟨l, e⟩]; exact hv2.2
        have bd := body_leaf (k := k) (v := v) (h3 := h3) (h4 := h4) (h5 := h5) hab ha hb hv2.1 hw (by show F.length < 16777216; omega)
        have ha2 : ((s.put b (.lst R.reverse)).put a (.lst (ts (F ++ [leafL x])))).objs[a]? = some (.lst (ts (F ++ [leafL x]))) := put_at (o := .lst (ts F)) (by rw [put_ne hab]; exact ha)
        have hb2 : ((s.put b (.lst R.reverse)).put a (.lst (ts (F ++ [leafL x])))).objs[b]? = some (.lst R.reverse) := by rw [put_ne (Ne.symm hab)]; exact put_at hb
        obtain ⟨p3, p4, p5, ih⟩ := write_loop (k := k) (v := v) hab n R (F ++ [leafL x]) (some x) h4 h5 _ (by omega) ho.2 ha2 hb2 (by rw [List.length_append]; simp; omega)
        refine ⟨p3, p4, p5, ?_⟩
        rw [while_step tt bd, ih]
        rw [put_comm (a := a) (b := b) hab, put_put, put_put, pcsR_val hv, pcs_leaf hw, List.append_assoc]
end K88
set_option Elab.async false
set_option linter.all false
set_option maxRecDepth 100000
set_option maxHeartbeats 4000000
/-! K88k: value_text. -/
namespace K88
open PySem Vi

def prL (v : W) : List Nat := (pcs v).flatten
theorem joinL_nil : ∀ l : List (List Nat), TL.joinL [] l = l.flatten
  | [] => rfl
  | [p] => by
    show p = [p].flatten
    simp
  | p :: q :: r => by
    show p ++ ([] ++ TL.joinL [] (q :: r)) = _
    rw [joinL_nil (q :: r)]
    rfl
theorem strs_ts : ∀ F : List (List Nat), strsOf (ts F) = some (F.map Tx)
  | [] => rfl
  | t :: r => by
    show (strsOf (ts r)).map (Tx t :: ·) = _
    rw [strs_ts r]
    rfl
theorem join_ts (sep : List Nat) (F : List (List Nat)) : Txt.join (Tx sep) (F.map Tx) = Tx (TL.joinL sep F) := by
  refine TL.ext_tl ?_
  rw [TL.join_eq, TL.tl_join]
  have e : (F.map Tx).map TL.tl = F := SX.map_S_tl F
  rw [e]
theorem par_ok {i j : Nat} {a b : DE} {c : Ct} {env : Vi.Env} {s s1 s2 : Vi.S} {x y : W} (h : a c env s = .ok x s1) (h2 : b c env s1 = .ok y s2) : sPar [i, j] (daCons a (daCons b daNil)) c env s = .ok (.nx ((env.set i (some x)).set j (some y))) s2 := by
  unfold sPar
  have e : daCons a (daCons b daNil) c env s = .ok [x, y] s2 := by
    show Res.bind (a c env s) _ = _
    rw [h]
    show Res.bind (Res.bind (b c env s1) _) _ = _
    rw [h2]
    rfl
  rw [e]
  rfl
theorem sum_len : ∀ F : List (List Nat), ((F.map Tx).map (·.length)).sum = F.flatten.length
  | [] => rfl
  | t :: r => by
    rw [List.map_cons, List.map_cons, List.sum_cons, sum_len r, SX.S_len]
    simp
theorem join_str {s : Vi.S} {w : W} {sep : List Nat} {F : List (List Nat)} (h : itemsOf s w = some (ts F)) (hl : F.flatten.length + F.length * sep.length ≤ sizeMax) : bJoin s (.str (Tx sep)) w = some (.str (Tx (TL.joinL sep F))) := by
  unfold bJoin
  dsimp only
  rw [h]
  dsimp only
  rw [strs_ts]
  dsimp only
  rw [sum_len, List.length_map, SX.S_len, if_pos (decide_eq_true hl), join_ts]
theorem thr_of {k : Nat} {env : Vi.Env} {s : Vi.S} {x y w : W} {g i : Nat} (he : env[i]? = some (some x)) (h : Thr k (.fn g) [x] y) : dCall g [.inl 0] (daCons (dV i) daNil) (ctAt pg k) env s = .exc y s := by
  unfold dCall daCons daNil
  rw [dV_ok he]
  exact h s
abbrev badText : W := .exc 14 [.int 0]
theorem text_bad {k : Nat} {v : W} (hc : clean v = true) (hs : sz v ≤ 99999) (h : isVal 60 [v] = false) : Thr (k + 3) (.fn 3) [v] badText := fun s => by
  rw [call_fn e3 rfl]
  refine Eq.trans ?_ (leave_ex (s1 := s.enter) (x := badText) (fun _ => rfl) rfl (take_self s))
  congr 1
  show b3 (ctAt pg (k + 2)) [some v, none, none, none, none, none] s.enter = _
  unfold b3
  have iv := isval (k := k) hc hs
  rw [h] at iv
  refine seq_ex ?_
  rw [if_ok (tNot_ok (tE_ok (call1_ok (i := 0) (env := [some v, none, none, none, none, none]) rfl iv)))]
  rfl
theorem text_ok {k : Nat} {v : W} (hc : clean v = true) (hs : sz v ≤ 20000) (h : isVal 60 [v] = true) (hl : (prL v).length ≤ 16777216) : Ret (k + 3) (.fn 3) [v] (.str (Tx (prL v))) := fun s => by
  rw [call_fn e3 rfl]
  have okv : val v = true := by
    have z := isVal_ok h
    have z : (okW v && true) = true := z
    rw [Bool.and_true] at z
    unfold val
    rw [hc, z]
    rfl
  have iv := isval (k := k) hc (by omega)
  rw [h] at iv
  have ss := stp_sz v
  have ab : s.objs.length ≠ s.objs.length + 1 := by omega
  -- the two lists
  have objA : ((s.enter.new (.lst [])).new (.lst [v])).objs[s.objs.length]? = some (.lst (ts [])) := new_old (new_at s.enter (.lst []))
  have objB : ((s.enter.new (.lst [])).new (.lst [v])).objs[s.objs.length + 1]? = some (.lst [v].reverse) := by
    have e : (s.enter.new (.lst [])).objs.length = s.objs.length + 1 := by
      show (s.objs ++ [_]).length = _
      simp
    rw [← e]
    exact new_at _ _
  obtain ⟨p3, p4, p5, lp⟩ := write_loop (k := k + 2) (v := v) ab 100000 [v] [] none none none ((s.enter.new (.lst [])).new (.lst [v])) (by show stp v + 0 < 100000; omega) ⟨.inr okv, trivial⟩ objA objB (by show 0 + (stp v + 0) ≤ 400000; omega)
  have pv : pcsR [v] = pcs v := by
    rw [pcsR_val okv]
    show pcs v ++ [] = _
    rw [List.append_nil]
  rw [List.nil_append, pv] at lp
  generalize hS : (((s.enter.new (.lst [])).new (.lst [v])).put (s.objs.length + 1) (.lst [])).put s.objs.length (.lst (ts (pcs v))) = S2 at lp
  have objA2 : S2.objs[s.objs.length]? = some (.lst (ts (pcs v))) := by
    rw [← hS]
    exact put_at (o := .lst (ts [])) (by rw [put_ne ab]; exact objA)
  have keep2 : S2.keep = s.objs.length :: s.keep := by
    rw [← hS]
    rfl
  have take2 : S2.objs.take s.objs.length = s.objs := by
    rw [← hS]
    show ((((s.objs ++ [O.lst []]) ++ [O.lst [v]]).set (s.objs.length + 1) (.lst [])).set s.objs.length (.lst (ts (pcs v)))).take s.objs.length = s.objs
    rw [List.take_set_of_le (Nat.le_refl _), List.take_set_of_le (by omega), List.append_assoc, List.take_left]
  have fr : free (.str (Tx (prL v))) := fun _ => rfl
  refine Eq.trans ?_ (leave_rt (s1 := S2) (w := .str (Tx (prL v))) rfl fr keep2 take2)
  congr 1
  show b3 (ctAt pg (k + 2)) [some v, none, none, none, none, none] s.enter = _
  unfold b3
  have c1 : sIf (tNot (tE (dCall 2 [.inl 0] (daCons (dV 0) daNil)))) (sSeq (sRaise 14 [.inl 1] (daCons (dC (tx "no value")) (daCons (dC (.int 0)) daNil))) sPass) sPass (ctAt pg (k + 2)) [some v, none, none, none, none, none] s.enter = .ok (.nx [some v, none, none, none, none, none]) s.enter := by
    rw [if_ok (tNot_ok (tE_ok (call1_ok (i := 0) (env := [some v, none, none, none, none, none]) rfl iv)))]
    rfl
  have c2 : sPar [1, 2] (daCons (dLstN daNil) (daCons (dLstN (daCons (dV 0) daNil)) daNil)) (ctAt pg (k + 2)) [some v, none, none, none, none, none] s.enter = .ok (.nx [some v, some (.adr s.objs.length), some (.adr (s.objs.length + 1)), none, none, none]) ((s.enter.new (.lst [])).new (.lst [v])) := by
    have d : isD v = true := clean_D hc
    have l1 : dLstN daNil (ctAt pg (k + 2)) [some v, none, none, none, none, none] s.enter = .ok (.adr s.objs.length) (s.enter.new (.lst [])) := rfl
    have l2 : dLstN (daCons (dV 0) daNil) (ctAt pg (k + 2)) [some v, none, none, none, none, none] (s.enter.new (.lst [])) = .ok (.adr (s.objs.length + 1)) ((s.enter.new (.lst [])).new (.lst [v])) := by
      show (if (allD [v] && decide (([v] : List W).length ≤ sizeMax)) = true then Res.ok (W.adr (s.objs ++ [O.lst []]).length) _ else .bad) = _
      have a : allD [v] = true := by
        show (isD v && true) = true
        rw [d]
        rfl
      rw [a]
      show Res.ok (W.adr (s.objs ++ [O.lst []]).length) _ = _
      rw [List.length_append]
      rfl
    exact par_ok l1 l2
  have c3 : sWhile wTest wBody (ctAt pg (k + 2)) [some v, some (.adr s.objs.length), some (.adr (s.objs.length + 1)), none, none, none] ((s.enter.new (.lst [])).new (.lst [v])) = .ok (.nx [some v, some (.adr s.objs.length), some (.adr (s.objs.length + 1)), p3, p4, p5]) S2 := lp
  have c4 : sRet (dM2 .str (pureM bJoin) (dC (tx "")) (dV 1)) (ctAt pg (k + 2)) [some v, some (.adr s.objs.length), some (.adr (s.objs.length + 1)), p3, p4, p5] S2 = .ok (.rt (.str (Tx (prL v)))) S2 := by
    refine ret_ok (dM2_ok (s1 := S2) (x := tx "") rfl rfl (s2 := S2) (y := .adr s.objs.length) rfl ?_)
    show Res.opt (bJoin S2 (tx "") (.adr s.objs.length)) S2 = _
    have jn : bJoin S2 (tx "") (.adr s.objs.length) = some (.str (Tx (prL v))) := by
      have e0 : tx "" = .str (Tx []) := congrArg W.str (by decide +kernel)
      rw [e0]
      refine (join_str (F := pcs v) ?_ ?_).trans ?_
      · show (match S2.objs[s.objs.length]? with
          | some (.lst l) => some l
          | _ => none) = _
        rw [objA2]
      · show (pcs v).flatten.length + (pcs v).length * 0 ≤ 16777216
        rw [Nat.mul_zero]
        exact hl
      · rw [joinL_nil]
        rfl
    rw [jn]
    rfl
  rw [seq_ok c1, seq_ok c2, seq_ok c3]
  exact seq_rt c4
end K88
set_option Elab.async false
set_option linter.all false
set_option maxRecDepth 100000
set_option maxHeartbeats 4000000
/-! K88l: _law_value_text, _law_plain, _law_is. -/
namespace K88
open PySem Vi

theorem plains_mem : ∀ {n : Nat} {l : List W} {x : W}, plainWs n l = true → x ∈ l → plainW n x = true
  | _, [], _, _, h => by cases h
  | n, y :: ys, x, h, m => by
    have h : (plainW n y && plainWs n ys) = true := by cases n <;> exact h
    rw [Bool.and_eq_true] at h
    rcases List.mem_cons.mp m with e | m
    · rw [e]; exact h.1
    · exact plains_mem h.2 m
theorem pcsI_flat : ∀ l : List W, (pcsI l).flatten = TL.joinL [32] (l.map prL)
  | [] => rfl
  | [x] => by
    show (pcs x ++ []).flatten = prL x
    rw [List.append_nil]
    rfl
  | x :: y :: r => by
    show (pcs x ++ [32] :: pcsI (y :: r)).flatten = prL x ++ ([32] ++ TL.joinL [32] ((y :: r).map prL))
    rw [List.flatten_append, List.flatten_cons, pcsI_flat (y :: r)]
    rfl
theorem prL_tup (l : List W) : prL (.tup l) = [40] ++ TL.joinL [32] (l.map prL) ++ [41] := by
  show ([40] :: (pcsI l ++ [[41]])).flatten = _
  rw [List.flatten_cons, List.flatten_append, pcsI_flat]
  simp
theorem prL_leaf {w : W} (h : leafOk w = true) : prL w = leafL w := by
  unfold prL
  rw [pcs_leaf h]
  simp
theorem joinL_len (sep : List Nat) : ∀ F : List (List Nat), F.flatten.length ≤ (TL.joinL sep F).length
  | [] => Nat.le_refl _
  | [p] => by
    show ([p].flatten).length ≤ p.length
    simp
  | p :: q :: r => by
    have := joinL_len sep (q :: r)
    show (p ++ (q :: r).flatten).length ≤ (p ++ (sep ++ TL.joinL sep (q :: r))).length
    simp only [List.length_append]
    omega
theorem cat_str {s : Vi.S} {l m : List Nat} (h : l.length + m.length ≤ sizeMax) : opAdd s (.str (Tx l)) (.str (Tx m)) = some (.str (Tx (l ++ m))) := by
  show (if okLen ((Tx l).length + (Tx m).length) = true then some (W.str (Tx l ++ Tx m)) else none) = _
  rw [SX.S_len, SX.S_len, show okLen (l.length + m.length) = true from decide_eq_true h, SX.S_cat]
  rfl
theorem szs_mem : ∀ {l : List W} {x : W}, x ∈ l → sz x ≤ szs l
  | [], _, h => by cases h
  | y :: ys, x, h => by
    show sz x ≤ sz y + szs ys
    rcases List.mem_cons.mp h with e | m
    · rw [e]
      omega
    · have := szs_mem m
      omega
theorem flat_mem {F : List (List Nat)} {t : List Nat} (h : t ∈ F) : t.length ≤ F.flatten.length := by
  induction F with
  | nil => cases h
  | cons a r ih =>
    rw [List.flatten_cons, List.length_append]
    rcases List.mem_cons.mp h with e | m
    · rw [e]
      omega
    · have := ih m
      omega
theorem okWs_mem : ∀ {l : List W} {x : W}, okWs l = true → x ∈ l → okW x = true
  | [], _, _, h => by cases h
  | y :: ys, x, h, m => by
    have h : (okW y && okWs ys) = true := h
    rw [Bool.and_eq_true] at h
    rcases List.mem_cons.mp m with e | m
    · rw [e]; exact h.1
    · exact okWs_mem h.2 m
/-- _law_value_text -/
theorem lawtext {k : Nat} : ∀ (n : Nat) (v : W), plainW n v = true → val v = true → sz v ≤ 20000 → (prL v).length ≤ 1000000 → Ret (k + n + 1) (.fn 14) [v] (.str (Tx (prL v))) := by
  intro n
  induction n with
  | zero =>
    intro v hp hv hs hl s
    unfold val at hv
    rw [Bool.and_eq_true] at hv
    have hw : leafOk v = true := by
      rw [← okW_leaf fun l e => by subst e; cases hp]
      exact hv.2
    rw [call_fn e14 rfl]
    refine Eq.trans ?_ (leave_rt (s1 := s.enter) (w := .str (Tx (prL v))) rfl (fun _ => rfl) rfl (take_self s))
    congr 1
    show b14 (ctAt pg (k + 0)) [some v, none, none] s.enter = _
    unfold b14
    have t : tE (dIsi (dV 0) [.tup]) (ctAt pg (k + 0)) [some v, none, none] s.enter = .ok false s.enter := by
      refine (tE_ok (isi_ok (ts := [.tup]) (dV_ok (i := 0) rfl) (kd_ok (clean_good hv.1)))).trans ?_
      rcases leaf_kinds hw with rfl | ⟨j, rfl, _⟩ | ⟨x, rfl, _⟩ <;> rfl
    rw [seq_ok (env1 := [some v, none, none]) (s1 := s.enter) (by rw [if_ok t]; rfl)]
    refine seq_rt (ret_ok ?_)
    rw [prL_leaf hw]
    exact leaf_str rfl hv.1 hw
  | succ n ih =>
    intro v hp hv hs hl s
    have hv2 := hv
    unfold val at hv2
    rw [Bool.and_eq_true] at hv2
    by_cases hx : ∃ l, v = .tup l
    · obtain ⟨l, rfl⟩ := hx
      have hpl : plainWs n l = true := hp
      have hcl : cleans l = true := hv2.1
      have hol : okWs l = true := hv2.2
      have hsl : 1 + szs l ≤ 20000 := hs
      have ll := szs_len l
      rw [prL_tup] at hl
      have jl := joinL_len [32] (l.map prL)
      simp only [List.length_append, List.length_cons, List.length_nil] at hl
      have each : ∀ x ∈ l, Ret (k + n + 1) (.fn 14) [x] (.str (Tx (prL x))) := fun x hx => by
        have q1 := szs_mem hx
        have q2 := flat_mem (List.mem_map.mpr ⟨x, hx, rfl⟩ : prL x ∈ l.map prL)
        exact ih x (plains_mem hpl hx) (by unfold val; rw [cleans_mem hcl hx, okWs_mem hol hx]; rfl) (by omega) (by omega)
      rw [call_fn e14 rfl]
      refine Eq.trans ?_ (leave_rt (s1 := s.enter) (w := .str (Tx (prL (.tup l)))) rfl (fun _ => rfl) rfl (take_self s))
      congr 1
      show b14 (ctAt pg (k + n + 1)) [some (.tup l), none, none] s.enter = _
      unfold b14
      refine seq_rt ?_
      rw [if_ok (k := true) (s1 := s.enter) rfl]
      show sSeq _ sPass _ _ _ = _
      refine seq_rt (ret_ok ?_)
      have lc := dLc_map (vs := [1, 2]) (i := 2) (di := diE (dV 0)) (e := dCall 14 [.inl 0] (daCons (dV 2) daNil)) (c := ctAt pg (k + n + 1)) (env := [some (.tup l), none, none]) (s := s.enter) (s1 := s.enter) (l := l) (f := fun x => .str (Tx (prL x))) rfl (fun x hx => ⟨call1_ok rfl (each x hx), rfl⟩) (by show l.length ≤ 16777216; omega)
      have e1 : l.map (fun x => W.str (Tx (prL x))) = ts (l.map prL) := by
        show _ = (l.map prL).map _
        rw [List.map_map]
        rfl
      rw [e1] at lc
      have e32 : tx " " = .str (Tx [32]) := congrArg W.str (by decide +kernel)
      have e40 : tx "(" = .str (Tx [40]) := congrArg W.str (by decide +kernel)
      have e41 : tx ")" = .str (Tx [41]) := congrArg W.str (by decide +kernel)
      have jn : dM2 .str (pureM bJoin) (dC (tx " ")) (dLc [1, 2] (diE (dV 0)) (dgName 2) Vi.tYes (dCall 14 [.inl 0] (daCons (dV 2) daNil))) (ctAt pg (k + n + 1)) [some (.tup l), none, none] s.enter = .ok (.str (Tx (TL.joinL [32] (l.map prL)))) s.enter := by
        refine dM2_ok (s1 := s.enter) (x := tx " ") rfl rfl lc ?_
        show Res.opt (bJoin s.enter (tx " ") (.lst (ts (l.map prL)))) s.enter = _
        rw [e32, join_str (F := l.map prL) rfl (by
          rw [List.length_map]
          show (l.map prL).flatten.length + l.length * 1 ≤ 16777216
          omega)]
        rfl
      have a1 : d2 opAdd (dC (tx "(")) (dM2 .str (pureM bJoin) (dC (tx " ")) (dLc [1, 2] (diE (dV 0)) (dgName 2) Vi.tYes (dCall 14 [.inl 0] (daCons (dV 2) daNil)))) (ctAt pg (k + n + 1)) [some (.tup l), none, none] s.enter = .ok (.str (Tx ([40] ++ TL.joinL [32] (l.map prL)))) s.enter := d2_ok (s1 := s.enter) (x := tx "(") rfl jn (by
        rw [e40]
        exact cat_str (by show 1 + _ ≤ 16777216; omega))
      rw [prL_tup]
      exact d2_ok a1 (s2 := s.enter) (y := tx ")") rfl (by
        rw [e41]
        exact cat_str (by simp only [List.length_append, List.length_cons, List.length_nil]; show _ ≤ 16777216; omega))
    · have hw : leafOk v = true := by rw [← okW_leaf fun l e => hx ⟨l, e⟩]; exact hv2.2
      rw [call_fn e14 rfl]
      refine Eq.trans ?_ (leave_rt (s1 := s.enter) (w := .str (Tx (prL v))) rfl (fun _ => rfl) rfl (take_self s))
      congr 1
      show b14 (ctAt pg (k + (n + 1))) [some v, none, none] s.enter = _
      unfold b14
      have t : tE (dIsi (dV 0) [.tup]) (ctAt pg (k + (n + 1))) [some v, none, none] s.enter = .ok false s.enter := by
        refine (tE_ok (isi_ok (ts := [.tup]) (dV_ok (i := 0) rfl) (kd_ok (clean_good hv2.1)))).trans ?_
        rcases leaf_kinds hw with rfl | ⟨j, rfl, _⟩ | ⟨x, rfl, _⟩ <;> rfl
      rw [seq_ok (env1 := [some v, none, none]) (s1 := s.enter) (by rw [if_ok t]; rfl)]
      refine seq_rt (ret_ok ?_)
      rw [prL_leaf hw]
      exact leaf_str rfl hv2.1 hw
end K88
set_option Elab.async false
set_option linter.all false
set_option maxRecDepth 100000
set_option maxHeartbeats 4000000
/-! K88m: _law_plain, _law_is. -/
namespace K88
open PySem Vi

theorem lc_none {c : Ct} {env : Vi.Env} {s : Vi.S} {i : Nat} {t : DT} {e : DE} : ∀ {l : List W}, (∀ x ∈ l, t c (env.set i (some x)) s = .ok false s) → lcLoop (dgName i) t e c env l s = .ok [] s
  | [], _ => rfl
  | x :: r, h => by
    have ih := lc_none (e := e) (l := r) fun y hy => h y (List.mem_cons_of_mem _ hy)
    show (match t c (env.set i (some x)) s with
      | .ok k s => if k then _ else lcLoop (dgName i) t e c env r s
      | _ => .bad) = _
    rw [h x List.mem_cons_self]
    exact ih
theorem dLc_none {vs : List Nat} {i : Nat} {di : DI} {t : DT} {e : DE} {c : Ct} {env : Vi.Env} {s s1 : Vi.S} {l : List W} (hi : di c env s = .ok (.inl l) s1) (h : ∀ x ∈ l, t c ((wipeE env vs).set i (some x)) s1 = .ok false s1) : dLc vs di (dgName i) t e c env s = .ok (.lst []) s1 := by
  have lp := lc_none (e := e) h
  unfold dLc lcAll
  rw [hi]
  show (Res.bind (match lcLoop (dgName i) t e c (wipeE env vs) l s1 with
    | .ok ys s => if decide (ys.length ≤ sizeMax) then Res.ok ys s else .bad
    | _ => .bad) fun ys s => Res.ok (W.lst ys) s) = _
  rw [lp]
  rfl
theorem plain_seq {k n : Nat} {v : W} {l : List W} {s : Vi.S} (e : v = .tup l ∨ v = .lst l) (h : ∀ x ∈ l, Ret (k + n + 1) (.fn 12) [x] (.bl true)) : b12 (ctAt pg (k + n + 1)) [some v, none, none] s = .ok (.rt (.bl true)) s := by
  have hi : diE (dV 0) (ctAt pg (k + n + 1)) [some v, none, none] s = .ok (.inl l) s := by
    rcases e with rfl | rfl <;> rfl
  have t : tE (dIsi (dV 0) [.lst, .tup]) (ctAt pg (k + n + 1)) [some v, none, none] s = .ok true s := by
    rcases e with rfl | rfl <;> rfl
  unfold b12
  refine seq_rt ?_
  rw [if_ok t]
  show sSeq _ sPass _ _ _ = _
  refine seq_rt (ret_ok ?_)
  exact d2_ok (dLc_none hi fun x hx => tNot_ok (tE_ok (call1_ok (i := 2) (x := x) rfl (h x hx)))) (s2 := s) (y := .lst []) rfl (eq_nil (L := []) rfl)
/-- _law_plain -/
theorem lawplain {k : Nat} : ∀ (n : Nat) (v : W), plainW n v = true → Ret (k + n + 1) (.fn 12) [v] (.bl true) := by
  have leaf : ∀ (j : Nat) (v : W), (v = .non ∨ (∃ b, v = .bl b) ∨ (∃ i, v = .int i) ∨ ∃ x, v = .str x) → Ret (j + 1) (.fn 12) [v] (.bl true) := fun j v hv s => by
    rw [call_fn e12 rfl]
    refine Eq.trans ?_ (leave_rt (s1 := s.enter) (w := .bl true) rfl (fun _ => rfl) rfl (take_self s))
    rcases hv with rfl | ⟨b, rfl⟩ | ⟨i, rfl⟩ | ⟨x, rfl⟩ <;> rfl
  have sq : ∀ (j : Nat) (v : W) (l : List W) (s : Vi.S), b12 (ctAt pg j) [some v, none, none] s.enter = .ok (.rt (.bl true)) s.enter → callAt pg (j + 1) (.fn 12) [v] s = .ok (.bl true) s := fun j v l s h => by
    rw [call_fn e12 rfl]
    refine Eq.trans ?_ (leave_rt (s1 := s.enter) (w := .bl true) rfl (fun _ => rfl) rfl (take_self s))
    congr 1
  intro n
  induction n with
  | zero =>
    intro v hp
    cases v with
    | non => exact leaf _ _ (.inl rfl)
    | bl b => exact leaf _ _ (.inr (.inl ⟨b, rfl⟩))
    | int i => exact leaf _ _ (.inr (.inr (.inl ⟨i, rfl⟩)))
    | str x => exact leaf _ _ (.inr (.inr (.inr ⟨x, rfl⟩)))
    | _ => cases hp
  | succ n ih =>
    intro v hp
    cases v with
    | non => exact leaf _ _ (.inl rfl)
    | bl b => exact leaf _ _ (.inr (.inl ⟨b, rfl⟩))
    | int i => exact leaf _ _ (.inr (.inr (.inl ⟨i, rfl⟩)))
    | str x => exact leaf _ _ (.inr (.inr (.inr ⟨x, rfl⟩)))
    | tup l =>
      have hp : plainWs n l = true := hp
      exact fun s => sq (k + n + 1) _ l s (plain_seq (n := n) (.inl rfl) fun x hx => ih x (plains_mem hp hx))
    | lst l =>
      have hp : plainWs n l = true := hp
      exact fun s => sq (k + n + 1) _ l s (plain_seq (n := n) (.inr rfl) fun x hx => ih x (plains_mem hp hx))
    | _ => cases hp
/-! ### equal data -/
theorem eqS_self (x : Str) : eqS x x = true := by
  unfold eqS
  exact beq_self_eq_true _
mutual
theorem eqW_self : ∀ (n : Nat) (w : W), plainW n w = true → eqW w w = true
  | _, .non, _ => rfl
  | _, .bl b, _ => by show (b == b) = true; exact beq_self_eq_true _
  | _, .int i, _ => by show (i == i) = true; exact beq_self_eq_true _
  | _, .str x, _ => eqS_self x
  | n + 1, .tup l, h => eqWs_self n l h
  | n + 1, .lst l, h => eqWs_self n l h
  | 0, .tup l, h => by cases h
  | 0, .lst l, h => by cases h
  | n, .dct _, h => by cases n <;> cases h
  | n, .rc _ _, h => by cases n <;> cases h
  | n, .adr _, h => by cases n <;> cases h
  | n, .fn _, h => by cases n <;> cases h
  | n, .clo _ _, h => by cases n <;> cases h
  | n, .exc _ _, h => by cases n <;> cases h
theorem eqWs_self : ∀ (n : Nat) (l : List W), plainWs n l = true → eqWs l l = true
  | _, [], _ => rfl
  | n, x :: xs, h => by
    have h : (plainW n x && plainWs n xs) = true := by cases n <;> exact h
    rw [Bool.and_eq_true] at h
    show (eqW x x && eqWs xs xs) = true
    rw [eqW_self n x h.1, eqWs_self n xs h.2]
    rfl
end
mutual
theorem sameW_self : ∀ (n : Nat) (w : W), plainW n w = true → sameW w w = true
  | _, .non, _ => rfl
  | _, .bl b, _ => by show (b == b) = true; exact beq_self_eq_true _
  | _, .int i, _ => by show (i == i) = true; exact beq_self_eq_true _
  | _, .str x, _ => eqS_self x
  | n + 1, .tup l, h => sameWs_self n l h
  | n + 1, .lst l, h => sameWs_self n l h
  | 0, .tup l, h => by cases h
  | 0, .lst l, h => by cases h
  | n, .dct _, h => by cases n <;> cases h
  | n, .rc _ _, h => by cases n <;> cases h
  | n, .adr _, h => by cases n <;> cases h
  | n, .fn _, h => by cases n <;> cases h
  | n, .clo _ _, h => by cases n <;> cases h
  | n, .exc _ _, h => by cases n <;> cases h
theorem sameWs_self : ∀ (n : Nat) (l : List W), plainWs n l = true → sameWs l l = true
  | _, [], _ => rfl
  | n, x :: xs, h => by
    have h : (plainW n x && plainWs n xs) = true := by cases n <;> exact h
    rw [Bool.and_eq_true] at h
    show (sameW x x && sameWs xs xs) = true
    rw [sameW_self n x h.1, sameWs_self n xs h.2]
    rfl
end
theorem see_plain {s : Vi.S} {w : W} {n : Nat} (h : plainW n w = true) : seeW s w = w := by
  cases w <;> first | rfl | (cases n <;> cases h)
theorem eq_data {s : Vi.S} {x y : W} (hx : plainW 64 x = true) (hy : plainW 64 y = true) : opEq s x y = some (.bl (eqW x y)) := by
  unfold opEq okEq
  rw [see_plain hx, see_plain hy, hx, hy]
  rfl
theorem ne_data {s : Vi.S} {x y : W} (hx : plainW 64 x = true) (hy : plainW 64 y = true) : opNe s x y = some (.bl (!eqW x y)) := by
  unfold opNe okEq
  rw [see_plain hx, see_plain hy, hx, hy]
  rfl
theorem rep_ok {s : Vi.S} {a b : DE} {c : Ct} {env : Vi.Env} {x : W} (ha : a c env s = .ok x s) (hb : b c env s = .ok x s) (hp : plainW 64 x = true) (hr : repOk x = true) : dRepEq a b c env s = .ok (.bl true) s := by
  unfold dRepEq
  rw [ha]
  show (if repOk (seeW s x) = true then _ else _) = _
  rw [see_plain hp, if_pos hr, hb]
  show (if (repOk (seeW s x) && sameW x (seeW s x)) = true then _ else _) = _
  rw [see_plain hp, hr, sameW_self 64 x hp]
  rfl
/-- _law_is of the same data -/
theorem lawis {k : Nat} {x : W} {n : Nat} (hn : plainW n x = true) (hp : plainW 64 x = true) (hr : repOk x = true) : Ret (k + n + 2) (.fn 13) [x, x] (.bl true) := fun s => by
  rw [call_fn e13 rfl]
  refine Eq.trans ?_ (leave_rt (s1 := s.enter) (w := .bl true) rfl (fun _ => rfl) rfl (take_self s))
  congr 1
  have e : opEq s.enter x x = some (.bl true) := by rw [eq_data hp hp, eqW_self 64 x hp]
  have lp := lawplain (k := k) n x hn
  show b13 (ctAt pg (k + n + 1)) [some x, some x] s.enter = _
  unfold b13
  refine seq_rt (ret_ok ?_)
  refine dAnd_ok (x := true) (y := true) (call1_ok rfl lp) (fun _ => ?_) fun z => by cases z
  refine dAnd_ok (x := true) (y := true) (d2_ok (dV_ok rfl) (dV_ok rfl) e) (fun _ => ?_) fun z => by cases z
  refine dAnd_ok (x := true) (y := true) (d2_ok (dV_ok rfl) (dV_ok rfl) e) (fun _ => ?_) fun z => by cases z
  exact rep_ok (dV_ok rfl) (dV_ok rfl) hp hr
end K88
set_option Elab.async false
set_option linter.all false
set_option maxRecDepth 100000
set_option maxHeartbeats 4000000
/-! K88n: pieces_of. -/
namespace K88
open PySem Vi

def isBr (c : Nat) : Bool := c == 40 || c == 41 || c == 32
/-- the pieces of a text -/
def pcsOf : List Nat → List (List Nat)
  | [] => []
  | c :: r => if isBr c then [c] :: pcsOf r else match pcsOf r with
    | (d :: p) :: ps => if isBr d then [c] :: (d :: p) :: ps else (c :: d :: p) :: ps
    | ps => [c] :: ps
theorem pcsOf_head : ∀ {l : List Nat} {p : List Nat} {ps : List (List Nat)}, pcsOf l = p :: ps → ∃ c q r, p = c :: q ∧ l = c :: r
  | [], _, _, h => by cases h
  | c :: r, p, ps, h => by
    unfold pcsOf at h
    split at h
    · cases h
      exact ⟨c, [], r, rfl, rfl⟩
    · split at h
      · split at h
        · cases h
          exact ⟨c, [], r, rfl, rfl⟩
        · cases h
          exact ⟨c, _, r, rfl, rfl⟩
      · cases h
        exact ⟨c, [], r, rfl, rfl⟩
theorem pcsOf_br {c : Nat} {r : List Nat} (h : isBr c = true) : pcsOf (c :: r) = [c] :: pcsOf r := if_pos h
abbrev nb (c : Nat) : Bool := !isBr c
theorem pcsOf_run : ∀ {c : Nat} {r : List Nat}, isBr c = false → pcsOf (c :: r) = (c :: r.takeWhile nb) :: pcsOf (r.dropWhile nb)
  | c, [], h => by
    unfold pcsOf
    rw [h]
    rfl
  | c, d :: r, h => by
    have e : pcsOf (c :: d :: r) = match pcsOf (d :: r) with
      | (d :: p) :: ps => if isBr d then [c] :: (d :: p) :: ps else (c :: d :: p) :: ps
      | ps => [c] :: ps := by
      show (if isBr c = true then _ else _) = _
      rw [h]
      rfl
    rw [e]
    cases hd : isBr d with
    | true =>
      rw [pcsOf_br hd]
      dsimp only
      rw [if_pos hd]
      have n : nb d = false := by
        show (!isBr d) = false
        rw [hd]
        rfl
      rw [List.takeWhile_cons, List.dropWhile_cons, n]
      show [c] :: [d] :: pcsOf r = [c] :: pcsOf (d :: r)
      rw [pcsOf_br hd]
    | false =>
      rw [pcsOf_run hd]
      dsimp only
      rw [hd, if_neg (by decide)]
      have n : nb d = true := by
        show (!isBr d) = true
        rw [hd]
        rfl
      rw [List.takeWhile_cons, List.dropWhile_cons, n]
      rfl
theorem br_mem (c : Nat) : decide (c ∈ (Str.ofString "() ").cps.toList) = isBr c := by
  have e : (Str.ofString "() ").cps.toList = [40, 41, 32] := by decide +kernel
  rw [e]
  unfold isBr
  by_cases h1 : c = 40
  · subst h1; rfl
  · by_cases h2 : c = 41
    · subst h2; rfl
    · by_cases h3 : c = 32
      · subst h3; rfl
      · rw [decide_eq_false (by simp [h1, h2, h3])]
        simp [h1, h2, h3]
theorem ix_str {s : Vi.S} {l : List Nat} {i : Nat} {c : Nat} (h : l[i]? = some c) (hl : l.length ≤ sizeMax) : opIx s (.str (Tx l)) (.int (i : Nat)) = some (.str ⟨#[c]⟩) := by
  have hi := (List.getElem?_eq_some_iff.mp h).1
  show (if okLen (Tx l).length = true then (match L2.ixN (Tx l).length (i : Nat) with
    | some k => strAt (Tx l) k
    | none => none) else none) = _
  rw [SX.S_len, show okLen l.length = true from decide_eq_true hl]
  have e : L2.ixN l.length ((i : Nat) : Int) = some i := by
    unfold L2.ixN
    rw [if_pos (by omega), if_pos (by omega)]
    rfl
  rw [e]
  show (match l.toArray[i]? with
    | some c => some (W.str ⟨#[c]⟩)
    | none => none) = _
  rw [List.getElem?_toArray, h]
theorem notin_br {s : Vi.S} {c : Nat} : opNotIn s (.str ⟨#[c]⟩) (tx "() ") = some (.bl (nb c)) := by
  show (match some (W.bl (hasSub ⟨#[c]⟩ (Str.ofString "() "))) with
    | some (.bl b) => some (W.bl (!b))
    | _ => none) = _
  dsimp only
  rw [hasSub_one, br_mem]
theorem cut_str {s : Vi.S} {l : List Nat} {i j : Nat} (hi : i ≤ j) (hj : j ≤ l.length) (hl : l.length ≤ sizeMax) : sliceOf s (.str (Tx l)) (some (i : Nat)) (some (j : Nat)) = some (.str (Tx ((l.drop i).take (j - i)))) := by
  show (if okLen (Tx l).length = true then some (W.str ⟨(cutL l (some ((i : Nat) : Int)) (some ((j : Nat) : Int))).toArray⟩) else none) = _
  rw [SX.S_len, show okLen l.length = true from decide_eq_true hl]
  unfold cutL
  rw [HT.sIx_nat, HT.sIx_nat, Nat.min_eq_left hj, Nat.min_eq_left (by omega)]
  rfl
/-! ### the loops -/
abbrev runT : DT := (tAnd (tE (d2 opLt (dV 3) (d1 bLen (dV 0)))) (tE (d2 opNotIn (d2 opIx (dV 0) (dV 3)) (dC (tx "() ")))))
abbrev runB : DS := (sSeq (sAug 3 opAddI (dC (.int 1)))
 sPass)
theorem len_str {s : Vi.S} {l : List Nat} (hl : l.length ≤ sizeMax) : bLen s (.str (Tx l)) = some (.int (l.length : Nat)) := by
  show (if okLen (Tx l).length = true then some (W.int ((Tx l).length : Nat)) else none) = _
  rw [SX.S_len, show okLen l.length = true from decide_eq_true hl]
  rfl
theorem lt_len {k i : Nat} {l : List Nat} {f : W} {o : Option W} {env : Vi.Env} {s : Vi.S} {j : Nat} (h0 : env[0]? = some (some (.str (Tx l)))) (hj : env[j]? = some (some (.int (i : Nat)))) (hl : l.length ≤ sizeMax) : tE (d2 opLt (dV j) (d1 bLen (dV 0))) (ctAt pg k) env s = .ok (decide (i < l.length)) s := by
  refine (tE_ok (k := decide ((i : Int) < (l.length : Int))) (d2_ok (dV_ok hj) (d1_ok (dV_ok h0) (len_str hl)) rfl)).trans ?_
  congr 1
  by_cases h : i < l.length
  · rw [decide_eq_true h, decide_eq_true (by omega)]
  · rw [decide_eq_false h, decide_eq_false (by omega)]
theorem not_br {k i c : Nat} {l : List Nat} {env : Vi.Env} {s : Vi.S} {j : Nat} (h0 : env[0]? = some (some (.str (Tx l)))) (hj : env[j]? = some (some (.int (i : Nat)))) (hl : l.length ≤ sizeMax) (hc : l[i]? = some c) : tE (d2 opNotIn (d2 opIx (dV 0) (dV j)) (dC (tx "() "))) (ctAt pg k) env s = .ok (nb c) s :=
  tE_ok (d2_ok (d2_ok (dV_ok h0) (dV_ok hj) (ix_str hc hl)) (s2 := s) (y := tx "() ") rfl notin_br)
theorem run_loop {k q : Nat} {l : List Nat} {at_ : W} (hl : l.length ≤ sizeMax) : ∀ (n : Nat) (r : List Nat) (e : Nat) (s : Vi.S), l.drop e = r → e ≤ l.length → r.length < n →
    whileLoop runT runB (ctAt pg k) n [some (.str (Tx l)), some (.adr q), some at_, some (.int (e : Nat))] s = .ok (.nx [some (.str (Tx l)), some (.adr q), some at_, some (.int ((e + (r.takeWhile nb).length : Nat)))]) s
  | 0, r, e, s, _, _, hn => absurd hn (Nat.not_lt_zero _)
  | n + 1, [], e, s, hr, he, hn => by
    rw [List.drop_eq_nil_iff] at hr
    have t : runT (ctAt pg k) [some (.str (Tx l)), some (.adr q), some at_, some (.int (e : Nat))] s = .ok false s := by
      have a := lt_len (k := k) (f := at_) (o := none) (i := e) (j := 3) (env := [some (.str (Tx l)), some (.adr q), some at_, some (.int (e : Nat))]) (s := s) rfl rfl hl
      rw [decide_eq_false (by omega)] at a
      exact tAnd_ok (y := false) a fun z => by cases z
    exact while_end t
  | n + 1, c :: r, e, s, hr, he, hn => by
    have hc : l[e]? = some c := by
      have z : (l.drop e)[0]? = some c := by rw [hr]; rfl
      rw [List.getElem?_drop] at z
      exact z
    have hlt := (List.getElem?_eq_some_iff.mp hc).1
    have hr2 : l.drop (e + 1) = r := by
      rw [← List.drop_drop, hr]
      rfl
    have a := lt_len (k := k) (f := at_) (o := none) (i := e) (j := 3) (env := [some (.str (Tx l)), some (.adr q), some at_, some (.int (e : Nat))]) (s := s) rfl rfl hl
    rw [decide_eq_true hlt] at a
    have b := not_br (k := k) (i := e) (j := 3) (env := [some (.str (Tx l)), some (.adr q), some at_, some (.int (e : Nat))]) (s := s) rfl rfl hl hc
    have t : runT (ctAt pg k) [some (.str (Tx l)), some (.adr q), some at_, some (.int (e : Nat))] s = .ok (nb c) s := (tAnd_ok a fun _ => b).trans (by rw [Bool.true_and])
    rw [List.takeWhile_cons]
    cases hb : nb c with
    | false =>
      rw [hb] at t
      rw [if_neg (by decide)]
      exact while_end t
    | true =>
      rw [hb] at t
      rw [if_pos rfl]
      have bd : runB (ctAt pg k) [some (.str (Tx l)), some (.adr q), some at_, some (.int (e : Nat))] s = .ok (.nx [some (.str (Tx l)), some (.adr q), some at_, some (.int ((e : Nat) + 1))]) s := rfl
      have e1 : ((e : Nat) : Int) + 1 = ((e + 1 : Nat) : Int) := by omega
      rw [e1] at bd
      rw [while_step t bd, run_loop hl n r (e + 1) s hr2 (by omega) (by simp at hn; omega)]
      rw [show e + 1 + (r.takeWhile nb).length = e + (c :: r.takeWhile nb).length by rw [List.length_cons]; omega]
abbrev pcT : DT := (tE (d2 opLt (dV 2) (d1 bLen (dV 0))))
abbrev pcB : DS := (sSeq (sSet (d2 opAdd (dV 2) (dC (.int 1))) (dgName 3))
 (sSeq (sIf (tE (d2 opNotIn (d2 opIx (dV 0) (dV 2)) (dC (tx "() "))))
 (sSeq (sWhile runT
 runB)
 sPass)
 sPass)
 (sSeq (sExpr (dM2 .lst mAppend (dV 1) (dSlice (dV 0) (some (dV 2)) (some (dV 3)))))
 (sSeq (sSet (dV 3) (dgName 2))
 sPass))))
/-- the piece at i, where it ends -/
def pieceEnd (i : Nat) : List Nat → Nat
  | [] => i
  | c :: r => if isBr c then i + 1 else i + 1 + (r.takeWhile nb).length
theorem take_run : ∀ r : List Nat, r.take (r.takeWhile nb).length = r.takeWhile nb
  | [] => rfl
  | c :: r => by
    rw [List.takeWhile_cons]
    split
    · rw [List.length_cons, List.take_succ_cons, take_run r]
    · rfl
theorem drop_run : ∀ r : List Nat, r.drop (r.takeWhile nb).length = r.dropWhile nb
  | [] => rfl
  | c :: r => by
    rw [List.takeWhile_cons, List.dropWhile_cons]
    split
    · rw [List.length_cons, List.drop_succ_cons, drop_run r]
    · rfl
theorem pc_turn {k q i c : Nat} {l r : List Nat} {F : List (List Nat)} {o3 : Option W} {s : Vi.S} (hl : l.length ≤ sizeMax) (hf : l.length < 100000) (hok : PyData.strOk (Tx l) = true) (hr : l.drop i = c :: r) (hq : s.objs[q]? = some (.lst (ts F))) (hF : F.length < sizeMax) :
    pcB (ctAt pg k) [some (.str (Tx l)), some (.adr q), some (.int (i : Nat)), o3] s = .ok (.nx [some (.str (Tx l)), some (.adr q), some (.int (pieceEnd i (c :: r) : Nat)), some (.int (pieceEnd i (c :: r) : Nat))]) (s.put q (.lst (ts (F ++ [(c :: r).take (pieceEnd i (c :: r) - i)])))) := by
  have hc : l[i]? = some c := by
    have z : (l.drop i)[0]? = some c := by rw [hr]; rfl
    rw [List.getElem?_drop] at z
    exact z
  have hlt := (List.getElem?_eq_some_iff.mp hc).1
  have lenr : r.length + 1 = l.length - i := by
    have z := congrArg List.length hr
    rw [List.length_drop] at z
    simp at z
    omega
  have hr2 : l.drop (i + 1) = r := by
    rw [← List.drop_drop, hr]
    rfl
  have tw : (r.takeWhile nb).length ≤ r.length := (List.takeWhile_prefix nb).length_le
  have pe : i ≤ pieceEnd i (c :: r) ∧ pieceEnd i (c :: r) ≤ l.length := by
    cases hb : isBr c with
    | true =>
      rw [show pieceEnd i (c :: r) = i + 1 from if_pos hb]
      omega
    | false =>
      rw [show pieceEnd i (c :: r) = i + 1 + (r.takeWhile nb).length from if_neg (by rw [hb]; decide)]
      omega
  have st : sSet (d2 opAdd (dV 2) (dC (.int 1))) (dgName 3) (ctAt pg k) [some (.str (Tx l)), some (.adr q), some (.int (i : Nat)), o3] s = .ok (.nx [some (.str (Tx l)), some (.adr q), some (.int (i : Nat)), some (.int ((i + 1 : Nat)))]) s := by
    have e1 : ((i : Nat) : Int) + 1 = ((i + 1 : Nat) : Int) := by omega
    refine (set_ok (w := .int ((i : Nat) + 1)) rfl).trans ?_
    rw [e1]
    rfl
  have t := not_br (k := k) (i := i) (j := 2) (env := [some (.str (Tx l)), some (.adr q), some (.int (i : Nat)), some (.int ((i + 1 : Nat)))]) (s := s) rfl rfl hl hc
  have c2 : sIf (tE (d2 opNotIn (d2 opIx (dV 0) (dV 2)) (dC (tx "() ")))) (sSeq (sWhile runT runB) sPass) sPass (ctAt pg k) [some (.str (Tx l)), some (.adr q), some (.int (i : Nat)), some (.int ((i + 1 : Nat)))] s = .ok (.nx [some (.str (Tx l)), some (.adr q), some (.int (i : Nat)), some (.int (pieceEnd i (c :: r) : Nat))]) s := by
    rw [if_ok t]
    cases hb : isBr c with
    | true =>
      have e : nb c = false := by
        show (!isBr c) = false
        rw [hb]
        rfl
      rw [e, if_neg (by decide)]
      have e2 : pieceEnd i (c :: r) = i + 1 := if_pos hb
      rw [e2]
      rfl
    | false =>
      have e : nb c = true := by
        show (!isBr c) = true
        rw [hb]
        rfl
      rw [e, if_pos rfl]
      have e2 : pieceEnd i (c :: r) = i + 1 + (r.takeWhile nb).length := if_neg (by rw [hb]; decide)
      rw [e2]
      have lp := run_loop (k := k) (q := q) (at_ := .int (i : Nat)) hl 100000 r (i + 1) s hr2 (by omega) (by omega)
      exact (seq_ok (a := sWhile runT runB) (b := sPass) lp).trans rfl
  have sl : dSlice (dV 0) (some (dV 2)) (some (dV 3)) (ctAt pg k) [some (.str (Tx l)), some (.adr q), some (.int (i : Nat)), some (.int (pieceEnd i (c :: r) : Nat))] s = .ok (.str (Tx ((c :: r).take (pieceEnd i (c :: r) - i)))) s := by
    have z := cut_str (s := s) pe.1 pe.2 hl
    rw [hr] at z
    show Res.opt (sliceOf s (.str (Tx l)) (some ((i : Nat) : Int)) (some ((pieceEnd i (c :: r) : Nat) : Int))) s = _
    rw [z]
    rfl
  have tk : txtOk ((c :: r).take (pieceEnd i (c :: r) - i)) := by
    refine ⟨strOk_of fun d hd => ?_, ?_⟩
    · have m : d ∈ l := by
        have := List.mem_of_mem_take hd
        rw [← hr] at this
        exact List.mem_of_mem_drop this
      unfold PyData.strOk at hok
      have hok : (l.toArray).all _ = true := hok
      rw [← Array.all_toList] at hok
      exact of_decide_eq_true (List.all_eq_true.mp hok d (by simpa using m))
    · have : ((c :: r).take (pieceEnd i (c :: r) - i)).length ≤ (c :: r).length := by
        rw [List.length_take]
        omega
      have e : (c :: r).length = r.length + 1 := rfl
      omega
  have ex : sExpr (dM2 .lst mAppend (dV 1) (dSlice (dV 0) (some (dV 2)) (some (dV 3)))) (ctAt pg k) [some (.str (Tx l)), some (.adr q), some (.int (i : Nat)), some (.int (pieceEnd i (c :: r) : Nat))] s = .ok (.nx [some (.str (Tx l)), some (.adr q), some (.int (i : Nat)), some (.int (pieceEnd i (c :: r) : Nat))]) (s.put q (.lst (ts F ++ [.str (Tx ((c :: r).take (pieceEnd i (c :: r) - i)))]))) :=
    expr_ok (dM2_ok (s1 := s) (x := .adr q) rfl (isMK_adr hq) sl (app_ok hq (by show (ts F).length < sizeMax; rw [List.length_map]; exact hF) (clean_str tk)))
  have e : ts (F ++ [(c :: r).take (pieceEnd i (c :: r) - i)]) = ts F ++ [.str (Tx ((c :: r).take (pieceEnd i (c :: r) - i)))] := by
    show (F ++ [_]).map _ = _
    rw [List.map_append]
    rfl
  rw [e]
  unfold pcB
  rw [seq_ok st, seq_ok c2, seq_ok ex]
  rfl
theorem pc_loop {k q : Nat} {l : List Nat} (hl : l.length ≤ sizeMax) (hf : l.length < 100000) (hok : PyData.strOk (Tx l) = true) : ∀ (n : Nat) (r : List Nat) (i : Nat) (F : List (List Nat)) (o3 : Option W) (s : Vi.S), l.drop i = r → i ≤ l.length → r.length < n → s.objs[q]? = some (.lst (ts F)) → F.length + r.length ≤ l.length →
    ∃ p2 p3, whileLoop pcT pcB (ctAt pg k) n [some (.str (Tx l)), some (.adr q), some (.int (i : Nat)), o3] s = .ok (.nx [some (.str (Tx l)), some (.adr q), p2, p3]) (s.put q (.lst (ts (F ++ pcsOf r))))
  | 0, r, i, F, o3, s, _, _, hn, _, _ => absurd hn (Nat.not_lt_zero _)
  | n + 1, [], i, F, o3, s, hr, hi, hn, hq, hF => ⟨some (.int (i : Nat)), o3, by
    rw [List.drop_eq_nil_iff] at hr
    have t := lt_len (k := k) (f := .non) (o := none) (i := i) (j := 2) (env := [some (.str (Tx l)), some (.adr q), some (.int (i : Nat)), o3]) (s := s) rfl rfl hl
    rw [decide_eq_false (by omega)] at t
    show _ = Res.ok _ (s.put q (.lst (ts (F ++ []))))
    rw [List.append_nil, put_same hq]
    exact while_end t⟩
  | n + 1, c :: r, i, F, o3, s, hr, hi, hn, hq, hF => by
    have lenr : r.length + 1 = l.length - i := by
      have z := congrArg List.length hr
      rw [List.length_drop] at z
      simp at z
      omega
    have t := lt_len (k := k) (f := .non) (o := none) (i := i) (j := 2) (env := [some (.str (Tx l)), some (.adr q), some (.int (i : Nat)), o3]) (s := s) rfl rfl hl
    rw [decide_eq_true (by omega)] at t
    have bd := pc_turn (k := k) (o3 := o3) hl hf hok hr hq (by show F.length < 16777216; have : l.length ≤ 16777216 := hl; simp at hF; omega)
    have tw : (r.takeWhile nb).length ≤ r.length := (List.takeWhile_prefix nb).length_le
    have sm : sizeMax = 16777216 := rfl
    simp only [List.length_cons] at hF hn
    cases hb : isBr c with
    | true =>
      have e2 : pieceEnd i (c :: r) = i + 1 := if_pos hb
      rw [e2] at bd
      have e3 : (c :: r).take (i + 1 - i) = [c] := by
        rw [Nat.add_sub_cancel_left]
        rfl
      rw [e3] at bd
      have hr2 : l.drop (i + 1) = r := by
        rw [← List.drop_drop, hr]
        rfl
      obtain ⟨p2, p3, ih⟩ := pc_loop (k := k) (q := q) hl hf hok n r (i + 1) (F ++ [[c]]) (some (.int ((i + 1 : Nat)))) (s.put q (.lst (ts (F ++ [[c]])))) hr2 (by omega) (by omega) (put_at hq) (by rw [List.length_append]; simp; omega)
      refine ⟨p2, p3, ?_⟩
      rw [while_step t bd, ih, put_put, pcsOf_br hb, List.append_assoc]
      rfl
    | false =>
      have e2 : pieceEnd i (c :: r) = i + 1 + (r.takeWhile nb).length := if_neg (by rw [hb]; decide)
      rw [e2] at bd
      have e3 : (c :: r).take (i + 1 + (r.takeWhile nb).length - i) = c :: r.takeWhile nb := by
        rw [show i + 1 + (r.takeWhile nb).length - i = (r.takeWhile nb).length + 1 by omega, List.take_succ_cons, take_run]
      rw [e3] at bd
      have hr2 : l.drop (i + 1 + (r.takeWhile nb).length) = r.dropWhile nb := by
        have z : l.drop (i + 1) = r := by
          rw [← List.drop_drop, hr]
          rfl
        rw [← List.drop_drop, z, drop_run]
      have dl : (r.dropWhile nb).length + (r.takeWhile nb).length = r.length := by
        have z := congrArg List.length (List.takeWhile_append_dropWhile (p := nb) (l := r))
        rw [List.length_append] at z
        omega
      obtain ⟨p2, p3, ih⟩ := pc_loop (k := k) (q := q) hl hf hok n (r.dropWhile nb) (i + 1 + (r.takeWhile nb).length) (F ++ [c :: r.takeWhile nb]) (some (.int ((i + 1 + (r.takeWhile nb).length : Nat)))) (s.put q (.lst (ts (F ++ [c :: r.takeWhile nb])))) hr2 (by omega) (by omega) (put_at hq) (by rw [List.length_append]; simp; omega)
      refine ⟨p2, p3, ?_⟩
      rw [while_step t bd, ih, put_put, pcsOf_run hb, List.append_assoc]
      rfl
end K88
set_option Elab.async false
set_option linter.all false
set_option maxRecDepth 100000
set_option maxHeartbeats 4000000
/-! K88o: pieces_of, plain_of. -/
namespace K88
open PySem Vi

theorem freeze_ts {objs : List O} {n : Nat} : ∀ (F : List (List Nat)) (m : Nat), F.length < m → freezeWs objs n m (ts F) = some (ts F)
  | [], m, h => by
    cases m <;> rfl
  | t :: r, 0, h => absurd h (Nat.not_lt_zero _)
  | t :: r, m + 1, h => by
    have h : r.length + 1 < m + 1 := h
    have ih := freeze_ts (objs := objs) (n := n) r m (by omega)
    obtain ⟨m, rfl⟩ : ∃ j, m = j + 1 := ⟨m - 1, by omega⟩
    show (match freezeW objs n (m + 1) (.str (Tx t)), freezeWs objs n (m + 1) (ts r) with
      | some y, some ys => some (y :: ys)
      | _, _ => none) = _
    rw [ih]
    rfl
theorem leave_fz {s s1 : Vi.S} {q : Nat} {F : List (List Nat)} (hq : s1.objs[q]? = some (.lst (ts F))) (hs : s.objs.length ≤ q) (hF : F.length < 900000) (hk : s1.keep = s.objs.length :: s.keep) (ho : s1.objs.take s.objs.length = s.objs) : leave true s (.ok (.rt (.adr q)) s1) = .ok (.lst (ts F)) s := by
  obtain ⟨o, k⟩ := s1
  have hk : k = s.objs.length :: s.keep := hk
  subst hk
  have hq : o[q]? = some (.lst (ts F)) := hq
  show (if isD (.adr q) then (if true = true ∧ s.objs.length = s.objs.length then (if belowW s.objs.length (.adr q) then Res.ok (.adr q) (Vi.S.back s ⟨o, _⟩ s.keep) else match freezeW o s.objs.length 1000000 (.adr q) with
    | some w' => Res.ok w' (Vi.S.back s ⟨o, _⟩ s.keep)
    | none => _) else _) else .bad) = _
  have b : belowW s.objs.length (.adr q) = false := decide_eq_false (by omega)
  have f : freezeW o s.objs.length 1000000 (.adr q) = some (.lst (ts F)) := by
    show (if q < s.objs.length then some (W.adr q) else (match o[q]? with
      | some (.lst l) => (freezeWs o s.objs.length 999999 l).map .lst
      | some (.dct l) => (freezeKs o s.objs.length 999999 l).map .dct
      | _ => none)) = _
    rw [if_neg (by omega), hq]
    show (freezeWs o s.objs.length 999999 (ts F)).map W.lst = _
    rw [freeze_ts F _ (by omega)]
    rfl
  rw [if_pos (show isD (.adr q) = true from rfl), if_pos (show true = true ∧ s.objs.length = s.objs.length from ⟨rfl, rfl⟩), b, f]
  show Res.ok (W.lst (ts F)) (Vi.S.back s ⟨o, _⟩ s.keep) = _
  rw [back_eq ho _ rfl]
theorem pcsOf_len : ∀ l : List Nat, (pcsOf l).length ≤ l.length
  | [] => Nat.le_refl _
  | c :: r => by
    have ih := pcsOf_len r
    unfold pcsOf
    split
    · show (pcsOf r).length + 1 ≤ r.length + 1
      omega
    · split
      · rename_i d p ps e
        rw [e] at ih
        simp only [List.length_cons] at ih
        split
        · simp only [List.length_cons]
          omega
        · simp only [List.length_cons]
          omega
      · rename_i ps _ 
        simp only [List.length_cons]
        omega
theorem pieces {k : Nat} {l : List Nat} (hf : l.length < 100000) (hok : PyData.strOk (Tx l) = true) : Ret (k + 1) (.fn 4) [.str (Tx l)] (.lst (ts (pcsOf l))) := fun s => by
  rw [call_fn e4 rfl]
  have hl : l.length ≤ sizeMax := by show l.length ≤ 16777216; omega
  obtain ⟨p2, p3, lp⟩ := pc_loop (k := k) (q := s.objs.length) hl hf hok 100000 l 0 [] none (s.enter.new (.lst [])) rfl (Nat.zero_le _) hf (new_at s.enter (.lst [])) (by simp)
  rw [List.nil_append] at lp
  have pl := pcsOf_len l
  generalize hS : (s.enter.new (.lst [])).put s.objs.length (.lst (ts (pcsOf l))) = S2 at lp
  have o2 : S2.objs[s.objs.length]? = some (.lst (ts (pcsOf l))) := by
    rw [← hS]
    exact put_at (new_at s.enter (.lst []))
  have k2 : S2.keep = s.objs.length :: s.keep := by
    rw [← hS]
    rfl
  have t2 : S2.objs.take s.objs.length = s.objs := by
    rw [← hS]
    show ((s.objs ++ [O.lst []]).set s.objs.length (.lst (ts (pcsOf l)))).take s.objs.length = s.objs
    rw [List.take_set_of_le (Nat.le_refl _), List.take_left]
  refine Eq.trans ?_ (leave_fz o2 (Nat.le_refl _) (by omega) k2 t2)
  congr 1
  show b4 (ctAt pg k) [some (.str (Tx l)), none, none, none] s.enter = _
  unfold b4
  have c1 : sPar [1, 2] (daCons (dLstN daNil) (daCons (dC (.int 0)) daNil)) (ctAt pg k) [some (.str (Tx l)), none, none, none] s.enter = .ok (.nx [some (.str (Tx l)), some (.adr s.objs.length), some (.int (0 : Nat)), none]) (s.enter.new (.lst [])) := par_ok rfl rfl
  have c2 : sWhile pcT pcB (ctAt pg k) [some (.str (Tx l)), some (.adr s.objs.length), some (.int (0 : Nat)), none] (s.enter.new (.lst [])) = .ok (.nx [some (.str (Tx l)), some (.adr s.objs.length), p2, p3]) S2 := lp
  rw [seq_ok c1, seq_ok c2]
  exact seq_rt (ret_ok rfl)
/-! ### plain_of -/
def digL (c : Nat) : Bool := decide (48 ≤ c) && decide (c ≤ 57)
def bareOf (p : List Nat) : List Nat := if p.take 1 == [45] then p.drop 1 else p
def plainOf (p : List Nat) : Option W :=
  if p == [45] then some .non else if isWordL p then some (.str (Tx p)) else
    if decide (1 ≤ (bareOf p).length) && decide ((bareOf p).length ≤ 12) && (bareOf p).all digL then
      (match intText? (Tx p) with
      | some i => if intL i == p then some (.int i) else none
      | none => none) else none
/-- one value, or none -/
def optL : Option W → W
  | some w => .lst [w]
  | none => .lst []
theorem dig_mem (c : Nat) : decide (c ∈ (Str.ofString "0123456789").cps.toList) = digL c := by
  have e : (Str.ofString "0123456789").cps.toList = List.range' 48 10 := by decide +kernel
  rw [e]
  unfold digL
  by_cases h : 48 ≤ c ∧ c ≤ 57
  · rw [decide_eq_true (List.mem_range'_1.mpr ⟨h.1, by omega⟩), decide_eq_true h.1, decide_eq_true h.2]
    rfl
  · have n : c ∉ List.range' 48 10 := fun z => h (by have := List.mem_range'_1.mp z; omega)
    rw [decide_eq_false n]
    by_cases h1 : 48 ≤ c
    · rw [decide_eq_false (show ¬ c ≤ 57 from fun z => h ⟨h1, z⟩), Bool.and_false]
    · rw [decide_eq_false h1, Bool.false_and]
theorem val_lt : ∀ (l : List Nat) (a : Nat), (∀ c ∈ l, c ≤ 57) → l.foldl (fun acc c => acc * 10 + (c - 48)) a < (a + 1) * 10 ^ l.length
  | [], a, _ => by
    show a < (a + 1) * 1
    omega
  | c :: r, a, h => by
    have ih := val_lt r (a * 10 + (c - 48)) fun d hd => h d (List.mem_cons_of_mem _ hd)
    have hc := h c List.mem_cons_self
    rw [List.foldl_cons]
    have e : (a + 1) * 10 ^ (c :: r).length = ((a + 1) * 10) * 10 ^ r.length := by
      rw [List.length_cons, Nat.pow_succ, Nat.mul_comm (10 ^ r.length) 10, Nat.mul_assoc]
    rw [e]
    refine Nat.lt_of_lt_of_le ih (Nat.mul_le_mul_right _ ?_)
    omega
theorem digits_of {l : List Nat} (h : l.all digL = true) : NumText.AllDigits l := fun c hc => by
  have z := List.all_eq_true.mp h c hc
  unfold digL at z
  rw [Bool.and_eq_true, decide_eq_true_eq, decide_eq_true_eq] at z
  exact z
theorem digitsVal_lt {l : List Nat} (h : l.all digL = true) (h2 : l.length ≤ 12) : NumText.digitsVal l < 10 ^ 12 := by
  have z := val_lt l 0 fun c hc => (digits_of h c hc).2
  unfold NumText.digitsVal
  rw [Nat.zero_add, Nat.one_mul] at z
  exact Nat.lt_of_lt_of_le z (Nat.pow_le_pow_right (by decide) h2)
theorem fig_of {i : Int} (h : i.natAbs < 1000000000000) : isFigW (.int i) = true := by
  unfold isFigW
  refine decide_eq_true ?_
  split <;> omega
/-- what int() reads of such a piece -/
theorem int_piece {p : List Nat} (h1 : 1 ≤ (bareOf p).length) (h2 : (bareOf p).length ≤ 12) (h3 : (bareOf p).all digL = true) : ∃ i, intText? (Tx p) = some i ∧ isFigW (.int i) = true ∧ p.length ≤ 13 := by
  unfold bareOf at h1 h2 h3
  split at h1
  · rename_i e
    rw [if_pos e] at h2 h3
    have e : p.take 1 = [45] := by simpa using e
    cases p with
    | nil => cases e
    | cons c r =>
      have ec : c = 45 := by simpa using e
      subst ec
      rw [List.drop_succ_cons, List.drop_zero] at h1 h2 h3
      have nr : r ≠ [] := by
        intro z
        subst z
        exact absurd h1 (by decide)
      refine ⟨_, intText_neg (x := Tx (45 :: r)) rfl (digits_of h3) nr (by rw [SX.S_len, List.length_cons]; omega), ?_, by rw [List.length_cons]; omega⟩
      have b := digitsVal_lt h3 h2
      generalize NumText.digitsVal r = m at b
      exact fig_of (by simp at b; omega)
  · rename_i e
    rw [if_neg e] at h2 h3
    have np : p ≠ [] := by
      intro z
      subst z
      exact absurd h1 (by decide)
    refine ⟨_, intText_digits (x := Tx p) (digits_of h3) np (by rw [SX.S_len]; omega), ?_, by omega⟩
    have b := digitsVal_lt h3 h2
    have e2 : NumText.digitsVal (Tx p).cps.toList = NumText.digitsVal p := rfl
    rw [e2]
    generalize NumText.digitsVal p = m at b
    exact fig_of (by simp at b; omega)
end K88
namespace K88
open PySem Vi

theorem cut_to1 {s : Vi.S} {l : List Nat} (hl : l.length ≤ sizeMax) : sliceOf s (.str (Tx l)) none (some 1) = some (.str (Tx (l.take 1))) := by
  show (if okLen (Tx l).length = true then some (W.str ⟨(cutL l none (some 1)).toArray⟩) else none) = _
  rw [SX.S_len, show okLen l.length = true from decide_eq_true hl]
  have e : cutL l none (some 1) = l.take 1 := by
    unfold cutL
    have z : HT.sIx l.length l.length (some 1) = min 1 l.length := HT.sIx_nat _ _ 1
    rw [z]
    show (l.drop 0).take (min 1 l.length - 0) = _
    rw [List.drop_zero, Nat.sub_zero]
    cases l with
    | nil => rfl
    | cons c r =>
      have : min 1 (c :: r).length = 1 := by
        rw [List.length_cons]
        omega
      rw [this]
  rw [e]
  rfl
theorem cut_from1 {s : Vi.S} {l : List Nat} (hl : l.length ≤ sizeMax) : sliceOf s (.str (Tx l)) (some 1) none = some (.str (Tx (l.drop 1))) := by
  show (if okLen (Tx l).length = true then some (W.str ⟨(cutL l (some 1) none).toArray⟩) else none) = _
  rw [SX.S_len, show okLen l.length = true from decide_eq_true hl]
  have e : cutL l (some 1) none = l.drop 1 := by
    unfold cutL
    have z : HT.sIx l.length 0 (some 1) = min 1 l.length := HT.sIx_nat _ _ 1
    rw [z]
    show (l.drop (min 1 l.length)).take (l.length - min 1 l.length) = _
    cases l with
    | nil => rfl
    | cons c r =>
      have : min 1 (c :: r).length = 1 := by
        rw [List.length_cons]
        omega
      rw [this]
      show r.take (r.length + 1 - 1) = r
      rw [Nat.add_sub_cancel, List.take_length]
  rw [e]
  rfl
theorem ok_sub {l m : List Nat} (h : txtOk l) (hs : ∀ c ∈ m, c ∈ l) (hl : m.length ≤ l.length) : txtOk m := by
  refine ⟨strOk_of fun d hd => ?_, Nat.le_trans hl h.2⟩
  have hok := h.1
  unfold PyData.strOk at hok
  have hok : (l.toArray).all _ = true := hok
  rw [← Array.all_toList] at hok
  exact of_decide_eq_true (List.all_eq_true.mp hok d (by simpa using hs d hd))
theorem bare_sub (p : List Nat) : (∀ c ∈ bareOf p, c ∈ p) ∧ (bareOf p).length ≤ p.length := by
  unfold bareOf
  split
  · exact ⟨fun c hc => List.mem_of_mem_drop hc, by rw [List.length_drop]; omega⟩
  · exact ⟨fun c hc => hc, Nat.le_refl _⟩
theorem tOr_ok {a b : DT} {c : Ct} {env : Vi.Env} {s s1 : Vi.S} {x y : Bool} (h : a c env s = .ok x s1) (h2 : x = false → b c env s1 = .ok y s1) : tOr a b c env s = .ok (x || y) s1 := by
  unfold tOr
  rw [h]
  cases x with
  | true => rfl
  | false => exact h2 rfl
theorem nil_ok {c : Ct} {env : Vi.Env} {s : Vi.S} : dLst daNil c env s = .ok (.lst []) s := rfl
theorem plainof {k : Nat} {p : List Nat} (hp : txtOk p) : Ret (k + 2) (.fn 5) [.str (Tx p)] (optL (plainOf p)) := fun s => by
  rw [call_fn e5 rfl]
  have ret : ∀ w, clean w = true → b5 (ctAt pg (k + 1)) [some (.str (Tx p)), none, none, none] s.enter = .ok (.rt (.lst [w])) s.enter → leave true s (b5 (ctAt pg (k + 1)) [some (.str (Tx p)), none, none, none] s.enter) = .ok (.lst [w]) s := fun w hw h => by
    rw [h]
    exact leave_rt (s1 := s.enter) rfl (fun n => by
      show (belowW n w && true) = true
      rw [clean_free n w hw]
      rfl) rfl (take_self s)
  have ret0 : b5 (ctAt pg (k + 1)) [some (.str (Tx p)), none, none, none] s.enter = .ok (.rt (.lst [])) s.enter → leave true s (b5 (ctAt pg (k + 1)) [some (.str (Tx p)), none, none, none] s.enter) = .ok (.lst []) s := fun h => by
    rw [h]
    exact leave_rt (s1 := s.enter) rfl (fun n => rfl) rfl (take_self s)
  have hl : p.length ≤ sizeMax := hp.2
  have t45 : tx "-" = .str (Tx [45]) := congrArg W.str (by decide +kernel)
  have ok45 : PyData.strOk (Tx [45]) = true := by decide +kernel
  have t1 : tE (d2 opEq (dV 0) (dC (tx "-"))) (ctAt pg (k + 1)) [some (.str (Tx p)), none, none, none] s.enter = .ok (p == [45]) s.enter := by
    rw [t45]
    exact tE_ok (d2_ok (dV_ok rfl) rfl (eq_str hp.1 ok45))
  show leave true s (b5 (ctAt pg (k + 1)) [some (.str (Tx p)), none, none, none] s.enter) = .ok (optL (plainOf p)) s
  unfold plainOf
  cases z1 : (p == [45]) with
  | true =>
    rw [z1] at t1
    rw [if_pos rfl]
    refine ret .non rfl ?_
    unfold b5
    refine seq_rt ?_
    rw [if_ok t1]
    rfl
  | false =>
    rw [z1] at t1
    rw [if_neg (by decide)]
    have w := word_str (k := k) hp
    have t2 : tE (dCall 0 [.inl 0] (daCons (dV 0) daNil)) (ctAt pg (k + 1)) [some (.str (Tx p)), none, none, none] s.enter = .ok (isWordL p) s.enter := tE_ok (call1_ok rfl w)
    cases z2 : isWordL p with
    | true =>
      rw [z2] at t2
      rw [if_pos rfl]
      refine ret (.str (Tx p)) (clean_str hp) ?_
      unfold b5
      rw [seq_ok (env1 := [some (.str (Tx p)), none, none, none]) (s1 := s.enter) (by rw [if_ok t1]; rfl)]
      refine seq_rt ?_
      rw [if_ok t2]
      rfl
    | false =>
      rw [z2] at t2
      rw [if_neg (by decide)]
      have pre : b5 (ctAt pg (k + 1)) [some (.str (Tx p)), none, none, none] s.enter = (sSeq (sSet (dIf (tE (d2 opEq (dSlice (dV 0) none (some (dC (.int 1)))) (dC (tx "-")))) (dSlice (dV 0) (some (dC (.int 1))) none) (dV 0)) (dgName 1))
 (sSeq (sIf (tOr (tNot (tE (dChain opLe opLe (dC (.int 1)) (d1 bLen (dV 1)) (dC (.int 12))))) (tNot (tE (d1 bAll (dLc [2, 3] (diE (dV 1)) (dgName 3) Vi.tYes (d2 opIn (dV 3) (dC (tx "0123456789"))))))))
 (sSeq (sRet (dLst daNil))
 sPass)
 sPass)
 (sSeq (sRet (dIf (tE (d2 opEq (d1 bStr (d1 bInt (dV 0))) (dV 0))) (dLst (daCons (d1 bInt (dV 0)) daNil)) (dLst daNil)))
 sPass))) (ctAt pg (k + 1)) [some (.str (Tx p)), none, none, none] s.enter := by
        unfold b5
        rw [seq_ok (env1 := [some (.str (Tx p)), none, none, none]) (s1 := s.enter) (by rw [if_ok t1]; rfl)]
        rw [seq_ok (env1 := [some (.str (Tx p)), none, none, none]) (s1 := s.enter) (by rw [if_ok t2]; rfl)]
      have sl : dSlice (dV 0) none (some (dC (.int 1))) (ctAt pg (k + 1)) [some (.str (Tx p)), none, none, none] s.enter = .ok (.str (Tx (p.take 1))) s.enter := by
        show Res.opt (sliceOf s.enter (.str (Tx p)) none (some 1)) s.enter = _
        rw [cut_to1 hl]
        rfl
      have sl2 : dSlice (dV 0) (some (dC (.int 1))) none (ctAt pg (k + 1)) [some (.str (Tx p)), none, none, none] s.enter = .ok (.str (Tx (p.drop 1))) s.enter := by
        show Res.opt (sliceOf s.enter (.str (Tx p)) (some 1) none) s.enter = _
        rw [cut_from1 hl]
        rfl
      have ok1 : PyData.strOk (Tx (p.take 1)) = true := (ok_sub hp (fun c hc => List.mem_of_mem_take hc) (by rw [List.length_take]; omega)).1
      have c1 : sSet (dIf (tE (d2 opEq (dSlice (dV 0) none (some (dC (.int 1)))) (dC (tx "-")))) (dSlice (dV 0) (some (dC (.int 1))) none) (dV 0)) (dgName 1) (ctAt pg (k + 1)) [some (.str (Tx p)), none, none, none] s.enter = .ok (.nx [some (.str (Tx p)), some (.str (Tx (bareOf p))), none, none]) s.enter := by
        refine set_ok (w := .str (Tx (bareOf p))) ?_
        have t3 : tE (d2 opEq (dSlice (dV 0) none (some (dC (.int 1)))) (dC (tx "-"))) (ctAt pg (k + 1)) [some (.str (Tx p)), none, none, none] s.enter = .ok (p.take 1 == [45]) s.enter := by
          rw [t45]
          exact tE_ok (d2_ok sl rfl (eq_str ok1 ok45))
        rw [dIf_ok t3]
        unfold bareOf
        cases (p.take 1 == [45]) with
        | true => exact sl2
        | false => rfl
      have hb := ok_sub hp (bare_sub p).1 (bare_sub p).2
      have ch : dChain opLe opLe (dC (.int 1)) (d1 bLen (dV 1)) (dC (.int 12)) (ctAt pg (k + 1)) [some (.str (Tx p)), some (.str (Tx (bareOf p))), none, none] s.enter = .ok (.bl (decide (1 ≤ (bareOf p).length) && decide ((bareOf p).length ≤ 12))) s.enter := by
        have ln : d1 bLen (dV 1) (ctAt pg (k + 1)) [some (.str (Tx p)), some (.str (Tx (bareOf p))), none, none] s.enter = .ok (.int ((bareOf p).length : Nat)) s.enter := d1_ok (dV_ok rfl) (len_str hb.2)
        unfold dChain
        show Res.bind (d1 bLen (dV 1) _ _ _) _ = _
        rw [ln]
        show (match some (W.bl (decide ((1 : Int) ≤ ((bareOf p).length : Int)))) with
          | some (.bl true) => Res.ok (W.bl (decide (((bareOf p).length : Int) ≤ 12))) s.enter
          | some (.bl false) => Res.ok (W.bl false) s.enter
          | _ => .bad) = _
        by_cases g1 : 1 ≤ (bareOf p).length
        · rw [decide_eq_true (show (1 : Int) ≤ ((bareOf p).length : Int) by omega), decide_eq_true g1]
          dsimp only
          rw [Bool.true_and]
          by_cases g2 : (bareOf p).length ≤ 12
          · rw [decide_eq_true g2, decide_eq_true (by omega)]
          · rw [decide_eq_false g2, decide_eq_false (by omega)]
        · rw [decide_eq_false (show ¬ (1 : Int) ≤ ((bareOf p).length : Int) by omega), decide_eq_false g1]
          rfl
      have al := all_in (tb := Str.ofString "0123456789") dig_mem (vs := [2, 3]) (i := 3) (j := 1) (c := ctAt pg (k + 1)) (env := [some (.str (Tx p)), some (.str (Tx (bareOf p))), none, none]) (s := s.enter) rfl (show 3 < 4 by decide) hb.2
      have t4 : tOr (tNot (tE (dChain opLe opLe (dC (.int 1)) (d1 bLen (dV 1)) (dC (.int 12))))) (tNot (tE (d1 bAll (dLc [2, 3] (diE (dV 1)) (dgName 3) Vi.tYes (d2 opIn (dV 3) (dC (tx "0123456789"))))))) (ctAt pg (k + 1)) [some (.str (Tx p)), some (.str (Tx (bareOf p))), none, none] s.enter = .ok (!(decide (1 ≤ (bareOf p).length) && decide ((bareOf p).length ≤ 12)) || !(bareOf p).all digL) s.enter :=
        tOr_ok (tNot_ok (tE_ok ch)) fun _ => tNot_ok (tE_ok al)
      cases z3 : (decide (1 ≤ (bareOf p).length) && decide ((bareOf p).length ≤ 12) && (bareOf p).all digL) with
      | false =>
        have e4 : (!(decide (1 ≤ (bareOf p).length) && decide ((bareOf p).length ≤ 12)) || !(bareOf p).all digL) = true := by
          rw [← Bool.not_and, z3]
          rfl
        rw [e4] at t4
        rw [if_neg (by decide)]
        refine ret0 ?_
        rw [pre, seq_ok c1]
        refine seq_rt ?_
        rw [if_ok t4]
        rfl
      | true =>
        have e4 : (!(decide (1 ≤ (bareOf p).length) && decide ((bareOf p).length ≤ 12)) || !(bareOf p).all digL) = false := by
          rw [← Bool.not_and, z3]
          rfl
        rw [e4] at t4
        rw [if_pos rfl]
        rw [Bool.and_eq_true, Bool.and_eq_true, decide_eq_true_eq, decide_eq_true_eq] at z3
        obtain ⟨i, hi, fi, len13⟩ := int_piece z3.1.1 z3.1.2 z3.2
        rw [hi]
        have bi : d1 bInt (dV 0) (ctAt pg (k + 1)) [some (.str (Tx p)), some (.str (Tx (bareOf p))), none, none] s.enter = .ok (.int i) s.enter := by
          refine d1_ok (dV_ok (w := .str (Tx p)) rfl) ?_
          show (if decide ((Tx p).length ≤ 640) = true then (intText? (Tx p)).map W.int else none) = _
          rw [if_pos (decide_eq_true (by rw [SX.S_len]; omega)), hi]
          rfl
        have t5 : tE (d2 opEq (d1 bStr (d1 bInt (dV 0))) (dV 0)) (ctAt pg (k + 1)) [some (.str (Tx p)), some (.str (Tx (bareOf p))), none, none] s.enter = .ok (intL i == p) s.enter :=
          tE_ok (d2_ok (d1_ok bi (str_int fi)) (dV_ok rfl) (eq_str (intL_ok fi).1 hp.1))
        have fin : b5 (ctAt pg (k + 1)) [some (.str (Tx p)), none, none, none] s.enter = sSeq (sRet (dIf (tE (d2 opEq (d1 bStr (d1 bInt (dV 0))) (dV 0))) (dLst (daCons (d1 bInt (dV 0)) daNil)) (dLst daNil))) sPass (ctAt pg (k + 1)) [some (.str (Tx p)), some (.str (Tx (bareOf p))), none, none] s.enter := by
          rw [pre, seq_ok c1]
          rw [seq_ok (env1 := [some (.str (Tx p)), some (.str (Tx (bareOf p))), none, none]) (s1 := s.enter) (by rw [if_ok t4]; rfl)]
        dsimp only
        cases z5 : (intL i == p) with
        | true =>
          rw [z5] at t5
          rw [if_pos rfl]
          refine ret (.int i) rfl ?_
          rw [fin]
          refine seq_rt (ret_ok ?_)
          rw [dIf_ok t5]
          exact lst1_ok bi rfl
        | false =>
          rw [z5] at t5
          rw [if_neg (by decide)]
          refine ret0 ?_
          rw [fin]
          refine seq_rt (ret_ok ?_)
          rw [dIf_ok t5]
          rfl
end K88
set_option Elab.async false
set_option linter.all false
set_option maxRecDepth 100000
set_option maxHeartbeats 4000000
/-! K88p: value_of: one turn. -/
namespace K88
open PySem Vi

/-- the open tuples (the innermost first), what is done -/
structure PSt where
  op : List (List W)
  dn : Option W
def place (st : PSt) (w : W) : Option PSt := match st.op with
  | [] => if st.dn.isSome then none else some ⟨[], some w⟩
  | t :: r => some ⟨(t ++ [w]) :: r, st.dn⟩
def stepP (st : PSt) (p : List Nat) : Option PSt :=
  if p == [40] then some ⟨[] :: st.op, st.dn⟩ else if p == [32] then some st else if p == [41] then (match st.op with
    | [] => none
    | t :: r => place ⟨r, st.dn⟩ (.tup t))
  else match plainOf p with
    | none => none
    | some w => place st w
def runP : List (List Nat) → PSt → Option PSt
  | [], st => some st
  | p :: ps, st => match stepP st p with
    | none => none
    | some st => runP ps st
def parse (ps : List (List Nat)) : Option W := match runP ps ⟨[], none⟩ with
  | some st => if st.op.isEmpty then st.dn else none
  | none => none
/-- all keeps lie below -/
def WF (s : Vi.S) : Prop := ∀ k ∈ s.keep, k ≤ s.objs.length
def tot : List (List W) → Nat
  | [] => 0
  | t :: r => t.length + 1 + tot r
theorem tot_len : ∀ op : List (List W), op.length ≤ tot op
  | [] => Nat.le_refl _
  | t :: r => by
    have := tot_len r
    show r.length + 1 ≤ t.length + 1 + tot r
    omega
/-- the open tuples, as they lie in the state -/
structure At (s0 s : Vi.S) (op : List (List W)) (as : List Nat) : Prop where
  len : as.length = op.length
  nd : as.Nodup
  up : ∀ a ∈ as, s0.objs.length < a
  list : s.objs[s0.objs.length]? = some (.lst (as.reverse.map .adr))
  each : ∀ (i : Nat) (a : Nat) (t : List W), as[i]? = some a → op[i]? = some t → s.objs[a]? = some (.lst t)
  keep : s.keep = s0.objs.length :: s0.keep
  take : s.objs.take s0.objs.length = s0.objs
def Rel (s0 s : Vi.S) (op : List (List W)) : Prop := ∃ as, At s0 s op as
def cleanSt (st : PSt) : Prop := (∀ t ∈ st.op, cleans t = true) ∧ ∀ w, st.dn = some w → clean w = true
theorem see_opt {s : Vi.S} {o : Option W} : seeW s (optL o) = .lst (match o with
  | some w => [w]
  | none => []) := by
  cases o <;> rfl
theorem take_put {s0 s : Vi.S} {a : Nat} {o : O} (h : s0.objs.length ≤ a) (ht : s.objs.take s0.objs.length = s0.objs) : (s.put a o).objs.take s0.objs.length = s0.objs := by
  show (s.objs.set a o).take s0.objs.length = _
  rw [List.take_set_of_le h]
  exact ht
/-- the list of the open ones is empty -/
theorem At.emp {s0 s : Vi.S} {op : List (List W)} {as : List Nat} (h : At s0 s op as) : (as.reverse.map W.adr).isEmpty = op.isEmpty := by
  have z := h.len
  cases as with
  | nil =>
    cases op with
    | nil => rfl
    | cons => simp at z
  | cons a r =>
    cases op with
    | nil => simp at z
    | cons => simp
abbrev placeS : DS := (sSeq (sIf (tOr (tE (d2 opEq (dV 4) (dLst daNil))) (tAnd (tE (d2 opEq (dV 1) (dLst daNil))) (tE (d2 opNe (dV 2) (dLst daNil)))))
 (sSeq (sRet (dLst daNil))
 sPass)
 sPass)
 (sSeq (sIf (tE (d2 opEq (dV 1) (dLst daNil)))
 (sSeq (sSet (dV 4) (dgName 2))
 sPass)
 (sSeq (sExpr (dM2 .lst mAppend (d2 opIx (dV 1) (d1 opNeg (dC (.int 1)))) (d2 opIx (dV 4) (dC (.int 0)))))
 sPass))
 sPass))
theorem place_bad {k : Nat} {P : W} {st : PSt} {o3 : Option W} {ow : Option W} {s0 s : Vi.S} (hR : Rel s0 s st.op) (h : (match ow with
    | none => none
    | some w => place st w) = none) : placeS (ctAt pg k) [some P, some (.adr s0.objs.length), some (optL st.dn), o3, some (optL ow)] s = .ok (.rt (.lst [])) s := by
  obtain ⟨as, A⟩ := hR
  have t1 : tE (d2 opEq (dV 4) (dLst daNil)) (ctAt pg k) [some P, some (.adr s0.objs.length), some (optL st.dn), o3, some (optL ow)] s = .ok (match ow with
    | some _ => false
    | none => true) s := by
    refine (tE_ok (d2_ok (s1 := s) (x := optL ow) (y := .lst []) rfl rfl (eq_nil see_opt))).trans ?_
    cases ow <;> rfl
  have t2 : tE (d2 opEq (dV 1) (dLst daNil)) (ctAt pg k) [some P, some (.adr s0.objs.length), some (optL st.dn), o3, some (optL ow)] s = .ok st.op.isEmpty s := by
    refine (tE_ok (d2_ok (s1 := s) (x := .adr s0.objs.length) (y := .lst []) rfl rfl (eq_nil (see_adr A.list)))).trans ?_
    rw [A.emp]
  have t3 : tE (d2 opNe (dV 2) (dLst daNil)) (ctAt pg k) [some P, some (.adr s0.objs.length), some (optL st.dn), o3, some (optL ow)] s = .ok st.dn.isSome s := by
    refine (tE_ok (d2_ok (s1 := s) (x := optL st.dn) (y := .lst []) rfl rfl (ne_nil see_opt))).trans ?_
    cases st.dn <;> rfl
  unfold placeS
  refine seq_rt ?_
  rw [if_ok (k := true) (s1 := s) ?_]
  · rfl
  · refine (tOr_ok t1 fun _ => tAnd_ok t2 fun _ => t3).trans ?_
    cases ow with
    | none => rfl
    | some w =>
      have h : place st w = none := h
      unfold place at h
      split at h
      · rename_i e
        split at h
        · rename_i d
          rw [e, d]
          rfl
        · cases h
      · cases h
theorem ix_last {s : Vi.S} {q a : Nat} {l : List W} (h : s.objs[q]? = some (.lst (l ++ [.adr a]))) : opIx s (.adr q) (.int (-1)) = some (.adr a) := by
  show (match itemsOf s (.adr q) with
    | some l => (match L2.ixN l.length (-1) with
      | some k => l[k]?
      | none => none)
    | none => _) = _
  have e : itemsOf s (.adr q) = some (l ++ [.adr a]) := by
    show (match s.objs[q]? with
      | some (.lst l) => some l
      | _ => none) = _
    rw [h]
  rw [e]
  dsimp only
  have e2 : L2.ixN (l ++ [W.adr a]).length (-1) = some l.length := by
    unfold L2.ixN
    rw [if_neg (by decide), if_pos (by simp; omega)]
    simp
    omega
  rw [e2]
  dsimp only
  rw [List.getElem?_append_right (Nat.le_refl _)]
  simp
theorem place_good {k : Nat} {P w : W} {st st' : PSt} {o3 : Option W} {s0 s : Vi.S} (hR : Rel s0 s st.op) (h : place st w = some st') (hw : clean w = true) (hl : tot st.op < sizeMax) : ∃ s', placeS (ctAt pg k) [some P, some (.adr s0.objs.length), some (optL st.dn), o3, some (.lst [w])] s = .ok (.nx [some P, some (.adr s0.objs.length), some (optL st'.dn), o3, some (.lst [w])]) s' ∧ Rel s0 s' st'.op := by
  obtain ⟨as, A⟩ := hR
  have t1 : tE (d2 opEq (dV 4) (dLst daNil)) (ctAt pg k) [some P, some (.adr s0.objs.length), some (optL st.dn), o3, some (.lst [w])] s = .ok false s := tE_ok (d2_ok (s1 := s) (x := .lst [w]) (y := .lst []) rfl rfl (eq_nil (L := [w]) rfl))
  have t2 : tE (d2 opEq (dV 1) (dLst daNil)) (ctAt pg k) [some P, some (.adr s0.objs.length), some (optL st.dn), o3, some (.lst [w])] s = .ok st.op.isEmpty s := by
    refine (tE_ok (d2_ok (s1 := s) (x := .adr s0.objs.length) (y := .lst []) rfl rfl (eq_nil (see_adr A.list)))).trans ?_
    rw [A.emp]
  have t3 : tE (d2 opNe (dV 2) (dLst daNil)) (ctAt pg k) [some P, some (.adr s0.objs.length), some (optL st.dn), o3, some (.lst [w])] s = .ok st.dn.isSome s := by
    refine (tE_ok (d2_ok (s1 := s) (x := optL st.dn) (y := .lst []) rfl rfl (ne_nil see_opt))).trans ?_
    cases st.dn <;> rfl
  have tt := (tOr_ok t1 fun _ => tAnd_ok t2 fun _ => t3)
  unfold place at h
  cases eo : st.op with
  | nil =>
    rw [eo] at h t2 tt
    dsimp only at h
    split at h
    · cases h
    · rename_i d
      cases h
      have d : st.dn.isSome = false := Bool.eq_false_iff.mpr d
      rw [d] at tt
      refine ⟨s, ?_, as, by rw [eo] at A; exact A⟩
      unfold placeS
      rw [seq_ok (env1 := [some P, some (.adr s0.objs.length), some (optL st.dn), o3, some (.lst [w])]) (s1 := s) (by rw [if_ok tt]; rfl)]
      refine (seq_ok (env1 := [some P, some (.adr s0.objs.length), some (.lst [w]), o3, some (.lst [w])]) (s1 := s) ?_).trans rfl
      rw [if_ok t2]
      rfl
  | cons t r =>
    rw [eo] at h t2 tt
    cases h
    rw [eo] at A hl
    cases as with
    | nil => exact absurd A.len (by simp)
    | cons a ar =>
      have hlist : s.objs[s0.objs.length]? = some (.lst (ar.reverse.map W.adr ++ [.adr a])) := by
        have z := A.list
        rw [List.reverse_cons, List.map_append] at z
        exact z
      have ha : s.objs[a]? = some (.lst t) := A.each 0 a t rfl rfl
      have up := A.up a List.mem_cons_self
      have ne : s0.objs.length ≠ a := by omega
      have hl : t.length + 1 + tot r < sizeMax := hl
      have ap := app_ok ha (by omega) hw
      have ix : d2 opIx (dV 1) (d1 opNeg (dC (.int 1))) (ctAt pg k) [some P, some (.adr s0.objs.length), some (optL st.dn), o3, some (.lst [w])] s = .ok (.adr a) s := d2_ok (s1 := s) (x := .adr s0.objs.length) (y := .int (-1)) rfl rfl (ix_last hlist)
      have ex : sExpr (dM2 .lst mAppend (d2 opIx (dV 1) (d1 opNeg (dC (.int 1)))) (d2 opIx (dV 4) (dC (.int 0)))) (ctAt pg k) [some P, some (.adr s0.objs.length), some (optL st.dn), o3, some (.lst [w])] s = .ok (.nx [some P, some (.adr s0.objs.length), some (optL st.dn), o3, some (.lst [w])]) (s.put a (.lst (t ++ [w]))) :=
        expr_ok (dM2_ok ix (isMK_adr ha) (s2 := s) (y := w) rfl ap)
      refine ⟨s.put a (.lst (t ++ [w])), ?_, a :: ar, A.len, A.nd, A.up, ?_, fun i b u h1 h2 => ?_, A.keep, take_put (Nat.le_of_lt up) A.take⟩
      · unfold placeS
        rw [seq_ok (env1 := [some P, some (.adr s0.objs.length), some (optL st.dn), o3, some (.lst [w])]) (s1 := s) (by rw [if_ok tt]; rfl)]
        refine (seq_ok (env1 := [some P, some (.adr s0.objs.length), some (optL st.dn), o3, some (.lst [w])]) (s1 := s.put a (.lst (t ++ [w]))) ?_).trans rfl
        rw [if_ok t2]
        show sSeq _ sPass _ _ _ = _
        exact (seq_ok ex).trans rfl
      · rw [put_ne ne]
        exact A.list
      · cases i with
        | zero =>
          have e1 : b = a := (Option.some.inj h1).symm
          have e2 : u = t ++ [w] := (Option.some.inj h2).symm
          subst e1 e2
          exact put_at ha
        | succ i =>
          have hb : b ≠ a := fun e => by
            subst e
            exact (List.nodup_cons.mp A.nd).1 (List.mem_of_getElem? (show ar[i]? = some b from h1))
          rw [put_ne hb]
          exact A.each (i + 1) b u h1 h2
end K88
set_option Elab.async false
set_option linter.all false
set_option maxRecDepth 100000
set_option maxHeartbeats 4000000
/-! K88q: value_of. -/
namespace K88
open PySem Vi

theorem plainOf_clean {p : List Nat} {w : W} (hp : txtOk p) (h : plainOf p = some w) : clean w = true := by
  unfold plainOf at h
  split at h
  · cases h; rfl
  · split at h
    · cases h
      exact clean_str hp
    · split at h
      · split at h
        · split at h
          · cases h; rfl
          · cases h
        · cases h
      · cases h
theorem place_facts {st st' : PSt} {w : W} (h : place st w = some st') (hc : cleanSt st) (hw : clean w = true) : cleanSt st' ∧ tot st'.op ≤ tot st.op + 1 := by
  unfold place at h
  split at h
  · rename_i e
    split at h
    · cases h
    · cases h
      exact ⟨⟨(fun t ht => by cases ht), (fun x hx => by cases hx; exact hw)⟩, Nat.zero_le _⟩
  · rename_i t r e
    cases h
    refine ⟨⟨fun u hu => ?_, hc.2⟩, ?_⟩
    · rcases List.mem_cons.mp hu with z | z
      · subst z
        rw [cleans_app, hc.1 t (by rw [e]; exact List.mem_cons_self)]
        show (true && (clean w && true)) = true
        rw [hw]
        rfl
      · exact hc.1 u (by rw [e]; exact List.mem_cons_of_mem _ z)
    · rw [e]
      show (t ++ [w]).length + 1 + tot r ≤ t.length + 1 + tot r + 1
      rw [List.length_append]
      simp
      omega
theorem step_facts {st st' : PSt} {p : List Nat} (h : stepP st p = some st') (hc : cleanSt st) (hp : txtOk p) : cleanSt st' ∧ tot st'.op ≤ tot st.op + 1 := by
  unfold stepP at h
  split at h
  · cases h
    refine ⟨⟨fun t ht => ?_, hc.2⟩, ?_⟩
    · rcases List.mem_cons.mp ht with z | z
      · subst z; rfl
      · exact hc.1 t z
    · show 0 + 1 + tot st.op ≤ _
      omega
  · split at h
    · cases h
      exact ⟨hc, by omega⟩
    · split at h
      · split at h
        · cases h
        · rename_i t r e
          obtain ⟨h1, h2⟩ := place_facts h ⟨fun u hu => hc.1 u (by rw [e]; exact List.mem_cons_of_mem _ hu), hc.2⟩ (show clean (.tup t) = true from hc.1 t (by rw [e]; exact List.mem_cons_self))
          refine ⟨h1, ?_⟩
          rw [e]
          show _ ≤ t.length + 1 + tot r + 1
          have h2 : tot st'.op ≤ tot r + 1 := h2
          omega
      · split at h
        · cases h
        · rename_i w e
          exact place_facts h hc (plainOf_clean hp e)
abbrev s3 : DS := (sIf (tE (d2 opEq (dV 3) (dC (tx ")"))))
 (sSeq (sIf (tE (d2 opEq (dV 1) (dLst daNil)))
 (sSeq (sRet (dLst daNil))
 sPass)
 sPass)
 (sSeq (sSet (dLst (daCons (d1 bTuple (dM1 .lst mPop (dV 1))) daNil)) (dgName 4))
 sPass))
 (sSeq (sSet (dCall 5 [.inl 0] (daCons (dV 3) daNil)) (dgName 4))
 sPass))
abbrev valB : DS := (sSeq (sIf (tE (d2 opEq (dV 3) (dC (tx "("))))
 (sSeq (sExpr (dM2 .lst mAppend (dV 1) (dLstN daNil)))
 (sSeq sCnt
 sPass))
 sPass)
 (sSeq (sIf (tE (d2 opEq (dV 3) (dC (tx " "))))
 (sSeq sCnt
 sPass)
 sPass)
 (sSeq s3
 placeS)))
/-- how a turn, the loop end -/
def VEnd (P : W) (s0 : Vi.S) (r : Res Vi.Flow) : Option PSt → Prop
  | none => ∃ s, r = .ok (.rt (.lst [])) s ∧ s.keep = s0.objs.length :: s0.keep ∧ s.objs.take s0.objs.length = s0.objs
  | some st => ∃ o3 o4 s, (r = .ok (.nx [some P, some (.adr s0.objs.length), some (optL st.dn), o3, o4]) s ∨ r = .ok (.ct [some P, some (.adr s0.objs.length), some (optL st.dn), o3, o4]) s) ∧ Rel s0 s st.op
theorem t_eq {k : Nat} {p m : List Nat} {x : String} {P a d : W} {o4 : Option W} {s : Vi.S} (hp : txtOk p) (hx : tx x = .str (Tx m)) (hm : PyData.strOk (Tx m) = true) : tE (d2 opEq (dV 3) (dC (tx x))) (ctAt pg k) [some P, some a, some d, some (.str (Tx p)), o4] s = .ok (p == m) s := by
  rw [hx]
  exact tE_ok (d2_ok (dV_ok rfl) rfl (eq_str hp.1 hm))
theorem val_turn {k : Nat} {P : W} {st : PSt} {p : List Nat} {o4 : Option W} {s0 s : Vi.S} (hw : WF s0) (hR : Rel s0 s st.op) (hc : cleanSt st) (hp : txtOk p) (hl : tot st.op + 2 < sizeMax) :
    VEnd P s0 (valB (ctAt pg (k + 2)) [some P, some (.adr s0.objs.length), some (optL st.dn), some (.str (Tx p)), o4] s) (stepP st p) := by
  have x40 : tx "(" = .str (Tx [40]) := congrArg W.str (by decide +kernel)
  have x32 : tx " " = .str (Tx [32]) := congrArg W.str (by decide +kernel)
  have x41 : tx ")" = .str (Tx [41]) := congrArg W.str (by decide +kernel)
  have q1 := t_eq (k := k + 2) (P := P) (a := .adr s0.objs.length) (d := optL st.dn) (o4 := o4) (s := s) hp x40 txt40.1
  have q2 := t_eq (k := k + 2) (P := P) (a := .adr s0.objs.length) (d := optL st.dn) (o4 := o4) (s := s) hp x32 txt32.1
  have q3 := t_eq (k := k + 2) (P := P) (a := .adr s0.objs.length) (d := optL st.dn) (o4 := o4) (s := s) hp x41 txt41.1
  unfold stepP
  cases z1 : (p == [40]) with
  | true =>
    rw [z1] at q1
    rw [if_pos rfl]
    obtain ⟨as, A⟩ := hR
    have hlen := (List.getElem?_eq_some_iff.mp A.list).1
    have asl : ∀ a ∈ as, a < s.objs.length := fun a ha => by
      obtain ⟨i, hi, e⟩ := List.getElem_of_mem ha
      have hi2 : i < st.op.length := by rw [← A.len]; exact hi
      exact (List.getElem?_eq_some_iff.mp (A.each i a _ (by rw [List.getElem?_eq_getElem hi, e]) (List.getElem?_eq_getElem hi2))).1
    have l1 : (s.new (.lst [])).objs[s0.objs.length]? = some (.lst (as.reverse.map W.adr)) := new_old A.list
    have hd : (s.new (.lst [])).held s0.objs.length (.adr s.objs.length) = s.new (.lst []) := by
      unfold S.held
      have e : (s.new (.lst [])).keep.map (fun j => if (decide (s0.objs.length < j) && !belowW j (.adr s.objs.length)) = true then (s.new (.lst [])).objs.length else j) = (s.new (.lst [])).keep := by
        have ek : (s.new (.lst [])).keep = s0.objs.length :: s0.keep := A.keep
        rw [ek]
        conv => rhs; rw [← List.map_id (s0.objs.length :: s0.keep)]
        refine List.map_congr_left fun j hj => ?_
        have : j ≤ s0.objs.length := by
          rcases List.mem_cons.mp hj with z | z
          · omega
          · exact hw j z
        rw [decide_eq_false (by omega)]
        rfl
      show (⟨(s.new (.lst [])).objs, (s.new (.lst [])).keep.map _⟩ : Vi.S) = _
      rw [e]
    have tl := tot_len st.op
    have ap : mAppend (s.new (.lst [])) (.adr s0.objs.length) (.adr s.objs.length) = .ok .non ((s.new (.lst [])).put s0.objs.length (.lst (as.reverse.map W.adr ++ [.adr s.objs.length]))) := by
      unfold mAppend
      show (match (s.new (.lst [])).objs[s0.objs.length]? with
        | some (.lst l) => if isD (W.adr s.objs.length) && decide (l.length < sizeMax) then Res.ok W.non (((s.new (.lst [])).held s0.objs.length (.adr s.objs.length)).put s0.objs.length (.lst (l ++ [W.adr s.objs.length]))) else .bad
        | _ => .bad) = _
      rw [l1, hd]
      dsimp only
      rw [show (isD (W.adr s.objs.length) && decide ((as.reverse.map W.adr).length < sizeMax)) = true by
        rw [List.length_map, List.length_reverse, A.len, decide_eq_true (by omega)]
        rfl]
      rfl
    have ex : sExpr (dM2 .lst mAppend (dV 1) (dLstN daNil)) (ctAt pg (k + 2)) [some P, some (.adr s0.objs.length), some (optL st.dn), some (.str (Tx p)), o4] s = .ok (.nx [some P, some (.adr s0.objs.length), some (optL st.dn), some (.str (Tx p)), o4]) ((s.new (.lst [])).put s0.objs.length (.lst (as.reverse.map W.adr ++ [.adr s.objs.length]))) :=
      expr_ok (dM2_ok (s1 := s) (x := .adr s0.objs.length) rfl (isMK_adr A.list) (s2 := s.new (.lst [])) (y := .adr s.objs.length) rfl ap)
    refine ⟨some (.str (Tx p)), o4, (s.new (.lst [])).put s0.objs.length (.lst (as.reverse.map W.adr ++ [.adr s.objs.length])), .inr ?_, s.objs.length :: as, ?_, ?_, ?_, ?_, ?_, A.keep, ?_⟩
    · unfold valB
      refine seq_ct ?_
      rw [if_ok q1]
      show sSeq _ (sSeq sCnt sPass) _ _ _ = _
      rw [seq_ok ex]
      rfl
    · show as.length + 1 = st.op.length + 1
      rw [A.len]
    · refine List.nodup_cons.mpr ⟨fun m => ?_, A.nd⟩
      have := asl _ m
      omega
    · intro a ha
      rcases List.mem_cons.mp ha with z | z
      · omega
      · exact A.up a z
    · rw [put_at l1, List.reverse_cons, List.map_append]
      rfl
    · intro i a t h1 h2
      cases i with
      | zero =>
        have e1 : a = s.objs.length := (Option.some.inj h1).symm
        have e2 : t = [] := (Option.some.inj h2).symm
        subst e1 e2
        rw [put_ne (by omega)]
        exact new_at _ _
      | succ i =>
        have h1 : as[i]? = some a := h1
        have h2 : st.op[i]? = some t := h2
        have := A.up a (List.mem_of_getElem? h1)
        rw [put_ne (by omega)]
        exact new_old (A.each i a t h1 h2)
    · refine take_put (Nat.le_refl _) ?_
      show (s.objs ++ [O.lst []]).take s0.objs.length = _
      rw [List.take_append_of_le_length (by omega)]
      exact A.take
  | false =>
    rw [z1] at q1
    rw [if_neg (by decide)]
    have b1 : valB (ctAt pg (k + 2)) [some P, some (.adr s0.objs.length), some (optL st.dn), some (.str (Tx p)), o4] s = (sSeq (sIf (tE (d2 opEq (dV 3) (dC (tx " "))))
 (sSeq sCnt
 sPass)
 sPass)
 (sSeq s3
 placeS)) (ctAt pg (k + 2)) [some P, some (.adr s0.objs.length), some (optL st.dn), some (.str (Tx p)), o4] s := by
      unfold valB
      rw [seq_ok (env1 := [some P, some (.adr s0.objs.length), some (optL st.dn), some (.str (Tx p)), o4]) (s1 := s) (by rw [if_ok q1]; rfl)]
    rw [b1]
    cases z2 : (p == [32]) with
    | true =>
      rw [z2] at q2
      rw [if_pos rfl]
      refine ⟨some (.str (Tx p)), o4, s, .inr ?_, hR⟩
      refine seq_ct ?_
      rw [if_ok q2]
      rfl
    | false =>
      rw [z2] at q2
      rw [if_neg (by decide)]
      rw [seq_ok (env1 := [some P, some (.adr s0.objs.length), some (optL st.dn), some (.str (Tx p)), o4]) (s1 := s) (by rw [if_ok q2]; rfl)]
      have fin : ∀ (s1 : Vi.S) (op1 : List (List W)) (ow : Option W), Rel s0 s1 op1 → tot op1 < sizeMax → (∀ w, ow = some w → clean w = true) → s3 (ctAt pg (k + 2)) [some P, some (.adr s0.objs.length), some (optL st.dn), some (.str (Tx p)), o4] s = .ok (.nx [some P, some (.adr s0.objs.length), some (optL st.dn), some (.str (Tx p)), some (optL ow)]) s1 →
          VEnd P s0 (sSeq s3 placeS (ctAt pg (k + 2)) [some P, some (.adr s0.objs.length), some (optL st.dn), some (.str (Tx p)), o4] s) (match ow with
            | none => none
            | some w => place ⟨op1, st.dn⟩ w) := fun s1 op1 ow R1 ht cw h => by
        rw [seq_ok h]
        cases e : (match ow with
            | none => none
            | some w => place ⟨op1, st.dn⟩ w) with
        | none =>
          have z := place_bad (k := k + 2) (P := P) (st := ⟨op1, st.dn⟩) (o3 := some (.str (Tx p))) (ow := ow) R1 e
          obtain ⟨as, A⟩ := R1
          exact ⟨s1, z, A.keep, A.take⟩
        | some st' =>
          cases ow with
          | none => cases e
          | some w =>
            obtain ⟨s', h1, h2⟩ := place_good (k := k + 2) (P := P) (o3 := some (.str (Tx p))) (st := ⟨op1, st.dn⟩) R1 e (cw w rfl) ht
            exact ⟨_, _, s', .inl h1, h2⟩
      cases z3 : (p == [41]) with
      | true =>
        rw [z3] at q3
        rw [if_pos rfl]
        obtain ⟨as, A⟩ := hR
        have t2 : tE (d2 opEq (dV 1) (dLst daNil)) (ctAt pg (k + 2)) [some P, some (.adr s0.objs.length), some (optL st.dn), some (.str (Tx p)), o4] s = .ok st.op.isEmpty s := by
          refine (tE_ok (d2_ok (s1 := s) (x := .adr s0.objs.length) (y := .lst []) rfl rfl (eq_nil (see_adr A.list)))).trans ?_
          rw [A.emp]
        cases eo : st.op with
        | nil =>
          rw [eo] at t2
          refine ⟨s, seq_rt ?_, A.keep, A.take⟩
          unfold s3
          rw [if_ok q3]
          show sSeq _ _ _ _ _ = _
          refine seq_rt ?_
          rw [if_ok t2]
          rfl
        | cons t r =>
          rw [eo] at t2 A hl
          cases as with
          | nil => exact absurd A.len (by simp)
          | cons a ar =>
            have hlist : s.objs[s0.objs.length]? = some (.lst (ar.reverse.map W.adr ++ [.adr a])) := by
              have z := A.list
              rw [List.reverse_cons, List.map_append] at z
              exact z
            have up := A.up a List.mem_cons_self
            have ne : a ≠ s0.objs.length := by omega
            have ha : (s.put s0.objs.length (.lst (ar.reverse.map W.adr))).objs[a]? = some (.lst t) := by
              rw [put_ne ne]
              exact A.each 0 a t rfl rfl
            have R1 : Rel s0 (s.put s0.objs.length (.lst (ar.reverse.map W.adr))) r := by
              refine ⟨ar, Nat.succ.inj A.len, (List.nodup_cons.mp A.nd).2, fun b hb => A.up b (List.mem_cons_of_mem _ hb), put_at hlist, fun i b u h1 h2 => ?_, A.keep, take_put (Nat.le_refl _) A.take⟩
              have := A.up b (List.mem_cons_of_mem _ (List.mem_of_getElem? h1))
              rw [put_ne (by omega)]
              exact A.each (i + 1) b u h1 h2
            have pp : dM1 .lst mPop (dV 1) (ctAt pg (k + 2)) [some P, some (.adr s0.objs.length), some (optL st.dn), some (.str (Tx p)), o4] s = .ok (.adr a) (s.put s0.objs.length (.lst (ar.reverse.map W.adr))) := dM1_ok (s1 := s) (x := .adr s0.objs.length) rfl (isMK_adr hlist) (pop_ok hlist)
            have tp : d1 bTuple (dM1 .lst mPop (dV 1)) (ctAt pg (k + 2)) [some P, some (.adr s0.objs.length), some (optL st.dn), some (.str (Tx p)), o4] s = .ok (.tup t) (s.put s0.objs.length (.lst (ar.reverse.map W.adr))) := by
              refine d1_ok pp ?_
              show (match (s.put s0.objs.length (.lst (ar.reverse.map W.adr))).objs[a]? with
                | some (.lst l) => some l
                | _ => none).map W.tup = _
              rw [ha]
              rfl
            have cl : clean (.tup t) = true := hc.1 t (by rw [eo]; exact List.mem_cons_self)
            have st1 : s3 (ctAt pg (k + 2)) [some P, some (.adr s0.objs.length), some (optL st.dn), some (.str (Tx p)), o4] s = .ok (.nx [some P, some (.adr s0.objs.length), some (optL st.dn), some (.str (Tx p)), some (optL (some (.tup t)))]) (s.put s0.objs.length (.lst (ar.reverse.map W.adr))) := by
              unfold s3
              rw [if_ok q3]
              show sSeq _ _ _ _ _ = _
              rw [seq_ok (env1 := [some P, some (.adr s0.objs.length), some (optL st.dn), some (.str (Tx p)), o4]) (s1 := s) (by rw [if_ok t2]; rfl)]
              refine (seq_ok (set_ok (w := .lst [.tup t]) (lst1_ok tp (clean_D cl)))).trans rfl
            have hl : t.length + 1 + tot r + 2 < sizeMax := hl
            exact fin _ r (some (.tup t)) R1 (by omega) (fun w hw => by cases hw; exact cl) st1
      | false =>
        rw [z3] at q3
        rw [if_neg (by decide)]
        have st1 : s3 (ctAt pg (k + 2)) [some P, some (.adr s0.objs.length), some (optL st.dn), some (.str (Tx p)), o4] s = .ok (.nx [some P, some (.adr s0.objs.length), some (optL st.dn), some (.str (Tx p)), some (optL (plainOf p))]) s := by
          unfold s3
          rw [if_ok q3]
          show sSeq _ sPass _ _ _ = _
          exact (seq_ok (set_ok (call1_ok rfl (plainof (k := k) hp)))).trans rfl
        have z := fin s st.op (plainOf p) hR (by omega) (fun w hw => plainOf_clean hp hw) st1
        cases e : plainOf p with
        | none =>
          rw [e] at z
          exact z
        | some w =>
          rw [e] at z
          exact z
theorem val_loop {k : Nat} {P : W} {s0 : Vi.S} (hw : WF s0) : ∀ (ps : List (List Nat)) (st : PSt) (o3 o4 : Option W) (s : Vi.S), Rel s0 s st.op → cleanSt st → (∀ p ∈ ps, txtOk p) → tot st.op + ps.length + 2 < sizeMax →
    (match runP ps st with
    | none => ∃ s', forLoop (dgName 3) valB (ctAt pg (k + 2)) (ts ps) [some P, some (.adr s0.objs.length), some (optL st.dn), o3, o4] s = .ok (.rt (.lst [])) s' ∧ s'.keep = s0.objs.length :: s0.keep ∧ s'.objs.take s0.objs.length = s0.objs
    | some st' => cleanSt st' ∧ ∃ p3 p4 s', forLoop (dgName 3) valB (ctAt pg (k + 2)) (ts ps) [some P, some (.adr s0.objs.length), some (optL st.dn), o3, o4] s = .ok (.nx [some P, some (.adr s0.objs.length), some (optL st'.dn), p3, p4]) s' ∧ Rel s0 s' st'.op)
  | [], st, o3, o4, s, hR, hc, _, _ => ⟨hc, o3, o4, s, rfl, hR⟩
  | p :: ps, st, o3, o4, s, hR, hc, hp, hl => by
    have hl : tot st.op + (ps.length + 1) + 2 < sizeMax := hl
    have tn := val_turn (k := k) (P := P) (o4 := o4) hw hR hc (hp p List.mem_cons_self) (by omega)
    cases e : stepP st p with
    | none =>
      rw [e] at tn
      obtain ⟨s', h1, h2, h3⟩ := tn
      have er : runP (p :: ps) st = none := by
        show (match stepP st p with
          | none => none
          | some st => runP ps st) = _
        rw [e]
      rw [er]
      exact ⟨s', for_rt h1, h2, h3⟩
    | some st1 =>
      rw [e] at tn
      obtain ⟨p3, p4, s', h1, h2⟩ := tn
      obtain ⟨c1, c2⟩ := step_facts e hc (hp p List.mem_cons_self)
      have er : runP (p :: ps) st = runP ps st1 := by
        show (match stepP st p with
          | none => none
          | some st => runP ps st) = _
        rw [e]
      have ih := val_loop (k := k) (P := P) hw ps st1 p3 p4 s' h2 c1 (fun q hq => hp q (List.mem_cons_of_mem _ hq)) (by omega)
      have ef : forLoop (dgName 3) valB (ctAt pg (k + 2)) (ts (p :: ps)) [some P, some (.adr s0.objs.length), some (optL st.dn), o3, o4] s = forLoop (dgName 3) valB (ctAt pg (k + 2)) (ts ps) [some P, some (.adr s0.objs.length), some (optL st1.dn), p3, p4] s' := by
        rcases h1 with h1 | h1
        · exact for_cons h1
        · exact for_ct h1
      rw [er, ef]
      exact ih
/-- value_of -/
theorem valueof {k : Nat} {ps : List (List Nat)} (hp : ∀ p ∈ ps, txtOk p) (hl : ps.length < 1000000) (s : Vi.S) (hw : WF s) : callAt pg (k + 3) (.fn 6) [.lst (ts ps)] s = .ok (optL (parse ps)) s ∧ ∀ w, parse ps = some w → clean w = true := by
  have A0 : At s (s.enter.new (.lst [])) [] [] := by
    refine ⟨rfl, List.nodup_nil, (fun a ha => by cases ha), new_at s.enter (.lst []), (fun i a t h => by simp at h), rfl, ?_⟩
    show (s.objs ++ _).take s.objs.length = _
    exact List.take_left
  have lp := val_loop (k := k) (P := .lst (ts ps)) hw ps ⟨[], none⟩ none none (s.enter.new (.lst [])) ⟨[], A0⟩ ⟨fun t ht => (by cases ht), fun w h => (by cases h)⟩ hp (by show 0 + ps.length + 2 < 16777216; omega)
  have c1 : sPar [1, 2] (daCons (dLstN daNil) (daCons (dLst daNil) daNil)) (ctAt pg (k + 2)) [some (.lst (ts ps)), none, none, none, none] s.enter = .ok (.nx [some (.lst (ts ps)), some (.adr s.objs.length), some (.lst []), none, none]) (s.enter.new (.lst [])) := par_ok rfl rfl
  rw [call_fn e6 rfl]
  show leave true s (b6 (ctAt pg (k + 2)) [some (.lst (ts ps)), none, none, none, none] s.enter) = _ ∧ _
  unfold b6
  rw [seq_ok c1]
  unfold parse
  cases e : runP ps ⟨[], none⟩ with
  | none =>
    rw [e] at lp
    obtain ⟨s', h1, h2, h3⟩ := lp
    have c2 : sFor (diE (dV 0)) (dgName 3) valB (ctAt pg (k + 2)) [some (.lst (ts ps)), some (.adr s.objs.length), some (.lst []), none, none] (s.enter.new (.lst [])) = .ok (.rt (.lst [])) s' := h1
    rw [seq_rt c2]
    exact ⟨leave_rt rfl (fun _ => rfl) h2 h3, fun w h => by cases h⟩
  | some st =>
    rw [e] at lp
    obtain ⟨cs, p3, p4, s', h1, as, A⟩ := lp
    have c2 : sFor (diE (dV 0)) (dgName 3) valB (ctAt pg (k + 2)) [some (.lst (ts ps)), some (.adr s.objs.length), some (.lst []), none, none] (s.enter.new (.lst [])) = .ok (.nx [some (.lst (ts ps)), some (.adr s.objs.length), some (optL st.dn), p3, p4]) s' := h1
    rw [seq_ok c2]
    have t2 : tE (d2 opEq (dV 1) (dLst daNil)) (ctAt pg (k + 2)) [some (.lst (ts ps)), some (.adr s.objs.length), some (optL st.dn), p3, p4] s' = .ok st.op.isEmpty s' := by
      refine (tE_ok (d2_ok (s1 := s') (x := .adr s.objs.length) (y := .lst []) rfl rfl (eq_nil (see_adr A.list)))).trans ?_
      rw [A.emp]
    have c3 : sRet (dIf (tE (d2 opEq (dV 1) (dLst daNil))) (dV 2) (dLst daNil)) (ctAt pg (k + 2)) [some (.lst (ts ps)), some (.adr s.objs.length), some (optL st.dn), p3, p4] s' = .ok (.rt (optL (if st.op.isEmpty then st.dn else none))) s' := by
      refine ret_ok ?_
      rw [dIf_ok t2]
      cases st.op.isEmpty with
      | true => rfl
      | false => rfl
    rw [seq_rt c3]
    dsimp only
    have cw : ∀ w, (if st.op.isEmpty then st.dn else none) = some w → clean w = true := fun w h => by
      split at h
      · exact cs.2 w h
      · cases h
    refine ⟨leave_rt ?_ (fun n => ?_) A.keep A.take, cw⟩
    · cases (if st.op.isEmpty then st.dn else none) <;> rfl
    · cases q : (if st.op.isEmpty then st.dn else none) with
      | none => rfl
      | some w =>
        show (belowW n w && true) = true
        rw [clean_free n w (cw w q)]
        rfl
end K88
set_option Elab.async false
set_option linter.all false
set_option maxRecDepth 100000
set_option maxHeartbeats 4000000
/-! K88r: read_value. -/
namespace K88
open PySem Vi

theorem pcsOf_flat : ∀ l : List Nat, (pcsOf l).flatten = l
  | [] => rfl
  | c :: r => by
    have ih := pcsOf_flat r
    unfold pcsOf
    split
    · rw [List.flatten_cons, ih]
      rfl
    · split
      · rename_i d p ps e
        rw [e] at ih
        split
        · rw [List.flatten_cons, ih]
          rfl
        · rw [List.flatten_cons] at ih ⊢
          rw [← ih]
          rfl
      · rename_i ps _
        rw [List.flatten_cons, ih]
        rfl
theorem flat_sub {F : List (List Nat)} {p : List Nat} (h : p ∈ F) : ∀ c ∈ p, c ∈ F.flatten := fun c hc => List.mem_flatten.mpr ⟨p, h, hc⟩
theorem pcs_txt {l p : List Nat} (hl : txtOk l) (h : p ∈ pcsOf l) : txtOk p := by
  have e := pcsOf_flat l
  refine ok_sub hl (fun c hc => ?_) ?_
  · have z := flat_sub h c hc
    rw [e] at z
    exact z
  · have z := flat_mem h
    rw [e] at z
    exact z
mutual
theorem pcs_ok : ∀ w : W, clean w = true → okW w = true → ∀ p ∈ pcs w, txtOk p
  | .tup l, c, o, p, hp => by
    have ih := pcsI_ok l c o
    have hp : p ∈ [40] :: (pcsI l ++ [[41]]) := hp
    rcases List.mem_cons.mp hp with e | hp
    · rw [e]; exact txt40
    · rcases List.mem_append.mp hp with hp | hp
      · exact ih p hp
      · rw [List.mem_singleton.mp hp]
        exact txt41
  | .non, c, o, p, hp => by
    rw [pcs_leaf o, List.mem_singleton] at hp
    rw [hp]
    exact leaf_txt c o
  | .bl _, c, o, p, hp => by cases o
  | .int i, c, o, p, hp => by
    have o : leafOk (.int i) = true := o
    rw [pcs_leaf o, List.mem_singleton] at hp
    rw [hp]
    exact leaf_txt c o
  | .str x, c, o, p, hp => by
    have o : leafOk (.str x) = true := o
    rw [pcs_leaf o, List.mem_singleton] at hp
    rw [hp]
    exact leaf_txt c o
  | .lst _, c, o, p, hp => by cases o
  | .dct _, c, o, p, hp => by cases c
  | .rc _ _, c, o, p, hp => by cases c
  | .adr _, c, o, p, hp => by cases c
  | .fn _, c, o, p, hp => by cases c
  | .clo _ _, c, o, p, hp => by cases c
  | .exc _ _, c, o, p, hp => by cases c
theorem pcsI_ok : ∀ l : List W, cleans l = true → okWs l = true → ∀ p ∈ pcsI l, txtOk p
  | [], _, _, p, hp => by cases hp
  | [x], c, o, p, hp => by
    have c : (clean x && true) = true := c
    have o : (okW x && true) = true := o
    rw [Bool.and_true] at c o
    have hp : p ∈ pcs x ++ [] := hp
    rw [List.append_nil] at hp
    exact pcs_ok x c o p hp
  | x :: y :: ys, c, o, p, hp => by
    have c : (clean x && cleans (y :: ys)) = true := c
    have o : (okW x && okWs (y :: ys)) = true := o
    rw [Bool.and_eq_true] at c o
    have i1 := pcs_ok x c.1 o.1
    have i2 := pcsI_ok (y :: ys) c.2 o.2
    have hp : p ∈ pcs x ++ [32] :: pcsI (y :: ys) := hp
    rcases List.mem_append.mp hp with hp | hp
    · exact i1 p hp
    · rcases List.mem_cons.mp hp with e | hp
      · rw [e]; exact txt32
      · exact i2 p hp
end
theorem txt_codes {l : List Nat} (h : txtOk l) : ∀ c ∈ l, c < 1114112 := fun c hc => by
  have hok := h.1
  unfold PyData.strOk at hok
  have hok : (l.toArray).all _ = true := hok
  rw [← Array.all_toList] at hok
  exact of_decide_eq_true (List.all_eq_true.mp hok c (by simpa using hc))
theorem prL_ok {v : W} (c : clean v = true) (o : okW v = true) : PyData.strOk (Tx (prL v)) = true := strOk_of fun d hd => by
  obtain ⟨p, hp, hm⟩ := List.mem_flatten.mp hd
  exact txt_codes (pcs_ok v c o p hp) d hm
/-! ### how great what is read can be -/
def vw (w : W) : Nat := (prL w).length + 1
def vws : List W → Nat
  | [] => 0
  | x :: xs => vw x + vws xs
theorem vws_app : ∀ l m : List W, vws (l ++ m) = vws l + vws m
  | [], m => by simp [vws]
  | x :: xs, m => by
    show vw x + vws (xs ++ m) = vw x + vws xs + vws m
    rw [vws_app xs m, Nat.add_assoc]
theorem join_vws : ∀ l : List W, (TL.joinL [32] (l.map prL)).length ≤ vws l
  | [] => Nat.le_refl _
  | [x] => by
    show (prL x).length ≤ vw x + 0
    unfold vw
    omega
  | x :: y :: r => by
    have ih := join_vws (y :: r)
    show (prL x ++ ([32] ++ TL.joinL [32] ((y :: r).map prL))).length ≤ vw x + vws (y :: r)
    unfold vw
    rw [List.length_append, List.length_append]
    simp only [List.length_cons, List.length_nil]
    omega
theorem vw_tup (t : List W) : vw (.tup t) ≤ 3 + vws t := by
  have := join_vws t
  unfold vw
  rw [prL_tup]
  simp only [List.length_append, List.length_cons, List.length_nil]
  omega
def szO : List (List W) → Nat
  | [] => 0
  | t :: r => 1 + szs t + szO r
def vwO : List (List W) → Nat
  | [] => 0
  | t :: r => 3 + vws t + vwO r
def szD : Option W → Nat
  | some w => sz w
  | none => 0
def vwD : Option W → Nat
  | some w => vw w
  | none => 0
theorem place_size {st st' : PSt} {w : W} (h : place st w = some st') : szO st'.op + szD st'.dn ≤ szO st.op + szD st.dn + sz w ∧ vwO st'.op + vwD st'.dn ≤ vwO st.op + vwD st.dn + vw w := by
  unfold place at h
  split at h
  · rename_i e
    split at h
    · cases h
    · cases h
      rw [e]
      show 0 + sz w ≤ 0 + _ + sz w ∧ 0 + vw w ≤ 0 + _ + vw w
      constructor <;> omega
  · rename_i t r e
    cases h
    rw [e]
    show 1 + szs (t ++ [w]) + szO r + szD st.dn ≤ 1 + szs t + szO r + szD st.dn + sz w ∧ 3 + vws (t ++ [w]) + vwO r + vwD st.dn ≤ 3 + vws t + vwO r + vwD st.dn + vw w
    rw [szs_app, vws_app]
    show 1 + (szs t + (sz w + 0)) + szO r + szD st.dn ≤ _ ∧ 3 + (vws t + (vw w + 0)) + vwO r + vwD st.dn ≤ _
    constructor <;> omega
theorem plainOf_size {p : List Nat} {w : W} (h : plainOf p = some w) : sz w = 1 ∧ prL w = p := by
  unfold plainOf at h
  split at h
  · rename_i e
    cases h
    have e : p = [45] := by simpa using e
    exact ⟨rfl, e.symm⟩
  · split at h
    · cases h
      refine ⟨rfl, ?_⟩
      show [(Tx p).cps.toList].flatten = p
      simp [SX.S]
    · split at h
      · split at h
        · split at h
          · rename_i i _ e
            cases h
            refine ⟨rfl, ?_⟩
            have e : intL i = p := by simpa using e
            show [intL i].flatten = p
            simp [e]
          · cases h
        · cases h
      · cases h
theorem step_size {st st' : PSt} {p : List Nat} (h : stepP st p = some st') : szO st'.op + szD st'.dn ≤ szO st.op + szD st.dn + 1 ∧ vwO st'.op + vwD st'.dn ≤ vwO st.op + vwD st.dn + (p.length + 3) := by
  unfold stepP at h
  split at h
  · cases h
    show 1 + 0 + szO st.op + szD st.dn ≤ _ ∧ 3 + 0 + vwO st.op + vwD st.dn ≤ _
    constructor <;> omega
  · split at h
    · cases h
      constructor <;> omega
    · split at h
      · split at h
        · cases h
        · rename_i t r e
          obtain ⟨h1, h2⟩ := place_size h
          have v := vw_tup t
          rw [e]
          have h1 : szO st'.op + szD st'.dn ≤ szO r + szD st.dn + (1 + szs t) := h1
          have h2 : vwO st'.op + vwD st'.dn ≤ vwO r + vwD st.dn + vw (.tup t) := h2
          show _ ≤ 1 + szs t + szO r + szD st.dn + 1 ∧ _ ≤ 3 + vws t + vwO r + vwD st.dn + (p.length + 3)
          constructor <;> omega
      · split at h
        · cases h
        · rename_i w e
          obtain ⟨h1, h2⟩ := place_size h
          obtain ⟨p1, p2⟩ := plainOf_size e
          have ev : vw w = p.length + 1 := by
            unfold vw
            rw [p2]
          constructor <;> omega
theorem run_size : ∀ {ps : List (List Nat)} {st st' : PSt}, runP ps st = some st' → szO st'.op + szD st'.dn ≤ szO st.op + szD st.dn + ps.length ∧ vwO st'.op + vwD st'.dn ≤ vwO st.op + vwD st.dn + (ps.flatten.length + 3 * ps.length)
  | [], st, st', h => by
    cases h
    constructor <;> simp
  | p :: ps, st, st', h => by
    have h : (match stepP st p with
      | none => none
      | some st => runP ps st) = some st' := h
    split at h
    · cases h
    · rename_i s1 e
      obtain ⟨a1, a2⟩ := step_size e
      obtain ⟨b1, b2⟩ := run_size h
      rw [List.flatten_cons, List.length_append, List.length_cons]
      constructor <;> omega
theorem parse_size {ps : List (List Nat)} {w : W} (h : parse ps = some w) : sz w ≤ ps.length ∧ (prL w).length ≤ ps.flatten.length + 3 * ps.length := by
  unfold parse at h
  split at h
  · rename_i st e
    split at h
    · obtain ⟨a, b⟩ := run_size e
      rw [h] at a b
      have a : szO st.op + sz w ≤ 0 + 0 + ps.length := a
      have b : vwO st.op + ((prL w).length + 1) ≤ 0 + 0 + _ := b
      constructor <;> omega
    · cases h
  · cases h
/-! ### read_value -/
def readV (l : List Nat) : Option W := match parse (pcsOf l) with
  | none => none
  | some v => if isVal 60 [v] && prL v == l then some v else none
theorem WF.enter {s : Vi.S} (h : WF s) : WF s.enter := fun k hk => by
  rcases List.mem_cons.mp hk with z | z
  · rw [z]
    exact Nat.le_refl _
  · exact h k z
abbrev readRaise : DS := (sSeq (sRaise 14 [.inl 1] (daCons (dC (tx "no text of a value")) (daCons (dC (.int 0)) daNil)))
 sPass)
theorem first_ok {s : Vi.S} {w : W} : opIx s (.lst [w]) (.int 0) = some w := rfl
theorem read_not {k : Nat} {w : W} (hg : good w = true) (hn : kd w ≠ .str) : Thr (k + 1) (.fn 7) [w] badText := fun s => by
  rw [call_fn e7 rfl]
  refine Eq.trans ?_ (leave_ex (s1 := s.enter) (x := badText) (fun _ => rfl) rfl (take_self s))
  congr 1
  show b7 (ctAt pg k) [some w, none] s.enter = _
  unfold b7
  refine seq_ex ?_
  have t : tNot (tE (dIsi (dV 0) [.str])) (ctAt pg k) [some w, none] s.enter = .ok true s.enter := by
    refine (tNot_ok (tE_ok (isi_ok (ts := [.str]) (dV_ok (i := 0) rfl) (kd_ok hg)))).trans ?_
    cases w <;> first | exact absurd rfl hn | rfl
  rw [if_ok t]
  rfl
theorem read_str {k : Nat} {l : List Nat} (hl : txtOk l) (hf : l.length ≤ 5000) (s : Vi.S) (hw : WF s) : callAt pg (k + 4) (.fn 7) [.str (Tx l)] s = match readV l with
    | some v => .ok v s
    | none => .exc badText s := by
  have pf := pcsOf_flat l
  have pn := pcsOf_len l
  obtain ⟨vo, vc⟩ := valueof (k := k) (ps := pcsOf l) (fun p hp => pcs_txt hl hp) (by omega) s.enter hw.enter
  have pc := pieces (k := k + 2) (l := l) (by omega) hl.1
  have c0 : sIf (tNot (tE (dIsi (dV 0) [.str]))) (sSeq (sRaise 14 [.inl 1] (daCons (dC (tx "no text")) (daCons (dC (.int 0)) daNil))) sPass) sPass (ctAt pg (k + 3)) [some (.str (Tx l)), none] s.enter = .ok (.nx [some (.str (Tx l)), none]) s.enter := rfl
  have c1 : sSet (dCall 6 [.inl 0] (daCons (dCall 4 [.inl 0] (daCons (dV 0) daNil)) daNil)) (dgName 1) (ctAt pg (k + 3)) [some (.str (Tx l)), none] s.enter = .ok (.nx [some (.str (Tx l)), some (optL (parse (pcsOf l)))]) s.enter := by
    refine set_ok (w := optL (parse (pcsOf l))) ?_
    have e : dCall 4 [.inl 0] (daCons (dV 0) daNil) (ctAt pg (k + 3)) [some (.str (Tx l)), none] s.enter = .ok (.lst (ts (pcsOf l))) s.enter := call1_ok rfl pc
    unfold dCall
    show Res.bind (Res.bind (dCall 4 [.inl 0] (daCons (dV 0) daNil) (ctAt pg (k + 3)) [some (.str (Tx l)), none] s.enter) _) _ = _
    rw [e]
    exact vo
  rw [call_fn e7 rfl]
  have bd : b7 (ctAt pg (k + 3)) [some (.str (Tx l)), none] s.enter = (sSeq (sIf (tOr (tE (d2 opEq (dV 1) (dLst daNil))) (tOr (tNot (tE (dCall 2 [.inl 0] (daCons (d2 opIx (dV 1) (dC (.int 0))) daNil)))) (tE (d2 opNe (dCall 3 [.inl 0] (daCons (d2 opIx (dV 1) (dC (.int 0))) daNil)) (dV 0)))))
 readRaise
 sPass)
 (sSeq (sRet (d2 opIx (dV 1) (dC (.int 0))))
 sPass)) (ctAt pg (k + 3)) [some (.str (Tx l)), some (optL (parse (pcsOf l)))] s.enter := by
    unfold b7
    rw [seq_ok c0, seq_ok c1]
  show leave true s (b7 (ctAt pg (k + 3)) [some (.str (Tx l)), none] s.enter) = _
  rw [bd]
  have bad : ∀ (e : W), (tOr (tE (d2 opEq (dV 1) (dLst daNil))) (tOr (tNot (tE (dCall 2 [.inl 0] (daCons (d2 opIx (dV 1) (dC (.int 0))) daNil)))) (tE (d2 opNe (dCall 3 [.inl 0] (daCons (d2 opIx (dV 1) (dC (.int 0))) daNil)) (dV 0))))) (ctAt pg (k + 3)) [some (.str (Tx l)), some e] s.enter = .ok true s.enter →
      leave true s ((sSeq (sIf (tOr (tE (d2 opEq (dV 1) (dLst daNil))) (tOr (tNot (tE (dCall 2 [.inl 0] (daCons (d2 opIx (dV 1) (dC (.int 0))) daNil)))) (tE (d2 opNe (dCall 3 [.inl 0] (daCons (d2 opIx (dV 1) (dC (.int 0))) daNil)) (dV 0)))))
 readRaise
 sPass)
 (sSeq (sRet (d2 opIx (dV 1) (dC (.int 0))))
 sPass)) (ctAt pg (k + 3)) [some (.str (Tx l)), some e] s.enter) = .exc badText s := fun e h => by
    rw [seq_ex (x := badText) (s1 := s.enter) (by rw [if_ok h]; rfl)]
    exact leave_ex (fun _ => rfl) rfl (take_self s)
  unfold readV
  cases ep : parse (pcsOf l) with
  | none => exact bad _ rfl
  | some v =>
    have cv := vc v ep
    obtain ⟨z1, z2⟩ := parse_size ep
    rw [pf] at z2
    have t1 : tE (d2 opEq (dV 1) (dLst daNil)) (ctAt pg (k + 3)) [some (.str (Tx l)), some (.lst [v])] s.enter = .ok false s.enter := tE_ok (d2_ok (s1 := s.enter) (x := .lst [v]) (y := .lst []) rfl rfl (eq_nil (L := [v]) rfl))
    have fs : d2 opIx (dV 1) (dC (.int 0)) (ctAt pg (k + 3)) [some (.str (Tx l)), some (.lst [v])] s.enter = .ok v s.enter := d2_ok (s1 := s.enter) (x := .lst [v]) (y := .int 0) rfl rfl first_ok
    have call : ∀ (g : Nat) (w : W), Ret (k + 3) (.fn g) [v] w → dCall g [.inl 0] (daCons (d2 opIx (dV 1) (dC (.int 0))) daNil) (ctAt pg (k + 3)) [some (.str (Tx l)), some (.lst [v])] s.enter = .ok w s.enter := fun g w h => by
      unfold dCall
      show Res.bind (Res.bind (d2 opIx (dV 1) (dC (.int 0)) (ctAt pg (k + 3)) [some (.str (Tx l)), some (.lst [v])] s.enter) _) _ = _
      rw [fs]
      exact h s.enter
    have t2 := tNot_ok (tE_ok (call 2 _ (isval (k := k + 1) cv (by omega))))
    dsimp only [optL]
    cases iv : isVal 60 [v] with
    | false =>
      rw [iv] at t2
      exact bad _ (tOr_ok (y := true) t1 fun _ => tOr_ok (y := false) t2 fun z => by cases z)
    | true =>
      rw [iv] at t2
      have tv := text_ok (k := k) cv (by omega) iv (by omega)
      have okv : okW v = true := by
        have z := isVal_ok iv
        have z : (okW v && true) = true := z
        rw [Bool.and_true] at z
        exact z
      have sk := prL_ok cv okv
      have t3 : tE (d2 opNe (dCall 3 [.inl 0] (daCons (d2 opIx (dV 1) (dC (.int 0))) daNil)) (dV 0)) (ctAt pg (k + 3)) [some (.str (Tx l)), some (.lst [v])] s.enter = .ok (!(prL v == l)) s.enter :=
        tE_ok (d2_ok (call 3 _ tv) (dV_ok rfl) (ne_str sk hl.1))
      have tt := tOr_ok t1 fun _ => tOr_ok t2 fun _ => t3
      cases ev : (prL v == l) with
      | false =>
        rw [ev] at tt
        exact bad _ tt
      | true =>
        rw [ev] at tt
        rw [seq_ok (env1 := [some (.str (Tx l)), some (.lst [v])]) (s1 := s.enter) (by rw [if_ok tt]; rfl), seq_rt (ret_ok fs)]
        exact leave_rt (clean_D cv) (fun n => clean_free n v cv) rfl (take_self s)
end K88
set_option Elab.async false
set_option linter.all false
set_option maxRecDepth 100000
set_option maxHeartbeats 4000000
/-! K88s: _law_caught, _law_word. -/
namespace K88
open PySem Vi

theorem back_gen {s : Vi.S} {o : List O} {k t : List Nat} (ht : t = s.keep) : Vi.S.back s ⟨o, k⟩ t = ⟨o.take s.objs.length, s.keep⟩ := by
  subst ht
  unfold Vi.S.back keptBy
  rw [if_pos rfl]
theorem leave_rtG {s s1 : Vi.S} {w : W} (d : isD w = true) (f : free w) (hk : s1.keep = s.objs.length :: s.keep) : leave true s (.ok (.rt w) s1) = .ok w ⟨s1.objs.take s.objs.length, s.keep⟩ := by
  obtain ⟨o, k⟩ := s1
  have hk : k = s.objs.length :: s.keep := hk
  subst hk
  show (if isD w then (if true = true ∧ s.objs.length = s.objs.length then (if belowW s.objs.length w then Res.ok w (Vi.S.back s ⟨o, _⟩ s.keep) else _) else _) else .bad) = _
  rw [if_pos d, if_pos (show true = true ∧ s.objs.length = s.objs.length from ⟨rfl, rfl⟩), if_pos (f _), back_gen rfl]
/-- what an action does -/
def Act (k : Nat) (f : W) (r : Option W) : Prop := (∀ s, WF s → callAt pg k f [] s = match r with
  | some v => .ok v s
  | none => .exc badText s) ∧ ∀ v, r = some v → clean v = true
theorem WF.new {s : Vi.S} (h : WF s) (o : O) : WF (s.new o) := fun k hk => by
  have := h k hk
  show k ≤ (s.objs ++ [o]).length
  rw [List.length_append]
  omega
theorem WF.put {s : Vi.S} (h : WF s) (q : Nat) (o : O) : WF (s.put q o) := fun k hk => by
  have := h k hk
  show k ≤ (s.objs.set q o).length
  rw [List.length_set]
  exact this
theorem callV_ok {k j : Nat} {env : Vi.Env} {s : Vi.S} {cs : List W} {i : Nat} {w : W} {s1 : Vi.S} (he : env[i]? = some (some (.clo j cs))) (h : callAt pg k (.clo j cs) [] s = .ok w s1) (d : isD w = true) : dCallV i daNil (ctAt pg k) env s = .ok w s1 := by
  unfold dCallV
  rw [he]
  show Res.bind (callAt pg k (.clo j cs) [] s) _ = _
  rw [h]
  show (if isD w = true then Res.ok w s1 else .bad) = _
  rw [if_pos d]
theorem callV_ex {k j : Nat} {env : Vi.Env} {s : Vi.S} {cs : List W} {i : Nat} {x : W} {s1 : Vi.S} (he : env[i]? = some (some (.clo j cs))) (h : callAt pg k (.clo j cs) [] s = .exc x s1) : dCallV i daNil (ctAt pg k) env s = .exc x s1 := by
  unfold dCallV
  rw [he]
  show Res.bind (callAt pg k (.clo j cs) [] s) _ = _
  rw [h]
  rfl
/-- the lambda that appends -/
theorem told_ok {k j q : Nat} {cs : List W} {v : W} {s : Vi.S} (h : callAt pg k (.clo j cs) [] s.enter = .ok v s.enter) (hv : clean v = true) (hq : s.objs[q]? = some (.lst [])) : callAt pg (k + 1) (.clo 0 [.clo j cs, .adr q]) [] s = .ok .non (s.put q (.lst [v])) := by
  have hl := (List.getElem?_eq_some_iff.mp hq).1
  rw [call_clo f0 ⟨rfl, rfl⟩]
  have e : l0 (ctAt pg k) [some (.clo j cs), some (.adr q)] s.enter = .ok .non (s.enter.put q (.lst [v])) :=
    dM2_ok (s1 := s.enter) (x := .adr q) rfl (isMK_adr hq) (callV_ok rfl h (clean_D hv)) (app_ok (acc := []) hq (by decide) hv)
  show leave true s (retOf (l0 (ctAt pg k) [some (.clo j cs), some (.adr q)] s.enter)) = _
  rw [e]
  refine (leave_rtG (w := .non) rfl (fun _ => rfl) rfl).trans ?_
  show Res.ok W.non ⟨(s.objs.set q (.lst [v])).take s.objs.length, s.keep⟩ = Res.ok W.non ⟨s.objs.set q (.lst [v]), s.keep⟩
  rw [List.take_of_length_le (by rw [List.length_set]; exact Nat.le_refl _)]
theorem told_ex {k j q : Nat} {cs : List W} {s : Vi.S} (h : callAt pg k (.clo j cs) [] s.enter = .exc badText s.enter) (hq : s.objs[q]? = some (.lst [])) : callAt pg (k + 1) (.clo 0 [.clo j cs, .adr q]) [] s = .exc badText s := by
  rw [call_clo f0 ⟨rfl, rfl⟩]
  have e : l0 (ctAt pg k) [some (.clo j cs), some (.adr q)] s.enter = .exc badText s.enter := by
    unfold l0 dM2
    show (if isMK s.enter .lst (.adr q) = true then (dCallV 0 daNil (ctAt pg k) [some (.clo j cs), some (.adr q)] s.enter).bind _ else _) = _
    rw [if_pos (isMK_adr (s := s.enter) hq), callV_ex rfl h]
    rfl
  show leave true s (retOf (l0 (ctAt pg k) [some (.clo j cs), some (.adr q)] s.enter)) = _
  rw [e]
  exact leave_ex (fun _ => rfl) rfl (take_self s)
theorem sub140 : T.sub 14 0 = true := by kernel_rfl
theorem sub1415 : T.sub 14 15 = false := by kernel_rfl
theorem sub1416 : T.sub 14 16 = false := by kernel_rfl
theorem sub1414 : T.sub 14 14 = true := by kernel_rfl
theorem caught {k j q : Nat} {cs : List W} {r : Option W} {s : Vi.S} (h : Act k (.clo j cs) r) (hw : WF s) (hq : s.objs[q]? = some (.lst [])) : callAt pg (k + 2) (.fn 15) [.clo 0 [.clo j cs, .adr q]] s = match r with
    | some v => .ok .non (s.put q (.lst [v]))
    | none => .ok badText s := by
  have hl := (List.getElem?_eq_some_iff.mp hq).1
  have c1 : sSet (dLstN daNil) (dgName 1) (ctAt pg (k + 1)) [some (.clo 0 [.clo j cs, .adr q]), none, none] s.enter = .ok (.nx [some (.clo 0 [.clo j cs, .adr q]), some (.adr s.objs.length), none]) (s.enter.new (.lst [])) := rfl
  have hq2 : (s.enter.new (.lst [])).objs[q]? = some (.lst []) := new_old hq
  have hf : (s.enter.new (.lst [])).objs[s.objs.length]? = some (.lst []) := new_at s.enter _
  have hc := h.1 (s.enter.new (.lst [])).enter (hw.enter.new _).enter
  rw [call_fn e15 rfl]
  show leave true s (b15 (ctAt pg (k + 1)) [some (.clo 0 [.clo j cs, .adr q]), none, none] s.enter) = _
  cases r with
  | some v =>
    dsimp only at hc ⊢
    have tk := told_ok hc (h.2 v rfl) hq2
    have c2 : sTryApp 0 (dCallV 0 daNil) 1 2 (ctAt pg (k + 1)) [some (.clo 0 [.clo j cs, .adr q]), some (.adr s.objs.length), none] (s.enter.new (.lst [])) = .ok (.nx [some (.clo 0 [.clo j cs, .adr q]), some (.adr s.objs.length), none]) ((s.enter.new (.lst [])).put q (.lst [v])) := by
      unfold sTryApp
      rw [callV_ok rfl tk rfl]
    have hf2 : ((s.enter.new (.lst [])).put q (.lst [v])).objs[s.objs.length]? = some (.lst []) := by
      rw [put_ne (by omega)]
      exact hf
    have t : tE (d2 opNe (dV 1) (dLst daNil)) (ctAt pg (k + 1)) [some (.clo 0 [.clo j cs, .adr q]), some (.adr s.objs.length), none] ((s.enter.new (.lst [])).put q (.lst [v])) = .ok false ((s.enter.new (.lst [])).put q (.lst [v])) := tE_ok (d2_ok (s1 := (s.enter.new (.lst [])).put q (.lst [v])) (x := .adr s.objs.length) (y := .lst []) rfl rfl (ne_nil (see_adr hf2)))
    have bd : b15 (ctAt pg (k + 1)) [some (.clo 0 [.clo j cs, .adr q]), none, none] s.enter = .ok (.rt .non) ((s.enter.new (.lst [])).put q (.lst [v])) := by
      unfold b15
      rw [seq_ok c1, seq_ok c2]
      refine seq_rt (ret_ok ?_)
      rw [dIf_ok t]
      rfl
    rw [bd]
    refine (leave_rtG (w := .non) rfl (fun _ => rfl) rfl).trans ?_
    show Res.ok W.non ⟨((s.objs ++ [O.lst []]).set q (.lst [v])).take s.objs.length, s.keep⟩ = Res.ok W.non ⟨s.objs.set q (.lst [v]), s.keep⟩
    rw [List.set_append_left _ _ hl, List.take_left' (by rw [List.length_set])]
  | none =>
    dsimp only at hc ⊢
    have tk := told_ex hc hq2
    have c2 : sTryApp 0 (dCallV 0 daNil) 1 2 (ctAt pg (k + 1)) [some (.clo 0 [.clo j cs, .adr q]), some (.adr s.objs.length), none] (s.enter.new (.lst [])) = .ok (.nx [some (.clo 0 [.clo j cs, .adr q]), some (.adr s.objs.length), none]) ((s.enter.new (.lst [])).put s.objs.length (.lst [badText])) := by
      unfold sTryApp
      rw [callV_ex rfl tk]
      show (if T.sub 14 0 = true then (match mAppend (s.enter.new (.lst [])) (.adr s.objs.length) badText with
        | .ok _ s' => Res.ok (Flow.nx [some (.clo 0 [.clo j cs, .adr q]), some (.adr s.objs.length), none]) s'
        | _ => .bad) else _) = _
      rw [if_pos sub140]
      have ap : mAppend (s.enter.new (.lst [])) (.adr s.objs.length) badText = .ok .non ((s.enter.new (.lst [])).put s.objs.length (.lst [badText])) := by
        unfold mAppend
        show (match (s.enter.new (.lst [])).objs[s.objs.length]? with
          | some (.lst l) => if isD badText && decide (l.length < sizeMax) then Res.ok W.non (((s.enter.new (.lst [])).held s.objs.length badText).put s.objs.length (.lst (l ++ [badText]))) else .bad
          | _ => .bad) = _
        rw [hf, held_free (w := badText) fun _ => rfl]
        rfl
      rw [ap]
    have hf2 : ((s.enter.new (.lst [])).put s.objs.length (.lst [badText])).objs[s.objs.length]? = some (.lst [badText]) := put_at hf
    have t : tE (d2 opNe (dV 1) (dLst daNil)) (ctAt pg (k + 1)) [some (.clo 0 [.clo j cs, .adr q]), some (.adr s.objs.length), none] ((s.enter.new (.lst [])).put s.objs.length (.lst [badText])) = .ok true ((s.enter.new (.lst [])).put s.objs.length (.lst [badText])) := tE_ok (d2_ok (s1 := (s.enter.new (.lst [])).put s.objs.length (.lst [badText])) (x := .adr s.objs.length) (y := .lst []) rfl rfl (ne_nil (L := [badText]) (see_adr hf2)))
    have ix : d2 opIx (dV 1) (dC (.int 0)) (ctAt pg (k + 1)) [some (.clo 0 [.clo j cs, .adr q]), some (.adr s.objs.length), none] ((s.enter.new (.lst [])).put s.objs.length (.lst [badText])) = .ok badText ((s.enter.new (.lst [])).put s.objs.length (.lst [badText])) := by
      refine d2_ok (s1 := (s.enter.new (.lst [])).put s.objs.length (.lst [badText])) (x := .adr s.objs.length) (y := .int 0) rfl rfl ?_
      show (match (match ((s.enter.new (.lst [])).put s.objs.length (.lst [badText])).objs[s.objs.length]? with
        | some (.lst l) => some l
        | _ => none) with
        | some (l : List W) => (match L2.ixN l.length 0 with
          | some k => l[k]?
          | none => none)
        | none => _) = _
      rw [hf2]
      rfl
    have bd : b15 (ctAt pg (k + 1)) [some (.clo 0 [.clo j cs, .adr q]), none, none] s.enter = .ok (.rt badText) ((s.enter.new (.lst [])).put s.objs.length (.lst [badText])) := by
      unfold b15
      rw [seq_ok c1, seq_ok c2]
      refine seq_rt (ret_ok ?_)
      rw [dIf_ok t]
      exact ix
    rw [bd]
    refine leave_rt (w := badText) rfl (fun _ => rfl) rfl ?_
    show ((s.objs ++ [O.lst []]).set s.objs.length (.lst [badText])).take s.objs.length = s.objs
    rw [List.take_set_of_le (Nat.le_refl _), List.take_left]
abbrev textNo : W := .tup [tx "text", .int 0]
/-- _law_word -/
theorem lawword {k j : Nat} {cs : List W} {r : Option W} {s : Vi.S} (h : Act k (.clo j cs) r) (hw : WF s) : callAt pg (k + 3) (.fn 16) [.clo j cs] s = .ok (match r with
    | some v => v
    | none => textNo) s := by
  have c1 : sSet (dLstN daNil) (dgName 4) (ctAt pg (k + 2)) [some (.clo j cs), none, none, none, none] s.enter = .ok (.nx [some (.clo j cs), none, none, none, some (.adr s.objs.length)]) (s.enter.new (.lst [])) := rfl
  have hq : (s.enter.new (.lst [])).objs[s.objs.length]? = some (.lst []) := new_at s.enter _
  have cg := caught (q := s.objs.length) h (hw.enter.new (.lst [])) hq
  rw [call_fn e16 rfl]
  show leave true s (b16 (ctAt pg (k + 2)) [some (.clo j cs), none, none, none, none] s.enter) = _
  cases r with
  | some v =>
    dsimp only at cg ⊢
    have cv := h.2 v rfl
    have c2 : sSet (dCallLam 15 [.inl 0] daNil 0 [0, 4]) (dgName 1) (ctAt pg (k + 2)) [some (.clo j cs), none, none, none, some (.adr s.objs.length)] (s.enter.new (.lst [])) = .ok (.nx [some (.clo j cs), some .non, none, none, some (.adr s.objs.length)]) ((s.enter.new (.lst [])).put s.objs.length (.lst [v])) := by
      refine set_ok (w := .non) ?_
      unfold dCallLam
      show Res.bind (callAt pg (k + 2) (.fn 15) [.clo 0 [.clo j cs, .adr s.objs.length]] (s.enter.new (.lst []))) _ = _
      rw [cg]
      rfl
    have hq2 : ((s.enter.new (.lst [])).put s.objs.length (.lst [v])).objs[s.objs.length]? = some (.lst [v]) := put_at hq
    have ix : d2 opIx (dV 4) (dC (.int 0)) (ctAt pg (k + 2)) [some (.clo j cs), some .non, none, none, some (.adr s.objs.length)] ((s.enter.new (.lst [])).put s.objs.length (.lst [v])) = .ok v ((s.enter.new (.lst [])).put s.objs.length (.lst [v])) := by
      refine d2_ok (s1 := (s.enter.new (.lst [])).put s.objs.length (.lst [v])) (x := .adr s.objs.length) (y := .int 0) rfl rfl ?_
      show (match (match ((s.enter.new (.lst [])).put s.objs.length (.lst [v])).objs[s.objs.length]? with
        | some (.lst l) => some l
        | _ => none) with
        | some (l : List W) => (match L2.ixN l.length 0 with
          | some k => l[k]?
          | none => none)
        | none => _) = _
      rw [hq2]
      rfl
    have bd : b16 (ctAt pg (k + 2)) [some (.clo j cs), none, none, none, none] s.enter = .ok (.rt v) ((s.enter.new (.lst [])).put s.objs.length (.lst [v])) := by
      unfold b16
      rw [seq_ok c1, seq_ok c2]
      refine seq_rt ?_
      rw [if_ok (k := true) (s1 := (s.enter.new (.lst [])).put s.objs.length (.lst [v])) rfl]
      show sSeq _ sPass _ _ _ = _
      exact seq_rt (ret_ok ix)
    rw [bd]
    refine leave_rt (clean_D cv) (fun n => clean_free n v cv) rfl ?_
    show ((s.objs ++ [O.lst []]).set s.objs.length (.lst [v])).take s.objs.length = s.objs
    rw [List.take_set_of_le (Nat.le_refl _), List.take_left]
  | none =>
    dsimp only at cg ⊢
    have c2 : sSet (dCallLam 15 [.inl 0] daNil 0 [0, 4]) (dgName 1) (ctAt pg (k + 2)) [some (.clo j cs), none, none, none, some (.adr s.objs.length)] (s.enter.new (.lst [])) = .ok (.nx [some (.clo j cs), some badText, none, none, some (.adr s.objs.length)]) (s.enter.new (.lst [])) := by
      refine set_ok (w := badText) ?_
      unfold dCallLam
      show Res.bind (callAt pg (k + 2) (.fn 15) [.clo 0 [.clo j cs, .adr s.objs.length]] (s.enter.new (.lst []))) _ = _
      rw [cg]
      rfl
    have isx : ∀ c, tE (dIsi (dV 1) [.cls c]) (ctAt pg (k + 2)) [some (.clo j cs), some badText, none, none, some (.adr s.objs.length)] (s.enter.new (.lst [])) = .ok (T.sub 14 c) (s.enter.new (.lst [])) := fun c => by
      refine (tE_ok (isi_ok (ts := [.cls c]) (dV_ok (i := 1) rfl) (k := .cls 14) rfl)).trans ?_
      show Res.ok (T.sub 14 c || false) _ = _
      rw [Bool.or_false]
    have i15 := isx 15
    have i16 := isx 16
    have i14 := isx 14
    rw [sub1415] at i15
    rw [sub1416] at i16
    rw [sub1414] at i14
    have bd : b16 (ctAt pg (k + 2)) [some (.clo j cs), none, none, none, none] s.enter = .ok (.rt textNo) (s.enter.new (.lst [])) := by
      unfold b16
      rw [seq_ok c1, seq_ok c2]
      rw [seq_ok (env1 := [some (.clo j cs), some badText, none, none, some (.adr s.objs.length)]) (s1 := s.enter.new (.lst [])) rfl]
      rw [seq_ok (env1 := [some (.clo j cs), some badText, none, none, some (.adr s.objs.length)]) (s1 := s.enter.new (.lst [])) (by rw [if_ok i15]; rfl)]
      rw [seq_ok (env1 := [some (.clo j cs), some badText, none, none, some (.adr s.objs.length)]) (s1 := s.enter.new (.lst [])) (by rw [if_ok i16]; rfl)]
      refine seq_rt ?_
      rw [if_ok i14]
      rfl
    rw [bd]
    refine leave_rt (w := textNo) rfl (fun _ => rfl) rfl ?_
    show (s.objs ++ [O.lst []]).take s.objs.length = s.objs
    rw [List.take_left]
/-! ### the actions -/
theorem act_read {k j : Nat} {l : List Nat} (hj : (T.lts[j]?).map (ldOf T.ci) = some ⟨1, 0, dCall 7 [.inl 0] (daCons (dV 0) daNil)⟩) (hl : txtOk l) (hf : l.length ≤ 5000) (cv : ∀ v, readV l = some v → clean v = true) : Act (k + 5) (.clo j [.str (Tx l)]) (readV l) := ⟨fun s hw => by
  rw [call_clo hj ⟨rfl, rfl⟩]
  have z := read_str (k := k) hl hf s.enter hw.enter
  show leave true s (retOf (callAt pg (k + 4) (.fn 7) [.str (Tx l)] s.enter)) = _
  rw [z]
  cases e : readV l with
  | some v => exact leave_rt (clean_D (cv v e)) (fun n => clean_free n v (cv v e)) rfl (take_self s)
  | none => exact leave_ex (fun _ => rfl) rfl (take_self s), cv⟩
theorem act_thr {k j g : Nat} {w : W} (hj : (T.lts[j]?).map (ldOf T.ci) = some ⟨1, 0, dCall g [.inl 0] (daCons (dV 0) daNil)⟩) (h : Thr k (.fn g) [w] badText) : Act (k + 1) (.clo j [w]) none := ⟨fun s _ => by
  rw [call_clo hj ⟨rfl, rfl⟩]
  show leave true s (retOf (callAt pg k (.fn g) [w] s.enter)) = _
  rw [h s.enter]
  exact leave_ex (fun _ => rfl) rfl (take_self s), fun v e => by cases e⟩
end K88
set_option Elab.async false
set_option linter.all false
set_option maxRecDepth 100000
set_option maxHeartbeats 4000000
/-! K88u: the draws. -/
namespace K88
open PySem Vi

abbrev nums (l : List Int) : List W := l.map .int
def dctOf (cs : List Int) (r t : Int) : List (W × W) := [(tx "great", .adr 0), (tx "cells", .lst (nums cs)), (tx "rest", .int r), (tx "turn", .int t)]
/-- the law's state -/
def mkS (gs cs : List Int) (r t : Int) (K : List Nat) : Vi.S := ⟨[.lst (nums gs), .dct (dctOf cs r t)], K⟩
theorem key_gc : keyEq (tx "great") (tx "cells") = false := by decide +kernel
theorem key_gr : keyEq (tx "great") (tx "rest") = false := by decide +kernel
theorem key_gt : keyEq (tx "great") (tx "turn") = false := by decide +kernel
theorem key_gg : keyEq (tx "great") (tx "great") = true := by decide +kernel
theorem key_cc : keyEq (tx "cells") (tx "cells") = true := by decide +kernel
theorem key_cr : keyEq (tx "cells") (tx "rest") = false := by decide +kernel
theorem key_ct : keyEq (tx "cells") (tx "turn") = false := by decide +kernel
theorem key_rr : keyEq (tx "rest") (tx "rest") = true := by decide +kernel
theorem key_rt : keyEq (tx "rest") (tx "turn") = false := by decide +kernel
theorem key_tr : keyEq (tx "turn") (tx "rest") = false := by decide +kernel
theorem key_tt : keyEq (tx "turn") (tx "turn") = true := by decide +kernel
theorem at_great {gs cs : List Int} {r t : Int} {K : List Nat} : opIx (mkS gs cs r t K) (.adr 1) (tx "great") = some (.adr 0) := by
  show look (tx "great") (dctOf cs r t) = _
  unfold dctOf look
  rw [key_gg]
  rfl
theorem at_cells {gs cs : List Int} {r t : Int} {K : List Nat} : opIx (mkS gs cs r t K) (.adr 1) (tx "cells") = some (.lst (nums cs)) := by
  show look (tx "cells") (dctOf cs r t) = _
  simp only [dctOf, look, key_gc, key_cc, if_true, if_false, Bool.false_eq_true]
theorem at_rest {gs cs : List Int} {r t : Int} {K : List Nat} : opIx (mkS gs cs r t K) (.adr 1) (tx "rest") = some (.int r) := by
  show look (tx "rest") (dctOf cs r t) = _
  simp only [dctOf, look, key_gr, key_cr, key_rr, if_true, if_false, Bool.false_eq_true]
theorem at_turn {gs cs : List Int} {r t : Int} {K : List Nat} : opIx (mkS gs cs r t K) (.adr 1) (tx "turn") = some (.int t) := by
  show look (tx "turn") (dctOf cs r t) = _
  simp only [dctOf, look, key_gt, key_ct, key_rt, key_tt, if_true, if_false, Bool.false_eq_true]
theorem put_rest {cs : List Int} {r t x : Int} : putK (tx "rest") (.int x) (dctOf cs r t) = dctOf cs x t := by
  simp only [putK, dctOf, List.any_cons, List.any_nil, List.map_cons, List.map_nil, key_gr, key_cr, key_rr, key_tr, Bool.or_true, Bool.or_false, Bool.false_or, Bool.true_or, if_true, if_false, Bool.false_eq_true]
theorem put_turn {cs : List Int} {r t x : Int} : putK (tx "turn") (.int x) (dctOf cs r t) = dctOf cs r x := by
  simp only [putK, dctOf, List.any_cons, List.any_nil, List.map_cons, List.map_nil, key_gt, key_ct, key_rt, key_tt, Bool.or_true, Bool.or_false, Bool.false_or, Bool.true_or, if_true, if_false, Bool.false_eq_true]
theorem putK_ok {e : DE} {x : String} {n : Int} {c : Ct} {env : Vi.Env} {s : Vi.S} {gs cs cs' : List Int} {r t r' t' : Int} {K : List Nat} (h0 : env[0]? = some (some (.adr 1))) (h : e c env s = .ok (.int n) (mkS gs cs r t K)) (hp : putK (tx x) (.int n) (dctOf cs r t) = dctOf cs' r' t') : sPutK e (dV 0) (dC (tx x)) c env s = .ok (.nx env) (mkS gs cs' r' t' K) := by
  unfold sPutK
  rw [h]
  show Res.bind (dV 0 c env (mkS gs cs r t K)) _ = _
  rw [dV_ok h0]
  show (if isD (.int n) && keyOk (tx x) && decide ((dctOf cs r t).length < sizeMax) then Res.ok (Flow.nx env) (((mkS gs cs r t K).held 1 (.int n)).put 1 (.dct (putK (tx x) (.int n) (dctOf cs r t)))) else .bad) = _
  rw [held_free (w := .int n) fun _ => rfl, hp]
  rfl
theorem nums_mul {i j : Int} (h : i.natAbs < 2 ^ 1000) (h2 : j.natAbs < 2 ^ 1000) : okMul i j = true := by
  have lg : ∀ x : Int, x.natAbs < 2 ^ 1000 → x.natAbs.log2 < 1000 := fun x hx => by
    by_cases z : x.natAbs = 0
    · rw [z]
      decide
    · exact (Nat.log2_lt z).mpr hx
  have a := lg i h
  have b := lg j h2
  exact decide_eq_true (by omega)
/-! ### mixing -/
abbrev mixI : DS := (sSeq (sSet (d2 opMod (d1 bInt (d2 opAdd (d2 opAdd (d2 opMul (dV 4) (dC (.int 48271))) (dV 5)) (dV 1))) (dV 3)) (dgName 4))
 sPass)
theorem nat_pow_lt {a : Nat} (h : a < 18446744073709551616) : a < 2 ^ 1000 := Nat.lt_of_lt_of_le h (by decide +kernel)
theorem mul_ok {a b : DE} {c : Ct} {env : Vi.Env} {s : Vi.S} {i j : Int} (h : a c env s = .ok (.int i) s) (h2 : b c env s = .ok (.int j) s) (hi : i.natAbs < 2 ^ 1000) (hj : j.natAbs < 2 ^ 1000) : d2 opMul a b c env s = .ok (.int (i * j)) s := by
  refine d2_ok h h2 ?_
  show (if okMul i j = true then some (W.int (i * j)) else none) = _
  rw [nums_mul hi hj]
  rfl
theorem mix_loop {k : Nat} {t f p : Int} (hp0 : 0 < p) (hp1 : p < 4294967296) {s : Vi.S} : ∀ (cs : List Int) (b : Int) (o5 : Option W), 0 ≤ b → b < 18446744073709551616 →
    ∃ b' o5', forLoop (dgName 5) mixI (ctAt pg k) (nums cs) [some (.adr 1), some (.int t), some (.int f), some (.int p), some (.int b), o5] s = .ok (.nx [some (.adr 1), some (.int t), some (.int f), some (.int p), some (.int b'), o5']) s ∧ 0 ≤ b' ∧ b' < 18446744073709551616
  | [], b, o5, h0, h1 => ⟨b, o5, rfl, h0, h1⟩
  | c :: cs, b, o5, h0, h1 => by
    have m := mul_ok (a := dV 4) (b := dC (.int 48271)) (c := ctAt pg k) (env := [some (.adr 1), some (.int t), some (.int f), some (.int p), some (.int b), some (.int c)]) (s := s) (i := b) (j := 48271) rfl rfl (nat_pow_lt (by omega)) (nat_pow_lt (by decide))
    have st : mixI (ctAt pg k) [some (.adr 1), some (.int t), some (.int f), some (.int p), some (.int b), some (.int c)] s = .ok (.nx [some (.adr 1), some (.int t), some (.int f), some (.int p), some (.int ((b * 48271 + c + t).fmod p)), some (.int c)]) s := by
      unfold mixI
      refine (seq_ok (set_ok (w := .int ((b * 48271 + c + t).fmod p)) ?_)).trans rfl
      refine d2_ok (d1_ok (d2_ok (d2_ok m (dV_ok (w := .int c) rfl) rfl) (dV_ok (w := .int t) rfl) rfl) rfl) (dV_ok (w := .int p) rfl) ?_
      show (if p = 0 then none else some (W.int ((b * 48271 + c + t).fmod p))) = _
      rw [if_neg (by omega)]
    have g0 := Int.fmod_nonneg_of_pos (b * 48271 + c + t) hp0
    have g1 := Int.fmod_lt_of_pos (b * 48271 + c + t) hp0
    obtain ⟨b', o5', h, q0, q1⟩ := mix_loop (k := k) (t := t) (f := f) hp0 hp1 (s := s) cs ((b * 48271 + c + t).fmod p) (some (.int c)) g0 (by omega)
    exact ⟨b', o5', (for_cons st).trans h, q0, q1⟩
abbrev mixO : DS := (sSeq (sSet (d2 opAdd (d2 opMul (dC (.int 69621)) (dV 1)) (d2 opFdiv (dV 3) (dC (.int 41)))) (dgName 4))
 (sSeq (sFor (diE (d2 opIx (dV 0) (dC (tx "cells")))) (dgName 5)
 mixI)
 (sSeq (sSet (d2 opAdd (d2 opMul (dV 2) (dC (.int 2147483659))) (d2 opMod (d1 bInt (d2 opPow (dV 4) (dC (.int 5)))) (dV 3))) (dgName 2))
 sPass)))
theorem mix_turn {k : Nat} {gs cs : List Int} {r t f p : Int} {K : List Nat} {o4 o5 : Option W} (hp0 : 0 < p) (hp1 : p < 4294967296) (ht0 : 0 ≤ t) (ht1 : t < 1000000000) (hf0 : 0 ≤ f) (hf1 : f < 2 ^ 500) :
    ∃ b' o5' x, mixO (ctAt pg k) [some (.adr 1), some (.int t), some (.int f), some (.int p), o4, o5] (mkS gs cs r t K) = .ok (.nx [some (.adr 1), some (.int t), some (.int (f * 2147483659 + x)), some (.int p), some (.int b'), o5']) (mkS gs cs r t K) ∧ 0 ≤ x ∧ x < p := by
  have hf2 : f.natAbs < 2 ^ 1000 := by
    have e : (2 : Int) ^ 500 = ((2 ^ 500 : Nat) : Int) := by decide +kernel
    have l : (2 : Nat) ^ 500 ≤ 2 ^ 1000 := by decide +kernel
    rw [e] at hf1
    omega
  have m := mul_ok (a := dC (.int 69621)) (b := dV 1) (c := ctAt pg k) (env := [some (.adr 1), some (.int t), some (.int f), some (.int p), o4, o5]) (s := mkS gs cs r t K) (i := 69621) (j := t) rfl rfl (nat_pow_lt (by decide)) (nat_pow_lt (by omega))
  have c1 : sSet (d2 opAdd (d2 opMul (dC (.int 69621)) (dV 1)) (d2 opFdiv (dV 3) (dC (.int 41)))) (dgName 4) (ctAt pg k) [some (.adr 1), some (.int t), some (.int f), some (.int p), o4, o5] (mkS gs cs r t K) = .ok (.nx [some (.adr 1), some (.int t), some (.int f), some (.int p), some (.int (69621 * t + p.fdiv 41)), o5]) (mkS gs cs r t K) := set_ok (w := .int (69621 * t + p.fdiv 41)) (d2_ok m (d2_ok (dV_ok (w := .int p) rfl) (s2 := mkS gs cs r t K) (y := .int 41) rfl rfl) rfl)
  have d0 : 0 ≤ p.fdiv 41 := Int.fdiv_nonneg (by omega) (by decide)
  have d1 : p.fdiv 41 ≤ p := by
    rw [Int.fdiv_eq_ediv_of_nonneg _ (by decide)]
    omega
  obtain ⟨b', o5', lp, b0, b1⟩ := mix_loop (k := k) (t := t) (f := f) hp0 hp1 (s := mkS gs cs r t K) cs (69621 * t + p.fdiv 41) o5 (by omega) (by omega)
  have c2 : sFor (diE (d2 opIx (dV 0) (dC (tx "cells")))) (dgName 5) mixI (ctAt pg k) [some (.adr 1), some (.int t), some (.int f), some (.int p), some (.int (69621 * t + p.fdiv 41)), o5] (mkS gs cs r t K) = .ok (.nx [some (.adr 1), some (.int t), some (.int f), some (.int p), some (.int b'), o5']) (mkS gs cs r t K) := by
    unfold sFor
    have e : diE (d2 opIx (dV 0) (dC (tx "cells"))) (ctAt pg k) [some (.adr 1), some (.int t), some (.int f), some (.int p), some (.int (69621 * t + p.fdiv 41)), o5] (mkS gs cs r t K) = .ok (.inl (nums cs)) (mkS gs cs r t K) := by
      unfold diE
      rw [d2_ok (s1 := mkS gs cs r t K) (s2 := mkS gs cs r t K) (x := .adr 1) (y := tx "cells") rfl rfl at_cells]
      rfl
    rw [e]
    exact lp
  have m2 := mul_ok (a := dV 2) (b := dC (.int 2147483659)) (c := ctAt pg k) (env := [some (.adr 1), some (.int t), some (.int f), some (.int p), some (.int b'), o5']) (s := mkS gs cs r t K) (i := f) (j := 2147483659) rfl rfl hf2 (nat_pow_lt (by decide))
  have pw : d2 opPow (dV 4) (dC (.int 5)) (ctAt pg k) [some (.adr 1), some (.int t), some (.int f), some (.int p), some (.int b'), o5'] (mkS gs cs r t K) = .ok (.int (b' ^ 5)) (mkS gs cs r t K) := by
    refine d2_ok (s1 := mkS gs cs r t K) (s2 := mkS gs cs r t K) (x := .int b') (y := .int 5) rfl rfl ?_
    show (if decide ((0 : Int) ≤ 5) && decide ((5 : Int) ≤ 1000000) && decide (b'.natAbs < 18446744073709551616) then some (W.int (b' ^ (5 : Int).toNat)) else none) = _
    rw [decide_eq_true (show b'.natAbs < 18446744073709551616 by omega)]
    rfl
  have c3 : sSet (d2 opAdd (d2 opMul (dV 2) (dC (.int 2147483659))) (d2 opMod (Vi.d1 bInt (d2 opPow (dV 4) (dC (.int 5)))) (dV 3))) (dgName 2) (ctAt pg k) [some (.adr 1), some (.int t), some (.int f), some (.int p), some (.int b'), o5'] (mkS gs cs r t K) = .ok (.nx [some (.adr 1), some (.int t), some (.int (f * 2147483659 + (b' ^ 5).fmod p)), some (.int p), some (.int b'), o5']) (mkS gs cs r t K) := by
    have bi : Vi.d1 bInt (d2 opPow (dV 4) (dC (.int 5))) (ctAt pg k) [some (.adr 1), some (.int t), some (.int f), some (.int p), some (.int b'), o5'] (mkS gs cs r t K) = .ok (.int (b' ^ 5)) (mkS gs cs r t K) := d1_ok pw rfl
    have md : d2 opMod (Vi.d1 bInt (d2 opPow (dV 4) (dC (.int 5)))) (dV 3) (ctAt pg k) [some (.adr 1), some (.int t), some (.int f), some (.int p), some (.int b'), o5'] (mkS gs cs r t K) = .ok (.int ((b' ^ 5).fmod p)) (mkS gs cs r t K) := by
      refine d2_ok bi (dV_ok (w := .int p) rfl) ?_
      show (if p = 0 then none else some (W.int ((b' ^ 5).fmod p))) = _
      rw [if_neg (by omega)]
    exact set_ok (w := .int (f * 2147483659 + (b' ^ 5).fmod p)) (d2_ok m2 md rfl)
  refine ⟨b', o5', (b' ^ 5).fmod p, ?_, Int.fmod_nonneg_of_pos _ hp0, Int.fmod_lt_of_pos _ hp0⟩
  unfold mixO
  rw [seq_ok c1, seq_ok c2]
  exact (seq_ok c3).trans rfl
end K88
set_option Elab.async false
set_option linter.all false
set_option maxRecDepth 100000
set_option maxHeartbeats 4000000
/-! K88v: numbers, items, values drawn. -/
namespace K88
open PySem Vi

theorem leave_mk {gs gs' cs : List Int} {r t r' t' : Int} {K : List Nat} {w : W} (d : isD w = true) (f : free w) : leave true (mkS gs cs r t K) (.ok (.rt w) (mkS gs' cs r' t' (2 :: K))) = .ok w (mkS gs' cs r' t' K) := leave_rtG (s := mkS gs cs r t K) (s1 := mkS gs' cs r' t' (2 :: K)) d f rfl
theorem mixed {k : Nat} {gs cs : List Int} {r t : Int} {K : List Nat} (ht0 : 0 ≤ t) (ht1 : t + 1 < 1000000000) : ∃ m, callAt pg (k + 1) (.fn 9) [.adr 1] (mkS gs cs r t K) = .ok (.int m) (mkS gs cs r (t + 1) K) := by
  rw [call_fn e9 rfl]
  show ∃ m, leave true (mkS gs cs r t K) (b9 (ctAt pg k) [some (.adr 1), none, none, none, none, none] (mkS gs cs r t (2 :: K))) = _
  have c1 : sPar [1, 2] (daCons (d2 opAdd (d2 opIx (dV 0) (dC (tx "turn"))) (dC (.int 1))) (daCons (dC (.int 0)) daNil)) (ctAt pg k) [some (.adr 1), none, none, none, none, none] (mkS gs cs r t (2 :: K)) = .ok (.nx [some (.adr 1), some (.int (t + 1)), some (.int 0), none, none, none]) (mkS gs cs r t (2 :: K)) :=
    par_ok (x := .int (t + 1)) (y := .int 0) (d2_ok (d2_ok (s1 := mkS gs cs r t (2 :: K)) (s2 := mkS gs cs r t (2 :: K)) (x := .adr 1) (y := tx "turn") rfl rfl at_turn) (s2 := mkS gs cs r t (2 :: K)) (y := .int 1) rfl rfl) rfl
  have c2 : sPutK (dV 1) (dV 0) (dC (tx "turn")) (ctAt pg k) [some (.adr 1), some (.int (t + 1)), some (.int 0), none, none, none] (mkS gs cs r t (2 :: K)) = .ok (.nx [some (.adr 1), some (.int (t + 1)), some (.int 0), none, none, none]) (mkS gs cs r (t + 1) (2 :: K)) :=
    putK_ok (x := "turn") (n := t + 1) rfl (dV_ok rfl) put_turn
  obtain ⟨a4, a5, x1, m1, q1, p1⟩ := mix_turn (k := k) (gs := gs) (cs := cs) (r := r) (t := t + 1) (f := 0) (p := 2147483629) (K := 2 :: K) (o4 := none) (o5 := none) (by decide) (by decide) (by omega) (by omega) (by decide) (by decide +kernel)
  obtain ⟨b4, b5, x2, m2, q2, p2⟩ := mix_turn (k := k) (gs := gs) (cs := cs) (r := r) (t := t + 1) (f := 0 * 2147483659 + x1) (p := 2147483587) (K := 2 :: K) (o4 := some (.int a4)) (o5 := a5) (by decide) (by decide) (by omega) (by omega) (by omega) (by
    have e : (2147483629 : Int) < 2 ^ 500 := by decide +kernel
    omega)
  obtain ⟨d4, d5, x3, m3, q3, p3⟩ := mix_turn (k := k) (gs := gs) (cs := cs) (r := r) (t := t + 1) (f := (0 * 2147483659 + x1) * 2147483659 + x2) (p := 2147483579) (K := 2 :: K) (o4 := some (.int b4)) (o5 := b5) (by decide) (by decide) (by omega) (by omega) (by omega) (by
    have e : (2147483629 : Int) * 2147483659 + 2147483629 < 2 ^ 500 := by decide +kernel
    omega)
  obtain ⟨e4, e5, x4, m4, q4, p4⟩ := mix_turn (k := k) (gs := gs) (cs := cs) (r := r) (t := t + 1) (f := ((0 * 2147483659 + x1) * 2147483659 + x2) * 2147483659 + x3) (p := 2147483563) (K := 2 :: K) (o4 := some (.int d4)) (o5 := d5) (by decide) (by decide) (by omega) (by omega) (by omega) (by
    have e : ((2147483629 : Int) * 2147483659 + 2147483629) * 2147483659 + 2147483629 < 2 ^ 500 := by decide +kernel
    omega)
  have c3 : sFor (diE (dLst (daCons (dC (.int 2147483629)) (daCons (dC (.int 2147483587)) (daCons (dC (.int 2147483579)) (daCons (dC (.int 2147483563)) daNil)))))) (dgName 3) mixO (ctAt pg k) [some (.adr 1), some (.int (t + 1)), some (.int 0), none, none, none] (mkS gs cs r (t + 1) (2 :: K)) = .ok (.nx [some (.adr 1), some (.int (t + 1)), some (.int ((((0 * 2147483659 + x1) * 2147483659 + x2) * 2147483659 + x3) * 2147483659 + x4)), some (.int 2147483563), some (.int e4), e5]) (mkS gs cs r (t + 1) (2 :: K)) := by
    show forLoop (dgName 3) mixO (ctAt pg k) [.int 2147483629, .int 2147483587, .int 2147483579, .int 2147483563] [some (.adr 1), some (.int (t + 1)), some (.int 0), none, none, none] (mkS gs cs r (t + 1) (2 :: K)) = _
    rw [for_cons (i := 3) (env := [some (.adr 1), some (.int (t + 1)), some (.int 0), none, none, none]) m1]
    rw [for_cons (i := 3) (env := [some (.adr 1), some (.int (t + 1)), some (.int _), some (.int 2147483629), some (.int a4), a5]) m2]
    rw [for_cons (i := 3) (env := [some (.adr 1), some (.int (t + 1)), some (.int _), some (.int 2147483587), some (.int b4), b5]) m3]
    rw [for_cons (i := 3) (env := [some (.adr 1), some (.int (t + 1)), some (.int _), some (.int 2147483579), some (.int d4), d5]) m4]
    rfl
  refine ⟨(((0 * 2147483659 + x1) * 2147483659 + x2) * 2147483659 + x3) * 2147483659 + x4, ?_⟩
  unfold b9
  rw [seq_ok c1, seq_ok c2, seq_ok c3, seq_rt (ret_ok (w := .int ((((0 * 2147483659 + x1) * 2147483659 + x2) * 2147483659 + x3) * 2147483659 + x4)) (dV_ok rfl))]
  exact leave_mk rfl fun _ => rfl
theorem okDiv_ok {n : Int} (h0 : 0 < n) (h1 : n < 18446744073709551616) : okDiv n = true := by
  unfold okDiv
  rw [decide_eq_true (show n ≠ 0 by omega), decide_eq_true (show n.natAbs.log2 < 9000 from ?_)]
  · rfl
  · have := (Nat.log2_lt (show n.natAbs ≠ 0 by omega) (k := 64)).mpr (show n.natAbs < 2 ^ 64 by
      have e : (2 : Nat) ^ 64 = 18446744073709551616 := by decide
      omega)
    omega
theorem pop_first {g : Int} {gr cs : List Int} {r t : Int} {K : List Nat} : mPopAt (mkS (g :: gr) cs r t K) (.adr 0) (.int 0) = .ok (.int g) (mkS gr cs r t K) := by
  show (match L2.ixN (nums (g :: gr)).length 0 with
    | some k => (match (nums (g :: gr))[k]? with
      | some y => Res.ok y ((mkS (g :: gr) cs r t K).put 0 (.lst ((nums (g :: gr)).eraseIdx k)))
      | none => .bad)
    | none => .bad) = _
  have e : L2.ixN (nums (g :: gr)).length 0 = some 0 := by
    unfold L2.ixN
    rw [if_pos (by omega), if_pos (by simp)]
    rfl
  rw [e]
  rfl
/-- a draw of less than n -/
theorem draw {k : Nat} {gs cs : List Int} {r t n : Int} {K : List Nat} (ht0 : 0 ≤ t) (ht1 : t + 1 < 1000000000) (hn0 : 0 < n) (hn1 : n < 18446744073709551616) :
    ∃ x gs' r' t', callAt pg (k + 2) (.fn 10) [.adr 1, .int n] (mkS gs cs r t K) = .ok (.int x) (mkS gs' cs r' t' K) ∧ 0 ≤ x ∧ x < n ∧ t ≤ t' ∧ t' ≤ t + 1 := by
  rw [call_fn e10 rfl]
  show ∃ x gs' r' t', leave true (mkS gs cs r t K) (b10 (ctAt pg (k + 1)) [some (.adr 1), some (.int n), none] (mkS gs cs r t (2 :: K))) = _ ∧ _
  -- the rest
  have hr : ∃ gs' r1 t', sIf (tE (d2 opEq (d2 opIx (dV 0) (dC (tx "rest"))) (dC (.int 0)))) (sSeq (sPutK (dIf (tE (d2 opNe (d2 opIx (dV 0) (dC (tx "great"))) (dLst daNil))) (dM2 .lst mPopAt (d2 opIx (dV 0) (dC (tx "great"))) (dC (.int 0))) (dCall 9 [.inl 0] (daCons (dV 0) daNil))) (dV 0) (dC (tx "rest"))) sPass) sPass (ctAt pg (k + 1)) [some (.adr 1), some (.int n), none] (mkS gs cs r t (2 :: K)) = .ok (.nx [some (.adr 1), some (.int n), none]) (mkS gs' cs r1 t' (2 :: K)) ∧ t ≤ t' ∧ t' ≤ t + 1 := by
    have t1 : tE (d2 opEq (d2 opIx (dV 0) (dC (tx "rest"))) (dC (.int 0))) (ctAt pg (k + 1)) [some (.adr 1), some (.int n), none] (mkS gs cs r t (2 :: K)) = .ok (r == 0) (mkS gs cs r t (2 :: K)) :=
      tE_ok (d2_ok (d2_ok (s1 := mkS gs cs r t (2 :: K)) (s2 := mkS gs cs r t (2 :: K)) (x := .adr 1) (y := tx "rest") rfl rfl at_rest) (s2 := mkS gs cs r t (2 :: K)) (y := .int 0) rfl rfl)
    cases z : (r == 0) with
    | false =>
      rw [z] at t1
      exact ⟨gs, r, t, by rw [if_ok t1]; rfl, by omega, by omega⟩
    | true =>
      rw [z] at t1
      have g1 : d2 opIx (dV 0) (dC (tx "great")) (ctAt pg (k + 1)) [some (.adr 1), some (.int n), none] (mkS gs cs r t (2 :: K)) = .ok (.adr 0) (mkS gs cs r t (2 :: K)) := d2_ok (s1 := mkS gs cs r t (2 :: K)) (s2 := mkS gs cs r t (2 :: K)) (x := .adr 1) (y := tx "great") rfl rfl at_great
      have t2 : tE (d2 opNe (d2 opIx (dV 0) (dC (tx "great"))) (dLst daNil)) (ctAt pg (k + 1)) [some (.adr 1), some (.int n), none] (mkS gs cs r t (2 :: K)) = .ok (!(nums gs).isEmpty) (mkS gs cs r t (2 :: K)) :=
        tE_ok (d2_ok g1 (s2 := mkS gs cs r t (2 :: K)) (y := .lst []) rfl (ne_nil (L := nums gs) rfl))
      cases gs with
      | nil =>
        obtain ⟨m, hm⟩ := mixed (k := k) (gs := []) (cs := cs) (r := r) (K := 2 :: K) ht0 ht1
        refine ⟨[], m, t + 1, ?_, by omega, by omega⟩
        rw [if_ok t1]
        show sSeq _ sPass _ _ _ = _
        refine (seq_ok (putK_ok (x := "rest") (n := m) (gs := []) (cs := cs) (r := r) (t := t + 1) (K := 2 :: K) (cs' := cs) (r' := m) (t' := t + 1) rfl ?_ put_rest)).trans rfl
        rw [dIf_ok t2]
        exact hm
      | cons g gr =>
        refine ⟨gr, g, t, ?_, by omega, by omega⟩
        rw [if_ok t1]
        show sSeq _ sPass _ _ _ = _
        refine (seq_ok (putK_ok (x := "rest") (n := g) (gs := gr) (cs := cs) (r := r) (t := t) (K := 2 :: K) (cs' := cs) (r' := g) (t' := t) rfl ?_ put_rest)).trans rfl
        rw [dIf_ok t2]
        exact dM2_ok (k := .lst) g1 rfl (s2 := mkS (g :: gr) cs r t (2 :: K)) (y := .int 0) rfl pop_first
  obtain ⟨gs', r1, t', h1, q1, q2⟩ := hr
  have rs : d2 opIx (dV 0) (dC (tx "rest")) (ctAt pg (k + 1)) [some (.adr 1), some (.int n), none] (mkS gs' cs r1 t' (2 :: K)) = .ok (.int r1) (mkS gs' cs r1 t' (2 :: K)) := d2_ok (s1 := mkS gs' cs r1 t' (2 :: K)) (s2 := mkS gs' cs r1 t' (2 :: K)) (x := .adr 1) (y := tx "rest") rfl rfl at_rest
  have rs2 : ∀ o, d2 opIx (dV 0) (dC (tx "rest")) (ctAt pg (k + 1)) [some (.adr 1), some (.int n), o] (mkS gs' cs r1 t' (2 :: K)) = .ok (.int r1) (mkS gs' cs r1 t' (2 :: K)) := fun o => d2_ok (s1 := mkS gs' cs r1 t' (2 :: K)) (s2 := mkS gs' cs r1 t' (2 :: K)) (x := .adr 1) (y := tx "rest") rfl rfl at_rest
  have c2 : sSet (d2 opMod (d1 bInt (d2 opIx (dV 0) (dC (tx "rest")))) (dV 1)) (dgName 2) (ctAt pg (k + 1)) [some (.adr 1), some (.int n), none] (mkS gs' cs r1 t' (2 :: K)) = .ok (.nx [some (.adr 1), some (.int n), some (.int (r1.fmod n))]) (mkS gs' cs r1 t' (2 :: K)) := by
    refine set_ok (w := .int (r1.fmod n)) (d2_ok (d1_ok rs (y := .int r1) rfl) (dV_ok (w := .int n) rfl) ?_)
    show (if n = 0 then none else some (W.int (r1.fmod n))) = _
    rw [if_neg (by omega)]
  have c3 : sPutK (d2 opFdiv (d2 opIx (dV 0) (dC (tx "rest"))) (dV 1)) (dV 0) (dC (tx "rest")) (ctAt pg (k + 1)) [some (.adr 1), some (.int n), some (.int (r1.fmod n))] (mkS gs' cs r1 t' (2 :: K)) = .ok (.nx [some (.adr 1), some (.int n), some (.int (r1.fmod n))]) (mkS gs' cs (r1.fdiv n) t' (2 :: K)) := by
    refine putK_ok (x := "rest") (n := r1.fdiv n) rfl (d2_ok (rs2 _) (dV_ok (w := .int n) rfl) ?_) put_rest
    show (if okDiv n = true then some (W.int (r1.fdiv n)) else none) = _
    rw [okDiv_ok hn0 hn1]
    rfl
  refine ⟨r1.fmod n, gs', r1.fdiv n, t', ?_, Int.fmod_nonneg_of_pos _ hn0, Int.fmod_lt_of_pos _ hn0, q1, q2⟩
  unfold b10
  rw [seq_ok h1, seq_ok c2, seq_ok c3, seq_rt (ret_ok (w := .int (r1.fmod n)) (dV_ok rfl))]
  exact leave_mk rfl fun _ => rfl
theorem call2_ok {k g : Nat} {a b : DE} {env : Vi.Env} {s s1 s2 s3 : Vi.S} {x y w : W} (ha : a (ctAt pg k) env s = .ok x s1) (hb : b (ctAt pg k) env s1 = .ok y s2) (h : callAt pg k (.fn g) [x, y] s2 = .ok w s3) : dCall g [.inl 0, .inl 1] (daCons a (daCons b daNil)) (ctAt pg k) env s = .ok w s3 := by
  unfold dCall
  have e : daCons a (daCons b daNil) (ctAt pg k) env s = .ok [x, y] s2 := by
    show Res.bind (a (ctAt pg k) env s) _ = _
    rw [ha]
    show Res.bind (Res.bind (b (ctAt pg k) env s1) _) _ = _
    rw [hb]
    rfl
  rw [e]
  exact h
/-- an item drawn -/
theorem pick {k : Nat} {gs cs : List Int} {r t : Int} {K : List Nat} {items : List W} (ht0 : 0 ≤ t) (ht1 : t + 1 < 1000000000) (hn0 : 0 < items.length) (hn1 : items.length < 1000) (hc : cleans items = true) :
    ∃ w gs' r' t', callAt pg (k + 3) (.fn 11) [.adr 1, .lst items] (mkS gs cs r t K) = .ok w (mkS gs' cs r' t' K) ∧ w ∈ items ∧ t ≤ t' ∧ t' ≤ t + 1 := by
  rw [call_fn e11 rfl]
  show ∃ w gs' r' t', leave true (mkS gs cs r t K) (b11 (ctAt pg (k + 2)) [some (.adr 1), some (.lst items)] (mkS gs cs r t (2 :: K))) = _ ∧ _
  obtain ⟨x, gs', r', t', h, x0, x1, q1, q2⟩ := draw (k := k) (gs := gs) (cs := cs) (r := r) (n := (items.length : Nat)) (K := 2 :: K) ht0 ht1 (by omega) (by omega)
  have hx : x.toNat < items.length := by omega
  have e : (items[x.toNat]?) = some items[x.toNat] := List.getElem?_eq_getElem hx
  refine ⟨items[x.toNat], gs', r', t', ?_, List.getElem_mem hx, q1, q2⟩
  have cw := cleans_mem hc (List.getElem_mem hx)
  have bd : b11 (ctAt pg (k + 2)) [some (.adr 1), some (.lst items)] (mkS gs cs r t (2 :: K)) = .ok (.rt items[x.toNat]) (mkS gs' cs r' t' (2 :: K)) := by
    unfold b11
    refine seq_rt (ret_ok (d2_ok (s1 := mkS gs cs r t (2 :: K)) (x := .lst items) rfl (call2_ok (x := .adr 1) (y := .int (items.length : Nat)) (s1 := mkS gs cs r t (2 :: K)) (s2 := mkS gs cs r t (2 :: K)) rfl rfl h) ?_))
    show (match L2.ixN items.length x with
      | some k => items[k]?
      | none => none) = _
    have ei : L2.ixN items.length x = some x.toNat := by
      unfold L2.ixN
      rw [if_pos x0, if_pos (by omega)]
    rw [ei]
    exact e
  rw [bd]
  exact leave_mk (clean_D cw) fun n => clean_free n _ cw
end K88
set_option Elab.async false
set_option linter.all false
set_option maxRecDepth 100000
set_option maxHeartbeats 4000000
/-! K88w: drawn values. -/
namespace K88
open PySem Vi

def Sn : Nat → Nat
  | 0 => 1
  | n + 1 => 1 + 3 * Sn n
def Ln : Nat → Nat
  | 0 => 13
  | n + 1 => 2 + 3 * (Ln n + 1)
def Cn : Nat → Nat
  | 0 => 2
  | n + 1 => 2 + 3 * Cn n
theorem Sn_pos : ∀ n, 1 ≤ Sn n
  | 0 => Nat.le_refl _
  | n + 1 => by show 1 ≤ 1 + _; omega
theorem Ln_pos : ∀ n, 13 ≤ Ln n
  | 0 => Nat.le_refl _
  | n + 1 => by
    have := Ln_pos n
    show 13 ≤ 2 + 3 * (Ln n + 1)
    omega
theorem Cn_pos : ∀ n, 2 ≤ Cn n
  | 0 => Nat.le_refl _
  | n + 1 => by show 2 ≤ 2 + _; omega
structure Drawn (n : Nat) (v : W) : Prop where
  cl : clean v = true
  ok : okW v = true
  pl : plainW n v = true
  sz : sz v ≤ Sn n
  ln : (prL v).length ≤ Ln n
def leafDr (v : W) : Bool := clean v && leafOk v && plainW 0 v && decide ((leafL v).length ≤ 13) && (match v with
  | .tup _ => false
  | _ => true)
theorem plain_leaf {n : Nat} {v : W} (h : plainW 0 v = true) : plainW n v = true := by
  cases v with
  | non | bl | int => cases n <;> rfl
  | str x => cases n <;> exact h
  | _ => cases h
theorem leaf_drawn {n : Nat} {v : W} (h : leafDr v = true) : Drawn n v := by
  unfold leafDr at h
  simp only [Bool.and_eq_true, decide_eq_true_eq] at h
  obtain ⟨⟨⟨⟨h1, h2⟩, h3⟩, h4⟩, h5⟩ := h
  have := Ln_pos n
  have hs := Sn_pos n
  have nt : ∀ l, v ≠ .tup l := fun l e => by
    subst e
    cases h5
  refine ⟨h1, by rw [okW_leaf nt]; exact h2, plain_leaf h3, ?_, by rw [prL_leaf h2]; omega⟩
  have e : sz v = 1 := by
    cases v <;> first | rfl | exact absurd rfl (nt _)
  omega
theorem dr_list : ∀ {n : Nat} {l : List W}, (∀ v ∈ l, Drawn n v) → cleans l = true ∧ okWs l = true ∧ plainWs n l = true ∧ szs l ≤ l.length * Sn n ∧ vws l ≤ l.length * (Ln n + 1)
  | n, [], _ => ⟨rfl, rfl, by cases n <;> rfl, Nat.zero_le _, Nat.zero_le _⟩
  | n, x :: xs, h => by
    have d := h x List.mem_cons_self
    obtain ⟨a1, a2, a3, a4, a5⟩ := dr_list (l := xs) fun v hv => h v (List.mem_cons_of_mem _ hv)
    have e : (x :: xs).length = xs.length + 1 := rfl
    refine ⟨?_, ?_, ?_, ?_, ?_⟩
    · show (clean x && cleans xs) = true
      rw [d.cl, a1]
      rfl
    · show (okW x && okWs xs) = true
      rw [d.ok, a2]
      rfl
    · have z : (plainW n x && plainWs n xs) = true := by
        rw [d.pl, a3]
        rfl
      cases n <;> exact z
    · have := d.sz
      show K88.sz x + szs xs ≤ _
      rw [e, Nat.add_mul]
      omega
    · have := d.ln
      show vw x + vws xs ≤ _
      unfold vw
      rw [e, Nat.add_mul]
      omega
theorem tup_drawn {n : Nat} {l : List W} (h : ∀ v ∈ l, Drawn n v) (hl : l.length ≤ 3) : Drawn (n + 1) (.tup l) := by
  obtain ⟨a1, a2, a3, a4, a5⟩ := dr_list h
  have j := join_vws l
  have m1 : l.length * Sn n ≤ 3 * Sn n := Nat.mul_le_mul_right _ hl
  have m2 : l.length * (Ln n + 1) ≤ 3 * (Ln n + 1) := Nat.mul_le_mul_right _ hl
  refine ⟨a1, a2, a3, ?_, ?_⟩
  · show 1 + szs l ≤ 1 + 3 * Sn n
    omega
  · rw [prL_tup]
    simp only [List.length_append, List.length_cons, List.length_nil]
    show _ ≤ 2 + 3 * (Ln n + 1)
    omega
theorem draw_loop {e : DE} {c : Ct} {env : Vi.Env} {C : Int} {cs : List Int} {K : List Nat} {P : W → Prop} (hC : 0 ≤ C) (hP : ∀ v, P v → isD v = true) (he : ∀ (x : W) (gs : List Int) (r t : Int), 0 ≤ t → t + C + 1 < 1000000000 → ∃ v gs' r' t', e c (env.set 4 (some x)) (mkS gs cs r t K) = .ok v (mkS gs' cs r' t' K) ∧ P v ∧ t ≤ t' ∧ t' ≤ t + C) :
    ∀ (items : List W) (gs : List Int) (r t : Int), 0 ≤ t → t + items.length * C + 1 < 1000000000 → ∃ vs gs' r' t', lcLoop (dgName 4) Vi.tYes e c env items (mkS gs cs r t K) = .ok vs (mkS gs' cs r' t' K) ∧ (∀ v ∈ vs, P v) ∧ vs.length = items.length ∧ t ≤ t' ∧ t' ≤ t + items.length * C
  | [], gs, r, t, _, _ => ⟨[], gs, r, t, rfl, fun v hv => (by cases hv), rfl, Int.le_refl _, by simp⟩
  | x :: xs, gs, r, t, h0, h1 => by
    have el : ((x :: xs).length : Int) * C = xs.length * C + C := by
      rw [List.length_cons]
      push_cast
      rw [Int.add_mul, Int.one_mul]
    have lc : 0 ≤ (xs.length : Int) * C := Int.mul_nonneg (by omega) hC
    rw [el] at h1
    obtain ⟨v, gs1, r1, t1, a1, a2, a3, a4⟩ := he x gs r t h0 (by omega)
    obtain ⟨vs, gs2, r2, t2, b1, b2, b3, b4, b5⟩ := draw_loop hC hP he xs gs1 r1 t1 (by omega) (by omega)
    refine ⟨v :: vs, gs2, r2, t2, ?_, fun w hw => ?_, by rw [List.length_cons, List.length_cons, b3], by omega, by rw [el]; omega⟩
    · show (match e c (env.set 4 (some x)) (mkS gs cs r t K) with
        | .ok y s => if isD y then (match lcLoop (dgName 4) Vi.tYes e c env xs s with
          | .ok ys s => Res.ok (y :: ys) s
          | _ => .bad) else .bad
        | _ => .bad) = _
      rw [a1]
      show (if isD v = true then _ else _) = _
      rw [if_pos (hP v a2), b1]
    · rcases List.mem_cons.mp hw with z | z
      · rw [z]; exact a2
      · exact b2 w z
abbrev words : List W := [tx "a", tx "on", tx "zz", tx "entry", tx "abcdefghijklm"]
abbrev figs : List W := [.int 0, .int 1, .int (-1), .int 7, .int (-42), .int 999999999999, .int (-999999999999)]
theorem words_dr : words.all leafDr = true := by decide +kernel
theorem figs_dr : figs.all leafDr = true := by decide +kernel
theorem dr_clean {l : List W} (h : l.all leafDr = true) : cleans l = true := by
  induction l with
  | nil => rfl
  | cons x xs ih =>
    rw [List.all_cons, Bool.and_eq_true] at h
    show (clean x && cleans xs) = true
    rw [(leaf_drawn (n := 0) h.1).cl, ih h.2]
    rfl
theorem way_eq {c : Ct} {env : Vi.Env} {s : Vi.S} {x n : Int} (h : env[2]? = some (some (.int x))) : tE (d2 opEq (dV 2) (dC (.int n))) c env s = .ok (x == n) s := tE_ok (d2_ok (dV_ok h) (s2 := s) (y := .int n) rfl rfl)
/-- a drawn value -/
theorem some_value {k : Nat} {cs : List Int} : ∀ (n : Nat) (gs : List Int) (r t : Int) (K : List Nat), 0 ≤ t → t + Cn n + 1 < 1000000000 →
    ∃ v gs' r' t', callAt pg (k + n + 4) (.fn 17) [.adr 1, .int (n : Nat)] (mkS gs cs r t K) = .ok v (mkS gs' cs r' t' K) ∧ Drawn n v ∧ t ≤ t' ∧ t' ≤ t + Cn n := by
  -- the part behind the way
  have part : ∀ (j n : Nat) (x : Int) (gs : List Int) (r t : Int) (K : List Nat) (C : Int), 0 ≤ t → 1 ≤ C → t + C + 1 < 1000000000 → 0 ≤ x → (x < 3 ∨ x < 6 ∧ ∃ v gs' r' t', d1 bTuple (dLc [3, 4] (diRange (dCall 10 [.inl 0, .inl 1] (daCons (dV 0) (daCons (dC (.int 4)) daNil)))) (dgName 4) Vi.tYes (dCall 17 [.inl 0, .inl 1] (daCons (dV 0) (daCons (d2 opSub (dV 1) (dC (.int 1))) daNil)))) (ctAt pg (j + 3)) [some (.adr 1), some (.int (n : Nat)), some (.int x), none, none] (mkS gs cs r t (2 :: K)) = .ok v (mkS gs' cs r' t' (2 :: K)) ∧ Drawn n v ∧ t ≤ t' ∧ t' ≤ t + C) →
      ∃ v gs' r' t', (sSeq (sIf (tE (d2 opEq (dV 2) (dC (.int 0))))
 (sSeq (sRet (dCall 11 [.inl 0, .inl 1] (daCons (dV 0) (daCons (dLst (daCons (dC (tx "a")) (daCons (dC (tx "on")) (daCons (dC (tx "zz")) (daCons (dC (tx "entry")) (daCons (dC (tx "abcdefghijklm")) daNil)))))) daNil))))
 sPass)
 sPass)
 (sSeq (sIf (tE (d2 opEq (dV 2) (dC (.int 1))))
 (sSeq (sRet (dCall 11 [.inl 0, .inl 1] (daCons (dV 0) (daCons (dLst (daCons (dC (.int 0)) (daCons (dC (.int 1)) (daCons (d2 opSub (dC (.int 0)) (dC (.int 1))) (daCons (dC (.int 7)) (daCons (d2 opSub (dC (.int 0)) (dC (.int 42))) (daCons (dC (.int 999999999999)) (daCons (d2 opSub (dC (.int 0)) (dC (.int 999999999999))) daNil)))))))) daNil))))
 sPass)
 sPass)
 (sSeq (sIf (tE (d2 opEq (dV 2) (dC (.int 2))))
 (sSeq (sRet (dC .non))
 sPass)
 sPass)
 (sSeq (sRet (d1 bTuple (dLc [3, 4] (diRange (dCall 10 [.inl 0, .inl 1] (daCons (dV 0) (daCons (dC (.int 4)) daNil)))) (dgName 4) Vi.tYes (dCall 17 [.inl 0, .inl 1] (daCons (dV 0) (daCons (d2 opSub (dV 1) (dC (.int 1))) daNil))))))
 sPass)))) (ctAt pg (j + 3)) [some (.adr 1), some (.int (n : Nat)), some (.int x), none, none] (mkS gs cs r t (2 :: K)) = .ok (.rt v) (mkS gs' cs r' t' (2 :: K)) ∧ Drawn n v ∧ t ≤ t' ∧ t' ≤ t + C := by
    intro j n x gs r t K C ht0 hC ht1 hx0 hx
    have w0 := way_eq (c := ctAt pg (j + 3)) (env := [some (.adr 1), some (.int (n : Nat)), some (.int x), none, none]) (s := mkS gs cs r t (2 :: K)) (x := x) (n := 0) rfl
    have w1 := way_eq (c := ctAt pg (j + 3)) (env := [some (.adr 1), some (.int (n : Nat)), some (.int x), none, none]) (s := mkS gs cs r t (2 :: K)) (x := x) (n := 1) rfl
    have w2 := way_eq (c := ctAt pg (j + 3)) (env := [some (.adr 1), some (.int (n : Nat)), some (.int x), none, none]) (s := mkS gs cs r t (2 :: K)) (x := x) (n := 2) rfl
    by_cases h0 : x = 0
    · subst h0
      obtain ⟨v, gs', r', t', h, hm, q1, q2⟩ := pick (k := j) (gs := gs) (cs := cs) (r := r) (K := 2 :: K) (items := words) ht0 (by omega) (by decide) (by decide) (dr_clean words_dr)
      refine ⟨v, gs', r', t', ?_, leaf_drawn (List.all_eq_true.mp words_dr v hm), q1, by omega⟩
      refine seq_rt ?_
      rw [if_ok (k := true) w0]
      show sSeq _ sPass _ _ _ = _
      exact seq_rt (ret_ok (call2_ok (x := .adr 1) (y := .lst words) (s1 := mkS gs cs r t (2 :: K)) (s2 := mkS gs cs r t (2 :: K)) rfl rfl h))
    · by_cases h1 : x = 1
      · subst h1
        obtain ⟨v, gs', r', t', h, hm, q1, q2⟩ := pick (k := j) (gs := gs) (cs := cs) (r := r) (K := 2 :: K) (items := figs) ht0 (by omega) (by decide) (by decide) (dr_clean figs_dr)
        refine ⟨v, gs', r', t', ?_, leaf_drawn (List.all_eq_true.mp figs_dr v hm), q1, by omega⟩
        rw [seq_ok (env1 := [some (.adr 1), some (.int (n : Nat)), some (.int 1), none, none]) (s1 := mkS gs cs r t (2 :: K)) (by rw [if_ok (k := false) w0]; rfl)]
        refine seq_rt ?_
        rw [if_ok (k := true) w1]
        show sSeq _ sPass _ _ _ = _
        exact seq_rt (ret_ok (call2_ok (x := .adr 1) (y := .lst figs) (s1 := mkS gs cs r t (2 :: K)) (s2 := mkS gs cs r t (2 :: K)) rfl rfl h))
      · have e0 : (x == 0) = false := by simpa using h0
        have e1 : (x == 1) = false := by simpa using h1
        rw [e0] at w0
        rw [e1] at w1
        by_cases h2 : x = 2
        · subst h2
          refine ⟨.non, gs, r, t, ?_, leaf_drawn (by decide +kernel), by omega, by omega⟩
          rw [seq_ok (env1 := [some (.adr 1), some (.int (n : Nat)), some (.int 2), none, none]) (s1 := mkS gs cs r t (2 :: K)) (by rw [if_ok w0]; rfl)]
          rw [seq_ok (env1 := [some (.adr 1), some (.int (n : Nat)), some (.int 2), none, none]) (s1 := mkS gs cs r t (2 :: K)) (by rw [if_ok w1]; rfl)]
          refine seq_rt ?_
          rw [if_ok (k := true) w2]
          rfl
        · have e2 : (x == 2) = false := by simpa using h2
          rw [e2] at w2
          rcases hx with hx | ⟨_, v, gs', r', t', h, hd, q1, q2⟩
          · omega
          · refine ⟨v, gs', r', t', ?_, hd, q1, q2⟩
            rw [seq_ok (env1 := [some (.adr 1), some (.int (n : Nat)), some (.int x), none, none]) (s1 := mkS gs cs r t (2 :: K)) (by rw [if_ok w0]; rfl)]
            rw [seq_ok (env1 := [some (.adr 1), some (.int (n : Nat)), some (.int x), none, none]) (s1 := mkS gs cs r t (2 :: K)) (by rw [if_ok w1]; rfl)]
            rw [seq_ok (env1 := [some (.adr 1), some (.int (n : Nat)), some (.int x), none, none]) (s1 := mkS gs cs r t (2 :: K)) (by rw [if_ok w2]; rfl)]
            exact seq_rt (ret_ok h)
  intro n
  induction n with
  | zero =>
    intro gs r t K ht0 ht1
    have ht1 : t + 2 + 1 < 1000000000 := ht1
    obtain ⟨x, gs1, r1, t1, h, x0, x1, q1, q2⟩ := draw (k := k + 1) (gs := gs) (cs := cs) (r := r) (n := 3) (K := 2 :: K) ht0 (by omega) (by decide) (by decide)
    obtain ⟨v, gs2, r2, t2, h2, hd, p1, p2⟩ := part k 0 x gs1 r1 t1 K 1 (by omega) (by decide) (by omega) x0 (.inl x1)
    refine ⟨v, gs2, r2, t2, ?_, hd, by omega, by show t2 ≤ t + 2; omega⟩
    rw [call_fn e17 rfl]
    show leave true (mkS gs cs r t K) (b17 (ctAt pg (k + 3)) [some (.adr 1), some (.int (0 : Nat)), none, none, none] (mkS gs cs r t (2 :: K))) = _
    have c1 : sSet (dIf (tE (d2 opGt (dV 1) (dC (.int 0)))) (dCall 10 [.inl 0, .inl 1] (daCons (dV 0) (daCons (dC (.int 6)) daNil))) (dCall 10 [.inl 0, .inl 1] (daCons (dV 0) (daCons (dC (.int 3)) daNil)))) (dgName 2) (ctAt pg (k + 3)) [some (.adr 1), some (.int (0 : Nat)), none, none, none] (mkS gs cs r t (2 :: K)) = .ok (.nx [some (.adr 1), some (.int (0 : Nat)), some (.int x), none, none]) (mkS gs1 cs r1 t1 (2 :: K)) := by
      refine set_ok (w := .int x) ?_
      rw [dIf_ok (k := false) (s1 := mkS gs cs r t (2 :: K)) rfl]
      exact call2_ok (x := .adr 1) (y := .int 3) (s1 := mkS gs cs r t (2 :: K)) (s2 := mkS gs cs r t (2 :: K)) rfl rfl h
    unfold b17
    rw [seq_ok c1, h2]
    exact leave_mk (clean_D hd.cl) fun m => clean_free m _ hd.cl
  | succ n ih =>
    intro gs r t K ht0 ht1
    have ec : Cn (n + 1) = 2 + 3 * Cn n := rfl
    have cp := Cn_pos n
    rw [ec] at ht1
    obtain ⟨x, gs1, r1, t1, h, x0, x1, q1, q2⟩ := draw (k := k + n + 2) (gs := gs) (cs := cs) (r := r) (n := 6) (K := 2 :: K) ht0 (by omega) (by decide) (by decide)
    have kids : ∃ v gs' r' t', d1 bTuple (dLc [3, 4] (diRange (dCall 10 [.inl 0, .inl 1] (daCons (dV 0) (daCons (dC (.int 4)) daNil)))) (dgName 4) Vi.tYes (dCall 17 [.inl 0, .inl 1] (daCons (dV 0) (daCons (d2 opSub (dV 1) (dC (.int 1))) daNil)))) (ctAt pg (k + n + 1 + 3)) [some (.adr 1), some (.int ((n + 1 : Nat))), some (.int x), none, none] (mkS gs1 cs r1 t1 (2 :: K)) = .ok v (mkS gs' cs r' t' (2 :: K)) ∧ Drawn (n + 1) v ∧ t1 ≤ t' ∧ t' ≤ t1 + (1 + 3 * Cn n : Nat) := by
      obtain ⟨m, gs2, r2, t2, hm, m0, m1, a1, a2⟩ := draw (k := k + n + 2) (gs := gs1) (cs := cs) (r := r1) (t := t1) (n := 4) (K := 2 :: K) (by omega) (by omega) (by decide) (by decide)
      have ul : (upto m.toNat).length = m.toNat := by
        unfold upto
        rw [List.length_map, List.length_range]
      obtain ⟨vs, gs3, r3, t3, hv, hP, vl, b1, b2⟩ := draw_loop (e := dCall 17 [.inl 0, .inl 1] (daCons (dV 0) (daCons (d2 opSub (dV 1) (dC (.int 1))) daNil))) (c := ctAt pg (k + n + 1 + 3)) (env := [some (.adr 1), some (.int ((n + 1 : Nat))), some (.int x), none, none]) (C := (Cn n : Nat)) (cs := cs) (K := 2 :: K) (P := Drawn n) (by omega) (fun v hv => clean_D hv.cl) (fun y gs r t h0 h1 => by
        obtain ⟨v, g', r', t', c1, c2, c3, c4⟩ := ih gs r t (2 :: K) h0 h1
        refine ⟨v, g', r', t', ?_, c2, c3, c4⟩
        have es : d2 opSub (dV 1) (dC (.int 1)) (ctAt pg (k + n + 1 + 3)) ([some (.adr 1), some (.int ((n + 1 : Nat))), some (.int x), none, none].set 4 (some y)) (mkS gs cs r t (2 :: K)) = .ok (.int (n : Nat)) (mkS gs cs r t (2 :: K)) := by
          refine d2_ok (dV_ok (w := .int ((n + 1 : Nat))) rfl) (s2 := mkS gs cs r t (2 :: K)) (y := .int 1) rfl ?_
          show some (W.int (((n + 1 : Nat) : Int) - 1)) = _
          have : (((n + 1 : Nat) : Int) - 1) = (n : Nat) := by omega
          rw [this]
        exact call2_ok (x := .adr 1) (s1 := mkS gs cs r t (2 :: K)) rfl es c1) (upto m.toNat) gs2 r2 t2 (by omega) (by
          rw [ul]
          have : (m.toNat : Int) * (Cn n : Nat) ≤ 3 * (Cn n : Nat) := Int.mul_le_mul_of_nonneg_right (by omega) (by omega)
          omega)
      rw [ul] at vl b2
      have bm : (m.toNat : Int) * (Cn n : Nat) ≤ 3 * (Cn n : Nat) := Int.mul_le_mul_of_nonneg_right (by omega) (by omega)
      refine ⟨.tup vs, gs3, r3, t3, ?_, tup_drawn hP (by omega), by omega, by push_cast; omega⟩
      refine d1_ok (x := .lst vs) ?_ rfl
      have di : diRange (dCall 10 [.inl 0, .inl 1] (daCons (dV 0) (daCons (dC (.int 4)) daNil))) (ctAt pg (k + n + 1 + 3)) [some (.adr 1), some (.int ((n + 1 : Nat))), some (.int x), none, none] (mkS gs1 cs r1 t1 (2 :: K)) = .ok (.inl (upto m.toNat)) (mkS gs2 cs r2 t2 (2 :: K)) := by
        unfold diRange
        rw [call2_ok (x := .adr 1) (y := .int 4) (s1 := mkS gs1 cs r1 t1 (2 :: K)) (s2 := mkS gs1 cs r1 t1 (2 :: K)) rfl rfl hm]
        show (if decide (-4611686018427387904 ≤ m) && decide (m ≤ (sizeMax : Nat)) then Res.ok (Sum.inl (upto m.toNat)) (mkS gs2 cs r2 t2 (2 :: K)) else .bad) = _
        rw [decide_eq_true (show -4611686018427387904 ≤ m by omega), decide_eq_true (show m ≤ ((sizeMax : Nat) : Int) by have e : sizeMax = 16777216 := rfl; rw [e]; omega)]
        rfl
      unfold dLc lcAll
      rw [di]
      show (Res.bind (match lcLoop (dgName 4) Vi.tYes (dCall 17 [.inl 0, .inl 1] (daCons (dV 0) (daCons (d2 opSub (dV 1) (dC (.int 1))) daNil))) (ctAt pg (k + n + 1 + 3)) [some (.adr 1), some (.int ((n + 1 : Nat))), some (.int x), none, none] (upto m.toNat) (mkS gs2 cs r2 t2 (2 :: K)) with
        | .ok ys s => if decide (ys.length ≤ sizeMax) then Res.ok ys s else .bad
        | _ => .bad) fun ys s => Res.ok (W.lst ys) s) = _
      rw [hv]
      show (Res.bind (if decide (vs.length ≤ sizeMax) = true then Res.ok vs _ else .bad) fun ys s => Res.ok (W.lst ys) s) = _
      rw [if_pos (decide_eq_true (show vs.length ≤ sizeMax by have e : sizeMax = 16777216 := rfl; rw [e]; omega))]
      rfl
    obtain ⟨v, gs2, r2, t2, h2, hd, p1, p2⟩ := part (k + n + 1) (n + 1) x gs1 r1 t1 K ((1 + 3 * Cn n : Nat)) (by omega) (by omega) (by push_cast; omega) x0 (.inr ⟨x1, kids⟩)
    refine ⟨v, gs2, r2, t2, ?_, hd, by omega, by rw [ec]; push_cast at p2 ⊢; omega⟩
    rw [show k + (n + 1) + 4 = (k + n + 1 + 3) + 1 by omega, call_fn e17 rfl]
    show leave true (mkS gs cs r t K) (b17 (ctAt pg (k + n + 1 + 3)) [some (.adr 1), some (.int ((n + 1 : Nat))), none, none, none] (mkS gs cs r t (2 :: K))) = _
    have c1 : sSet (dIf (tE (d2 opGt (dV 1) (dC (.int 0)))) (dCall 10 [.inl 0, .inl 1] (daCons (dV 0) (daCons (dC (.int 6)) daNil))) (dCall 10 [.inl 0, .inl 1] (daCons (dV 0) (daCons (dC (.int 3)) daNil)))) (dgName 2) (ctAt pg (k + n + 1 + 3)) [some (.adr 1), some (.int ((n + 1 : Nat))), none, none, none] (mkS gs cs r t (2 :: K)) = .ok (.nx [some (.adr 1), some (.int ((n + 1 : Nat))), some (.int x), none, none]) (mkS gs1 cs r1 t1 (2 :: K)) := by
      refine set_ok (w := .int x) ?_
      have tt : tE (d2 opGt (dV 1) (dC (.int 0))) (ctAt pg (k + n + 1 + 3)) [some (.adr 1), some (.int ((n + 1 : Nat))), none, none, none] (mkS gs cs r t (2 :: K)) = .ok true (mkS gs cs r t (2 :: K)) := by
        show Res.ok (decide ((0 : Int) < ((n + 1 : Nat) : Int))) _ = _
        rw [decide_eq_true (by omega)]
      rw [dIf_ok tt]
      exact call2_ok (x := .adr 1) (y := .int 6) (s1 := mkS gs cs r t (2 :: K)) (s2 := mkS gs cs r t (2 :: K)) rfl rfl h
    unfold b17
    rw [seq_ok c1, h2]
    exact leave_mk (clean_D hd.cl) fun m => clean_free m _ hd.cl
end K88
set_option Elab.async false
set_option linter.all false
set_option maxRecDepth 100000
set_option maxHeartbeats 4000000
/-! K88x: reading gives back what was written. -/
namespace K88
open PySem Vi

theorem leaf_nobr {w : W} (h : leafOk w = true) : ∃ c r, leafL w = c :: r ∧ isBr c = false ∧ ∀ d ∈ r, isBr d = false := by
  have dg : ∀ c, c = 45 ∨ (48 ≤ c ∧ c ≤ 57) → isBr c = false := fun c hc => by
    unfold isBr
    rw [beq_eq_false_iff_ne.mpr (by omega : c ≠ 40), beq_eq_false_iff_ne.mpr (by omega : c ≠ 41), beq_eq_false_iff_ne.mpr (by omega : c ≠ 32)]
    rfl
  rcases leaf_kinds h with rfl | ⟨i, rfl, hi⟩ | ⟨x, rfl, hx⟩
  · exact ⟨45, [], rfl, rfl, fun d hd => by cases hd⟩
  · have ne : intL i ≠ [] := by
      rcases int_cases i with ⟨n, rfl⟩ | ⟨m, rfl⟩
      · rw [intL_nat]
        exact TL.numL_ne n
      · rw [intL_neg]
        exact List.cons_ne_nil _ _
    have hc := fun c (hc : c ∈ intL i) => dg c (intL_code hc)
    show ∃ c r, intL i = c :: r ∧ _
    cases e : intL i with
    | nil => exact absurd e ne
    | cons c r =>
      rw [e] at hc
      exact ⟨c, r, rfl, hc c List.mem_cons_self, fun d hd => hc d (List.mem_cons_of_mem _ hd)⟩
  · have sm : ∀ c, smallL c = true → isBr c = false := fun c hc => by
      unfold smallL at hc
      rw [Bool.and_eq_true, decide_eq_true_eq, decide_eq_true_eq] at hc
      unfold isBr
      rw [beq_eq_false_iff_ne.mpr (by omega : c ≠ 40), beq_eq_false_iff_ne.mpr (by omega : c ≠ 41), beq_eq_false_iff_ne.mpr (by omega : c ≠ 32)]
      rfl
    show ∃ c r, x.cps.toList = c :: r ∧ _
    unfold isWordL at hx
    rw [Bool.and_eq_true] at hx
    cases e : x.cps.toList with
    | nil =>
      rw [e] at hx
      exact absurd hx.1 (by decide)
    | cons c r =>
      rw [e] at hx
      have ha := List.all_eq_true.mp hx.2
      exact ⟨c, r, rfl, sm c (ha c List.mem_cons_self), fun d hd => sm d (ha d (List.mem_cons_of_mem _ hd))⟩
/-- what may follow a value -/
def brk (rest : List Nat) : Prop := rest = [] ∨ ∃ c r, rest = c :: r ∧ isBr c = true
theorem run_to : ∀ {q rest : List Nat}, (∀ d ∈ q, isBr d = false) → brk rest → (q ++ rest).takeWhile nb = q ∧ (q ++ rest).dropWhile nb = rest
  | [], rest, _, h => by
    rcases h with rfl | ⟨c, r, rfl, hc⟩
    · exact ⟨rfl, rfl⟩
    · show (c :: r).takeWhile nb = [] ∧ (c :: r).dropWhile nb = c :: r
      rw [List.takeWhile_cons, List.dropWhile_cons]
      have : nb c = false := by
        show (!isBr c) = false
        rw [hc]; rfl
      rw [this]
      exact ⟨rfl, rfl⟩
  | d :: q, rest, hq, h => by
    obtain ⟨a, b⟩ := run_to (q := q) (fun e he => hq e (List.mem_cons_of_mem _ he)) h
    have hd : nb d = true := by
      show (!isBr d) = true
      rw [hq d List.mem_cons_self]; rfl
    rw [List.cons_append, List.takeWhile_cons, List.dropWhile_cons, hd, if_pos rfl, if_pos rfl, a, b]
    exact ⟨rfl, rfl⟩
theorem pcs_piece {w : W} {rest : List Nat} (h : leafOk w = true) (hr : brk rest) : pcsOf (prL w ++ rest) = pcs w ++ pcsOf rest := by
  obtain ⟨c, r, e, hc, hd⟩ := leaf_nobr h
  obtain ⟨a, b⟩ := run_to hd hr
  rw [prL_leaf h, pcs_leaf h, e, List.cons_append, pcsOf_run hc, a, b]
  rfl
mutual
theorem pcsOf_pcs : ∀ (w : W), okW w = true → ∀ rest, brk rest → pcsOf (prL w ++ rest) = pcs w ++ pcsOf rest
  | .tup l, o, rest, hr => by
    have ih := pcsOf_pcsI l o (41 :: rest) (.inr ⟨41, rest, rfl, rfl⟩)
    show pcsOf (([40] :: (pcsI l ++ [[41]])).flatten ++ rest) = [40] :: (pcsI l ++ [[41]]) ++ pcsOf rest
    have e : ([40] :: (pcsI l ++ [[41]])).flatten ++ rest = 40 :: ((pcsI l).flatten ++ 41 :: rest) := by
      rw [List.flatten_cons, List.flatten_append]
      simp
    rw [e, pcsOf_br rfl, ih, pcsOf_br rfl]
    simp
  | .non, o, rest, hr => pcs_piece o hr
  | .int i, o, rest, hr => pcs_piece o hr
  | .str x, o, rest, hr => pcs_piece o hr
  | .bl _, o, _, _ => by cases o
  | .lst _, o, _, _ => by cases o
  | .dct _, o, _, _ => by cases o
  | .rc _ _, o, _, _ => by cases o
  | .adr _, o, _, _ => by cases o
  | .fn _, o, _, _ => by cases o
  | .clo _ _, o, _, _ => by cases o
  | .exc _ _, o, _, _ => by cases o
theorem pcsOf_pcsI : ∀ (l : List W), okWs l = true → ∀ rest, brk rest → pcsOf ((pcsI l).flatten ++ rest) = pcsI l ++ pcsOf rest
  | [], _, rest, _ => rfl
  | [x], o, rest, hr => by
    have o : (okW x && true) = true := o
    rw [Bool.and_true] at o
    have ih := pcsOf_pcs x o rest hr
    show pcsOf ((pcs x ++ []).flatten ++ rest) = pcs x ++ [] ++ pcsOf rest
    rw [List.append_nil]
    exact ih
  | x :: y :: ys, o, rest, hr => by
    have o : (okW x && okWs (y :: ys)) = true := o
    rw [Bool.and_eq_true] at o
    have i2 := pcsOf_pcsI (y :: ys) o.2 rest hr
    have i1 := pcsOf_pcs x o.1 (32 :: ((pcsI (y :: ys)).flatten ++ rest)) (.inr ⟨32, _, rfl, rfl⟩)
    show pcsOf ((pcs x ++ [32] :: pcsI (y :: ys)).flatten ++ rest) = pcs x ++ [32] :: pcsI (y :: ys) ++ pcsOf rest
    have e : (pcs x ++ [32] :: pcsI (y :: ys)).flatten ++ rest = prL x ++ (32 :: ((pcsI (y :: ys)).flatten ++ rest)) := by
      unfold prL
      rw [List.flatten_append, List.flatten_cons]
      simp
    rw [e, i1, pcsOf_br rfl, i2]
    simp
end
theorem digs_all {n : Nat} : (TL.numL n).all digL = true := List.all_eq_true.mpr fun c hc => by
  have := numL_code hc
  unfold digL
  rw [decide_eq_true this.1, decide_eq_true this.2]
  rfl
theorem num_not_word {n : Nat} : isWordL (TL.numL n) = false := by
  cases e : TL.numL n with
  | nil => rfl
  | cons c r =>
    have hc := numL_code (n := n) (c := c) (by rw [e]; exact List.mem_cons_self)
    show (true && (smallL c && _)) = false
    unfold smallL
    rw [decide_eq_false (by omega : ¬ 97 ≤ c)]
    rfl
theorem plainOf_leaf {w : W} (c : clean w = true) (h : leafOk w = true) : plainOf (leafL w) = some w := by
  rcases leaf_kinds h with rfl | ⟨i, rfl, hi⟩ | ⟨x, rfl, hx⟩
  · rfl
  · show plainOf (intL i) = some (.int i)
    have b := fig_bound hi
    rcases int_cases i with ⟨n, rfl⟩ | ⟨m, rfl⟩
    · rw [intL_nat]
      have hl := TL.numL_len (n := n) (k := 12) (by decide) (by simpa using b)
      have ne := TL.numL_ne n
      have hp : ∀ c ∈ TL.numL n, c ≠ 45 := fun c hc => by
        have := numL_code hc
        omega
      have n45 : (TL.numL n == [45]) = false := beq_eq_false_iff_ne.mpr fun e => hp 45 (by rw [e]; exact List.mem_cons_self) rfl
      have bare : bareOf (TL.numL n) = TL.numL n := by
        unfold bareOf
        rw [if_neg]
        intro e
        have e : (TL.numL n).take 1 = [45] := by simpa using e
        exact hp 45 (List.mem_of_mem_take (i := 1) (by rw [e]; exact List.mem_cons_self)) rfl
      have h1 : 1 ≤ (TL.numL n).length := by
        cases e : TL.numL n with
        | nil => exact absurd e ne
        | cons c r => simp
      have it : intText? (Tx (TL.numL n)) = some ((NumText.digitsVal (TL.numL n) : Nat) : Int) := intText_digits (x := Tx (TL.numL n)) (digits_of digs_all) ne (by rw [SX.S_len]; omega)
      rw [TL.numL_val] at it
      unfold plainOf
      rw [n45, num_not_word, bare, decide_eq_true h1, decide_eq_true hl, digs_all, it]
      show (if intL (n : Int) == TL.numL n then some (W.int n) else none) = _
      rw [intL_nat, beq_self_eq_true, if_pos rfl]
    · rw [intL_neg]
      have hl := TL.numL_len (n := m + 1) (k := 12) (by decide) (by simpa using b)
      have ne := TL.numL_ne (m + 1)
      have n45 : ((45 :: TL.numL (m + 1)) == [45]) = false := beq_eq_false_iff_ne.mpr fun e => ne (List.cons.inj e).2
      have bare : bareOf (45 :: TL.numL (m + 1)) = TL.numL (m + 1) := rfl
      have h1 : 1 ≤ (TL.numL (m + 1)).length := by
        cases e : TL.numL (m + 1) with
        | nil => exact absurd e ne
        | cons c r => simp
      have nw : isWordL (45 :: TL.numL (m + 1)) = false := rfl
      have it : intText? (Tx (45 :: TL.numL (m + 1))) = some (-((NumText.digitsVal (TL.numL (m + 1)) : Nat) : Int)) := intText_neg (x := Tx (45 :: TL.numL (m + 1))) rfl (digits_of digs_all) ne (by rw [SX.S_len, List.length_cons]; omega)
      rw [TL.numL_val] at it
      have e3 : (-((m + 1 : Nat) : Int)) = Int.negSucc m := rfl
      rw [e3] at it
      unfold plainOf
      rw [n45, nw, bare, decide_eq_true h1, decide_eq_true hl, digs_all, it]
      show (if intL (Int.negSucc m) == 45 :: TL.numL (m + 1) then some (W.int (Int.negSucc m)) else none) = _
      rw [intL_neg, beq_self_eq_true, if_pos rfl]
  · show plainOf x.cps.toList = some (.str x)
    have n45 : (x.cps.toList == [45]) = false := beq_eq_false_iff_ne.mpr fun e => by
      rw [e] at hx
      exact absurd hx (by decide)
    unfold plainOf
    rw [n45, hx]
    show some (W.str (Tx x.cps.toList)) = _
    rw [← (txt_of c).1]
theorem step_leaf {w : W} {st : PSt} (c : clean w = true) (h : leafOk w = true) : stepP st (leafL w) = place st w := by
  have po := plainOf_leaf c h
  obtain ⟨d, r, e, hd, _⟩ := leaf_nobr h
  have ne : ∀ b, isBr b = true → (leafL w == [b]) = false := fun b hb => beq_eq_false_iff_ne.mpr fun z => by
    rw [e] at z
    have := (List.cons.inj z).1
    rw [this, hb] at hd
    cases hd
  unfold stepP
  rw [ne 40 rfl, ne 32 rfl, ne 41 rfl, po]
  rfl
theorem runP_cons (p : List Nat) (ps : List (List Nat)) (st : PSt) : runP (p :: ps) st = match stepP st p with
    | none => none
    | some st => runP ps st := rfl
theorem run_piece {w : W} (c : clean w = true) (h : leafOk w = true) (st : PSt) (rest : List (List Nat)) : runP (pcs w ++ rest) st = match place st w with
    | none => none
    | some st => runP rest st := by
  rw [pcs_leaf h]
  show runP (leafL w :: rest) st = _
  rw [runP_cons, step_leaf c h]
mutual
theorem run_pcs : ∀ (w : W), clean w = true → okW w = true → ∀ st rest, runP (pcs w ++ rest) st = match place st w with
    | none => none
    | some st => runP rest st
  | .tup l, c, o, st, rest => by
    have ih := run_pcsI l c o [] st.op st.dn ([41] :: rest)
    have e : pcs (.tup l) ++ rest = [40] :: (pcsI l ++ [41] :: rest) := by
      show [40] :: (pcsI l ++ [[41]]) ++ rest = _
      simp
    rw [e, runP_cons]
    show runP (pcsI l ++ [41] :: rest) ⟨[] :: st.op, st.dn⟩ = _
    rw [ih, runP_cons, List.nil_append]
    rfl
  | .non, c, o, st, rest => run_piece c o st rest
  | .int i, c, o, st, rest => run_piece c o st rest
  | .str x, c, o, st, rest => run_piece c o st rest
  | .bl _, _, o, _, _ => by cases o
  | .lst _, _, o, _, _ => by cases o
  | .dct _, _, o, _, _ => by cases o
  | .rc _ _, _, o, _, _ => by cases o
  | .adr _, _, o, _, _ => by cases o
  | .fn _, _, o, _, _ => by cases o
  | .clo _ _, _, o, _, _ => by cases o
  | .exc _ _, _, o, _, _ => by cases o
theorem run_pcsI : ∀ (l : List W), cleans l = true → okWs l = true → ∀ (t : List W) (r : List (List W)) (dn : Option W) rest, runP (pcsI l ++ rest) ⟨t :: r, dn⟩ = runP rest ⟨(t ++ l) :: r, dn⟩
  | [], _, _, t, r, dn, rest => by
    rw [List.append_nil]
    rfl
  | [x], c, o, t, r, dn, rest => by
    have c : (clean x && true) = true := c
    have o : (okW x && true) = true := o
    rw [Bool.and_true] at c o
    show runP (pcs x ++ [] ++ rest) _ = _
    rw [List.append_nil]
    exact run_pcs x c o ⟨t :: r, dn⟩ rest
  | x :: y :: ys, c, o, t, r, dn, rest => by
    have c : (clean x && cleans (y :: ys)) = true := c
    have o : (okW x && okWs (y :: ys)) = true := o
    rw [Bool.and_eq_true] at c o
    have i1 := run_pcs x c.1 o.1 ⟨t :: r, dn⟩ ([32] :: (pcsI (y :: ys) ++ rest))
    have i2 := run_pcsI (y :: ys) c.2 o.2 (t ++ [x]) r dn rest
    show runP (pcs x ++ [32] :: pcsI (y :: ys) ++ rest) _ = _
    rw [List.append_assoc, List.cons_append, i1]
    show runP (pcsI (y :: ys) ++ rest) ⟨(t ++ [x]) :: r, dn⟩ = _
    rw [i2, List.append_assoc]
    rfl
end
theorem parse_pcs {v : W} (h : val v = true) : parse (pcsOf (prL v)) = some v := by
  unfold val at h
  rw [Bool.and_eq_true] at h
  have e := pcsOf_pcs v h.2 [] (.inl rfl)
  rw [List.append_nil] at e
  have r := run_pcs v h.1 h.2 ⟨[], none⟩ []
  rw [e]
  unfold parse
  show (match runP (pcs v ++ []) ⟨[], none⟩ with
    | some st => if st.op.isEmpty then st.dn else none
    | none => none) = _
  rw [r]
  rfl
theorem read_back {v : W} (h : val v = true) (hv : isVal 60 [v] = true) : readV (prL v) = some v := by
  unfold readV
  rw [parse_pcs h]
  show (if (isVal 60 [v] && prL v == prL v) = true then some v else none) = _
  rw [hv, beq_self_eq_true]
  rfl
theorem prL_inj {a b : W} (ha : val a = true) (hb : val b = true) (h : prL a = prL b) : a = b := by
  have x := parse_pcs ha
  rw [h, parse_pcs hb] at x
  exact (Option.some.inj x).symm
mutual
theorem eqW_pcs : ∀ (a b : W), okW a = true → okW b = true → eqW a b = true → pcs a = pcs b
  | .tup l, b, oa, ob, h => by
    cases b with
    | tup m =>
      show [40] :: (pcsI l ++ [[41]]) = [40] :: (pcsI m ++ [[41]])
      rw [eqWs_pcs l m oa ob h]
    | _ => cases h
  | .non, b, _, ob, h => by cases b <;> first | rfl | cases h
  | .int i, b, _, ob, h => by
    cases b with
    | int j =>
      have h : (i == j) = true := h
      rw [eq_of_beq h]
    | bl => cases ob
    | _ => cases h
  | .str x, b, _, ob, h => by
    cases b with
    | str y =>
      have h : (x.cps.toList == y.cps.toList) = true := h
      show [x.cps.toList] = [y.cps.toList]
      rw [eq_of_beq h]
    | _ => cases h
  | .bl _, _, o, _, _ => by cases o
  | .lst _, _, o, _, _ => by cases o
  | .dct _, _, o, _, _ => by cases o
  | .rc _ _, _, o, _, _ => by cases o
  | .adr _, _, o, _, _ => by cases o
  | .fn _, _, o, _, _ => by cases o
  | .clo _ _, _, o, _, _ => by cases o
  | .exc _ _, _, o, _, _ => by cases o
theorem eqWs_pcs : ∀ (l m : List W), okWs l = true → okWs m = true → eqWs l m = true → pcsI l = pcsI m
  | [], m, _, _, h => by cases m <;> first | rfl | cases h
  | [x], m, ol, om, h => by
    cases m with
    | nil => cases h
    | cons y ys =>
      have h : (eqW x y && eqWs [] ys) = true := h
      have ol : (okW x && true) = true := ol
      have om : (okW y && okWs ys) = true := om
      rw [Bool.and_eq_true] at h ol om
      cases ys with
      | nil =>
        show pcs x ++ [] = pcs y ++ []
        rw [eqW_pcs x y ol.1 om.1 h.1]
      | cons => cases h.2
  | x :: z :: zs, m, ol, om, h => by
    cases m with
    | nil => cases h
    | cons y ys =>
      have h : (eqW x y && eqWs (z :: zs) ys) = true := h
      have ol : (okW x && okWs (z :: zs)) = true := ol
      have om : (okW y && okWs ys) = true := om
      rw [Bool.and_eq_true] at h ol om
      have i1 := eqW_pcs x y ol.1 om.1 h.1
      have i2 := eqWs_pcs (z :: zs) ys ol.2 om.2 h.2
      cases ys with
      | nil => cases h.2
      | cons w ws =>
        show pcs x ++ [32] :: pcsI (z :: zs) = pcs y ++ [32] :: pcsI (w :: ws)
        rw [i1, i2]
end
/-- texts are alike as the values are -/
theorem alike {n : Nat} {a b : W} (hn : plainW n a = true) (ha : val a = true) (hb : val b = true) : (prL a == prL b) = eqW a b := by
  cases e : eqW a b with
  | true =>
    unfold val at ha hb
    rw [Bool.and_eq_true] at ha hb
    have z := eqW_pcs a b ha.2 hb.2 e
    unfold prL
    rw [z]
    exact beq_self_eq_true _
  | false =>
    refine beq_eq_false_iff_ne.mpr fun h => ?_
    have z := prL_inj ha hb h
    subst z
    rw [eqW_self n a hn] at e
    cases e
end K88
set_option Elab.async false
set_option linter.all false
set_option maxRecDepth 100000
set_option maxHeartbeats 4000000
/-! K88y: bounds of values. -/
namespace K88
open PySem Vi

theorem ext_leaf {t : Bool} {x : W} (nt : ∀ l, x ≠ .tup l) (lo : leafOk x = true) : ext t x = some [] := by
  have e : ext t x = if leafOk x = true then some [] else none := by
    cases x <;> first | rfl | exact absurd rfl (nt _)
  rw [e, if_pos lo]
theorem lay_leaf {t : Bool} : ∀ {items : List W}, plainWs 0 items = true → okWs items = true → lay t items = some []
  | [], _, _ => rfl
  | x :: xs, h, o => by
    have h : (plainW 0 x && plainWs 0 xs) = true := h
    have o : (okW x && okWs xs) = true := o
    rw [Bool.and_eq_true] at h o
    have ih := lay_leaf (t := t) h.2 o.2
    have nt : ∀ l, x ≠ .tup l := fun l e => by
      subst e
      cases h.1
    have lo : leafOk x = true := by
      rw [← okW_leaf nt]
      exact o.1
    have ex : ext t x = some [] := ext_leaf nt lo
    show (match ext t x, lay t xs with
      | some l, some m => some (l ++ m)
      | _, _ => none) = _
    rw [ex, ih]
    rfl
theorem plainWs_app {n : Nat} : ∀ {l m : List W}, plainWs n l = true → plainWs n m = true → plainWs n (l ++ m) = true
  | [], _, _, h => h
  | x :: xs, m, h, h2 => by
    have h : (plainW n x && plainWs n xs) = true := by cases n <;> exact h
    rw [Bool.and_eq_true] at h
    have ih := plainWs_app h.2 h2
    have : (plainW n x && plainWs n (xs ++ m)) = true := by rw [h.1, ih]; rfl
    cases n <;> exact this
theorem plainWs_cons {n : Nat} {x : W} {xs : List W} : plainWs n (x :: xs) = (plainW n x && plainWs n xs) := by
  cases n <;> rfl
theorem lay_step {n : Nat} : ∀ {items : List W}, plainWs (n + 1) items = true → okWs items = true → ∃ L, lay true items = some L ∧ plainWs n L = true ∧ okWs L = true
  | [], _, _ => ⟨[], rfl, by cases n <;> rfl, rfl⟩
  | x :: xs, h, o => by
    rw [plainWs_cons] at h
    have o : (okW x && okWs xs) = true := o
    rw [Bool.and_eq_true] at h o
    obtain ⟨L, e, p, q⟩ := lay_step h.2 o.2
    have ex : ∃ l, ext true x = some l ∧ plainWs n l = true ∧ okWs l = true := by
      by_cases nt : ∃ l, x = .tup l
      · obtain ⟨l, rfl⟩ := nt
        exact ⟨l, rfl, h.1, o.1⟩
      · have nt : ∀ l, x ≠ .tup l := fun l e => nt ⟨l, e⟩
        have lo : leafOk x = true := by
          rw [← okW_leaf nt]
          exact o.1
        exact ⟨[], ext_leaf nt lo, by cases n <;> rfl, rfl⟩
    obtain ⟨l, e1, e2, e3⟩ := ex
    refine ⟨l ++ L, ?_, plainWs_app e2 p, by rw [okWs_app, e3, q]; rfl⟩
    show (match ext true x, lay true xs with
      | some l, some m => some (l ++ m)
      | _, _ => none) = _
    rw [e1, e]
theorem plainWs_split {n : Nat} : ∀ {l m : List W}, plainWs n (l ++ m) = true → plainWs n l = true ∧ plainWs n m = true
  | [], _, h => ⟨by cases n <;> rfl, h⟩
  | x :: xs, m, h => by
    rw [List.cons_append, plainWs_cons, Bool.and_eq_true] at h
    obtain ⟨a, b⟩ := plainWs_split h.2
    exact ⟨by rw [plainWs_cons, h.1, a]; rfl, b⟩
theorem isVal_of : ∀ (n m : Nat) (items : List W), n ≤ m → plainWs n items = true → okWs items = true → isVal (m + 1) items = true
  | 0, m, items, _, h, o => by
    unfold isVal
    rw [lay_leaf h o]
  | n + 1, 0, _, h, _, _ => absurd h (by omega)
  | n + 1, m + 1, items, hm, h, o => by
    obtain ⟨L, e, p, q⟩ := lay_step h o
    unfold isVal
    rw [decide_eq_true (show 1 ≤ m + 1 by omega), e]
    cases L with
    | nil => rfl
    | cons x xs => exact isVal_of n m (x :: xs) (by omega) p q
theorem lay_back {n : Nat} {t : Bool} : ∀ {items L : List W}, lay t items = some L → cleans items = true → plainWs n L = true → plainWs (n + 1) items = true
  | [], _, _, _, _ => rfl
  | x :: xs, L, h, c, p => by
    have c : (clean x && cleans xs) = true := c
    rw [Bool.and_eq_true] at c
    have h : (match ext t x, lay t xs with
      | some l, some m => some (l ++ m)
      | _, _ => none) = some L := h
    split at h
    · rename_i l m e1 e2
      have h : l ++ m = L := Option.some.inj h
      subst h
      have sp := plainWs_split p
      have ih := lay_back e2 c.2 sp.2
      rw [plainWs_cons, ih, Bool.and_true]
      cases x with
      | tup k =>
        have e1 : (if t then some k else none) = some l := e1
        split at e1
        · cases e1
          exact sp.1
        · cases e1
      | non | bl | int => rfl
      | str y =>
        have cx : (PyData.strOk y && decide (y.length ≤ 16777216)) = true := c.1
        rw [Bool.and_eq_true] at cx
        exact cx.1
      | _ => cases e1
    · cases h
theorem lay_flat : ∀ {items L : List W}, lay false items = some L → cleans items = true → plainWs 0 items = true
  | [], _, _, _ => rfl
  | x :: xs, L, h, c => by
    have c : (clean x && cleans xs) = true := c
    rw [Bool.and_eq_true] at c
    have h : (match ext false x, lay false xs with
      | some l, some m => some (l ++ m)
      | _, _ => none) = some L := h
    split at h
    · rename_i l m e1 e2
      have ih := lay_flat e2 c.2
      rw [plainWs_cons, ih, Bool.and_true]
      cases x with
      | non | bl | int => rfl
      | str y =>
        have cx : (PyData.strOk y && decide (y.length ≤ 16777216)) = true := c.1
        rw [Bool.and_eq_true] at cx
        exact cx.1
      | _ => cases e1
    · cases h
theorem plain_of_val : ∀ (m : Nat) (items : List W), isVal (m + 1) items = true → cleans items = true → plainWs m items = true
  | 0, items, h, c => by
    unfold isVal at h
    split at h
    · cases h
    · rename_i e
      exact lay_flat e c
    · cases h
  | m + 1, items, h, c => by
    unfold isVal at h
    split at h
    · cases h
    · rename_i e
      exact lay_back e c (by cases m <;> rfl)
    · rename_i L _ e
      exact lay_back e c (plain_of_val m L h (lay_clean e c))
theorem plain59 {v : W} (h : isVal 60 [v] = true) (c : clean v = true) : plainW 59 v = true := by
  have z := plain_of_val 59 [v] h (by show (clean v && true) = true; rw [c]; rfl)
  rw [plainWs_cons, Bool.and_eq_true] at z
  exact z.1
theorem val60 {n : Nat} {v : W} (hn : n ≤ 59) (h : plainW n v = true) (o : okW v = true) : isVal 60 [v] = true := isVal_of n 59 [v] hn (by rw [plainWs_cons, h]; cases n <;> rfl) (by show (okW v && true) = true; rw [o]; rfl)
mutual
theorem plainW_up : ∀ (w : W) (n m : Nat), n ≤ m → plainW n w = true → plainW m w = true
  | .tup l, n + 1, m, hm, h => by
    obtain ⟨j, rfl⟩ : ∃ j, m = j + 1 := ⟨m - 1, by omega⟩
    exact plainWs_up l n j (by omega) h
  | .lst l, n + 1, m, hm, h => by
    obtain ⟨j, rfl⟩ : ∃ j, m = j + 1 := ⟨m - 1, by omega⟩
    exact plainWs_up l n j (by omega) h
  | .tup l, 0, _, _, h => by cases h
  | .lst l, 0, _, _, h => by cases h
  | .non, _, m, _, _ => by cases m <;> rfl
  | .bl _, _, m, _, _ => by cases m <;> rfl
  | .int _, _, m, _, _ => by cases m <;> rfl
  | .str x, n, m, _, h => by
    have h : PyData.strOk x = true := by cases n <;> exact h
    cases m <;> exact h
  | .dct _, n, _, _, h => by cases n <;> cases h
  | .rc _ _, n, _, _, h => by cases n <;> cases h
  | .adr _, n, _, _, h => by cases n <;> cases h
  | .fn _, n, _, _, h => by cases n <;> cases h
  | .clo _ _, n, _, _, h => by cases n <;> cases h
  | .exc _ _, n, _, _, h => by cases n <;> cases h
theorem plainWs_up : ∀ (l : List W) (n m : Nat), n ≤ m → plainWs n l = true → plainWs m l = true
  | [], _, m, _, _ => by cases m <;> rfl
  | x :: xs, n, m, hm, h => by
    rw [plainWs_cons, Bool.and_eq_true] at h
    rw [plainWs_cons, plainW_up x n m hm h.1, plainWs_up xs n m hm h.2]
    rfl
end
/-! ### repr's bounds -/
theorem fig_log {i : Int} (h : isFigW (.int i) = true) : i.natAbs.log2 < 40 := by
  have b := fig_bound h
  by_cases z : i.natAbs = 0
  · rw [z]
    decide
  · exact (Nat.log2_lt z (k := 40)).mpr (Nat.lt_of_lt_of_le b (by decide))
mutual
theorem bits_ok : ∀ w : W, okW w = true → bitsW 40 w = true
  | .tup l, o => bitss_ok l o
  | .non, _ => rfl
  | .int i, o => by
    have o : leafOk (.int i) = true := o
    rcases leaf_kinds o with h | ⟨j, h, hj⟩ | ⟨x, h, _⟩
    · cases h
    · cases h
      exact decide_eq_true (fig_log hj)
    · cases h
  | .str _, _ => rfl
  | .bl _, o => by cases o
  | .lst _, o => by cases o
  | .dct _, o => by cases o
  | .rc _ _, o => by cases o
  | .adr _, o => by cases o
  | .fn _, o => by cases o
  | .clo _ _, o => by cases o
  | .exc _ _, o => by cases o
theorem bitss_ok : ∀ l : List W, okWs l = true → bitsWs 40 l = true
  | [], _ => rfl
  | x :: xs, o => by
    have o : (okW x && okWs xs) = true := o
    rw [Bool.and_eq_true] at o
    show (bitsW 40 x && bitsWs 40 xs) = true
    rw [bits_ok x o.1, bitss_ok xs o.2]
    rfl
end
theorem pcsI_flat_len : ∀ l : List W, (l.map fun w => (prL w).length).sum ≤ (pcsI l).flatten.length
  | [] => Nat.le_refl _
  | [x] => by
    show (prL x).length + 0 ≤ (pcs x ++ []).flatten.length
    rw [List.append_nil]
    exact Nat.le_refl _
  | x :: y :: ys => by
    have ih := pcsI_flat_len (y :: ys)
    show (prL x).length + ((y :: ys).map fun w => (prL w).length).sum ≤ (pcs x ++ [32] :: pcsI (y :: ys)).flatten.length
    rw [List.flatten_append, List.flatten_cons, List.length_append, List.length_append]
    show (prL x).length + _ ≤ (prL x).length + (1 + _)
    omega
mutual
theorem wt_ok : ∀ w : W, okW w = true → wtW w + 1 ≤ (prL w).length + 41 * sz w
  | .tup l, o => by
    have ih := wts_ok l o
    have e := pcsI_flat_len l
    show wtWs l + 1 ≤ (([40] :: (pcsI l ++ [[41]])).flatten).length + 41 * (1 + szs l)
    rw [List.flatten_cons, List.flatten_append, List.length_append, List.length_append]
    omega
  | .non, _ => by decide
  | .int i, o => by
    have o : leafOk (.int i) = true := o
    rcases leaf_kinds o with h | ⟨j, h, hj⟩ | ⟨x, h, _⟩
    · cases h
    · cases h
      have b := fig_log hj
      show (if i == 0 then 0 else i.natAbs.log2 + 1) + 1 ≤ _ + 41 * 1
      split <;> omega
    · cases h
  | .str x, _ => by
    show x.cps.size + 1 ≤ ([x.cps.toList].flatten).length + 41 * 1
    simp
  | .bl _, o => by cases o
  | .lst _, o => by cases o
  | .dct _, o => by cases o
  | .rc _ _, o => by cases o
  | .adr _, o => by cases o
  | .fn _, o => by cases o
  | .clo _ _, o => by cases o
  | .exc _ _, o => by cases o
theorem wts_ok : ∀ l : List W, okWs l = true → wtWs l ≤ (l.map fun w => (prL w).length).sum + 41 * szs l
  | [], _ => by decide
  | x :: xs, o => by
    have o : (okW x && okWs xs) = true := o
    rw [Bool.and_eq_true] at o
    have i1 := wt_ok x o.1
    have i2 := wts_ok xs o.2
    show wtW x + 1 + wtWs xs ≤ (prL x).length + (xs.map fun w => (prL w).length).sum + 41 * (sz x + szs xs)
    omega
end
theorem rep_val {v : W} (h : plainW 64 v = true) (o : okW v = true) (hs : sz v ≤ 5000) (hl : (prL v).length ≤ 100000) : repOk v = true := by
  have w := wt_ok v o
  unfold repOk
  rw [h, bits_ok v o, decide_eq_true (show 43 * wtW v + 41 ≤ sizeMax by have e : sizeMax = 16777216 := rfl; rw [e]; omega)]
  rfl
theorem rep_txt {l : List Nat} (h : PyData.strOk (Tx l) = true) (hl : l.length ≤ 300000) : repOk (.str (Tx l)) = true := by
  unfold repOk
  have e : plainW 64 (.str (Tx l)) = true := h
  rw [e, show bitsW 40 (.str (Tx l)) = true from rfl, decide_eq_true (show 43 * wtW (.str (Tx l)) + 41 ≤ sizeMax by
    have e : sizeMax = 16777216 := rfl
    have e2 : wtW (.str (Tx l)) = l.length := by show (l.toArray).size = l.length; simp
    rw [e, e2]
    omega)]
  rfl
/-- what is read: clean, a value, and its text is the text -/
theorem read_facts {l : List Nat} {v : W} (hl : txtOk l) (hf : l.length ≤ 5000) (h : readV l = some v) : clean v = true ∧ okW v = true ∧ plainW 59 v = true ∧ sz v ≤ 5000 ∧ prL v = l := by
  have pf := pcsOf_flat l
  have pn := pcsOf_len l
  unfold readV at h
  split at h
  · cases h
  · rename_i w ep
    split at h
    · rename_i hv
      cases h
      rw [Bool.and_eq_true] at hv
      have cv := (valueof (k := 0) (ps := pcsOf l) (fun p hp => pcs_txt hl hp) (by omega) ⟨[], []⟩ (fun k hk => by cases hk)).2 v ep
      have okv : okW v = true := by
        have z := isVal_ok hv.1
        have z : (okW v && true) = true := z
        rw [Bool.and_true] at z
        exact z
      obtain ⟨z1, _⟩ := parse_size ep
      exact ⟨cv, okv, plain59 hv.1 cv, by omega, eq_of_beq hv.2⟩
    · cases h
end K88
set_option Elab.async false
set_option linter.all false
set_option maxRecDepth 100000
set_option maxHeartbeats 4000000
/-! K88ya: _law_begun, _law_nested, the loops over wrong things. -/
namespace K88
open PySem Vi

/-! ### _law_begun -/
abbrev p18 : Int := 10 ^ (18 : Int).toNat
abbrev absI (z : Int) : Int := if z < 0 then -z else z
theorem lc_take {g : DG} {t : DT} {e : DE} {c : Ct} {env env' : Vi.Env} {x y : W} {xs ys : List W} {s : Vi.S} (hg : g x env s = some env') (ht : t c env' s = .ok true s) (he : e c env' s = .ok y s) (hd : isD y = true) (hr : lcLoop g t e c env xs s = .ok ys s) : lcLoop g t e c env (x :: xs) s = .ok (y :: ys) s := by
  unfold lcLoop lcOne
  rw [hg]
  dsimp only
  rw [ht]
  dsimp only
  rw [if_pos rfl, he]
  dsimp only
  rw [if_pos hd, hr]
theorem lc_skip {g : DG} {t : DT} {e : DE} {c : Ct} {env env' : Vi.Env} {x : W} {xs ys : List W} {s : Vi.S} (hg : g x env s = some env') (ht : t c env' s = .ok false s) (hr : lcLoop g t e c env xs s = .ok ys s) : lcLoop g t e c env (x :: xs) s = .ok ys s := by
  unfold lcLoop lcOne
  rw [hg]
  dsimp only
  rw [ht]
  dsimp only
  rw [if_neg (by decide), hr]
theorem great_loop {c : Ct} {a b d : Option W} {s : Vi.S} : ∀ ns : List Int, ∃ gs : List Int, gs.length ≤ ns.length ∧ lcLoop (dgName 3) (tE (d2 opGe (d1 bAbs (dV 3)) (d2 opPow (dC (.int 10)) (dC (.int 18))))) (d2 opSub (d1 bAbs (dV 3)) (d2 opPow (dC (.int 10)) (dC (.int 18)))) c [a, b, d, none] (nums ns) s = .ok (nums gs) s
  | [] => ⟨[], Nat.le_refl _, rfl⟩
  | z :: ns => by
    obtain ⟨gs, hl, h⟩ := great_loop (c := c) (a := a) (b := b) (d := d) (s := s) ns
    have t : tE (d2 opGe (d1 bAbs (dV 3)) (d2 opPow (dC (.int 10)) (dC (.int 18)))) c [a, b, d, some (.int z)] s = .ok (decide (p18 ≤ absI z)) s := rfl
    have e : d2 opSub (d1 bAbs (dV 3)) (d2 opPow (dC (.int 10)) (dC (.int 18))) c [a, b, d, some (.int z)] s = .ok (.int (absI z - p18)) s := rfl
    by_cases q : p18 ≤ absI z
    · exact ⟨(absI z - p18) :: gs, by simp; omega, lc_take (env' := [a, b, d, some (.int z)]) rfl (by rw [t, decide_eq_true q]) e rfl h⟩
    · exact ⟨gs, by simp; omega, lc_skip (env' := [a, b, d, some (.int z)]) rfl (by rw [t, decide_eq_false q]) h⟩
theorem disp_fold {cs : List Int} : ([(tx "great", W.adr 0), (tx "cells", .lst (nums cs)), (tx "rest", .int 0), (tx "turn", .int 0)] : List (W × W)).foldl (fun m p => putK p.1 p.2 m) [] = dctOf cs 0 0 := by
  simp only [List.foldl_cons, List.foldl_nil, putK, dctOf, List.any_cons, List.any_nil, List.map_cons, List.map_nil, List.nil_append, List.cons_append, key_gc, key_gr, key_gt, key_cr, key_ct, key_rt, Bool.or_true, Bool.or_false, Bool.false_or, Bool.true_or, if_true, if_false, Bool.false_eq_true]
theorem begun {k : Nat} {ns : List Int} (hl : ns.length ≤ 63) : ∃ gs cs, callAt pg (k + 1) (.fn 8) [.lst (nums ns)] ⟨[], [0]⟩ = .ok (.adr 1) (mkS gs cs 0 0 [0]) := by
  rw [call_fn e8 rfl]
  obtain ⟨gs, gl, g⟩ := great_loop (c := ctAt pg k) (a := some (.lst (nums ns))) (b := none) (d := none) (s := ⟨[], [0, 0]⟩) ns
  refine ⟨gs, ns.map absI, ?_⟩
  show leave false ⟨[], [0]⟩ (b8 (ctAt pg k) [some (.lst (nums ns)), none, none, none] ⟨[], [0, 0]⟩) = _
  have sm : sizeMax = 16777216 := rfl
  have c1 : sSet (dLcN [2, 3] (diE (dV 0)) (dgName 3) (tE (d2 opGe (d1 bAbs (dV 3)) (d2 opPow (dC (.int 10)) (dC (.int 18))))) (d2 opSub (d1 bAbs (dV 3)) (d2 opPow (dC (.int 10)) (dC (.int 18))))) (dgName 1) (ctAt pg k) [some (.lst (nums ns)), none, none, none] ⟨[], [0, 0]⟩ = .ok (.nx [some (.lst (nums ns)), some (.adr 0), none, none]) ⟨[.lst (nums gs)], [0, 0]⟩ := by
    refine set_ok (w := .adr 0) ?_
    unfold dLcN lcAll
    show (Res.bind (match lcLoop (dgName 3) (tE (d2 opGe (d1 bAbs (dV 3)) (d2 opPow (dC (.int 10)) (dC (.int 18))))) (d2 opSub (d1 bAbs (dV 3)) (d2 opPow (dC (.int 10)) (dC (.int 18)))) (ctAt pg k) [some (.lst (nums ns)), none, none, none] (nums ns) ⟨[], [0, 0]⟩ with
      | .ok ys s => if decide (ys.length ≤ sizeMax) then Res.ok ys s else .bad
      | _ => .bad) fun ys s => newL ys s) = _
    rw [g]
    show (Res.bind (if decide ((nums gs).length ≤ sizeMax) = true then Res.ok (nums gs) _ else .bad) fun ys s => newL ys s) = _
    rw [if_pos (decide_eq_true (by rw [List.length_map, sm]; omega))]
    rfl
  have cl : dLc [2, 3] (diE (dV 0)) (dgName 3) Vi.tYes (d1 bAbs (dV 3)) (ctAt pg k) [some (.lst (nums ns)), some (.adr 0), none, none] ⟨[.lst (nums gs), .dct []], [0, 0]⟩ = .ok (.lst (nums (ns.map absI))) ⟨[.lst (nums gs), .dct []], [0, 0]⟩ := by
    refine (dLc_map (l := nums ns) (f := fun w => match w with
      | .int i => .int (absI i)
      | _ => .non) (s1 := ⟨[.lst (nums gs), .dct []], [0, 0]⟩) rfl (fun x hx => ?_) (by rw [List.length_map, sm]; omega)).trans ?_
    · obtain ⟨i, _, rfl⟩ := List.mem_map.mp hx
      exact ⟨rfl, rfl⟩
    · show Res.ok (W.lst _) _ = Res.ok (W.lst ((ns.map absI).map W.int)) _
      rw [List.map_map, List.map_map]
      rfl
  have ds : dDisp [((dC (tx "great")), (dV 1)), ((dC (tx "cells")), (dLc [2, 3] (diE (dV 0)) (dgName 3) Vi.tYes (d1 bAbs (dV 3)))), ((dC (tx "rest")), (dC (.int 0))), ((dC (tx "turn")), (dC (.int 0)))] (ctAt pg k) [some (.lst (nums ns)), some (.adr 0), none, none] ⟨[.lst (nums gs)], [0, 0]⟩ = .ok (.adr 1) (mkS gs (ns.map absI) 0 0 [0, 0]) := by
    have dp : dpAll [((dC (tx "great")), (dV 1)), ((dC (tx "cells")), (dLc [2, 3] (diE (dV 0)) (dgName 3) Vi.tYes (d1 bAbs (dV 3)))), ((dC (tx "rest")), (dC (.int 0))), ((dC (tx "turn")), (dC (.int 0)))] (ctAt pg k) [some (.lst (nums ns)), some (.adr 0), none, none] ⟨[.lst (nums gs), .dct []], [0, 0]⟩ = .ok [(tx "great", W.adr 0), (tx "cells", .lst (nums (ns.map absI))), (tx "rest", .int 0), (tx "turn", .int 0)] ⟨[.lst (nums gs), .dct []], [0, 0]⟩ := by
      show Res.bind (Res.bind (dLc [2, 3] (diE (dV 0)) (dgName 3) Vi.tYes (d1 bAbs (dV 3)) (ctAt pg k) [some (.lst (nums ns)), some (.adr 0), none, none] ⟨[.lst (nums gs), .dct []], [0, 0]⟩) _) _ = _
      rw [cl]
      rfl
    unfold dDisp
    show Res.bind (dpAll _ (ctAt pg k) [some (.lst (nums ns)), some (.adr 0), none, none] ⟨[.lst (nums gs), .dct []], [0, 0]⟩) _ = _
    rw [dp]
    show (if (([(tx "great", W.adr 0), (tx "cells", .lst (nums (ns.map absI))), (tx "rest", .int 0), (tx "turn", .int 0)] : List (W × W)).all (fun p => keyOk p.1 && isD p.2) && decide (4 ≤ 15)) = true then Res.ok (W.adr 1) ((Vi.S.held ⟨[.lst (nums gs), .dct []], [0, 0]⟩ 1 (W.lst [W.adr 0, W.lst (nums (ns.map absI)), W.int 0, W.int 0])).put 1 (.dct (([(tx "great", W.adr 0), (tx "cells", .lst (nums (ns.map absI))), (tx "rest", .int 0), (tx "turn", .int 0)] : List (W × W)).foldl (fun m p => putK p.1 p.2 m) []))) else .bad) = _
    rw [disp_fold]
    rfl
  have bd : b8 (ctAt pg k) [some (.lst (nums ns)), none, none, none] ⟨[], [0, 0]⟩ = .ok (.rt (.adr 1)) (mkS gs (ns.map absI) 0 0 [0, 0]) := by
    unfold b8
    rw [seq_ok c1]
    exact seq_rt (ret_ok ds)
  rw [bd]
  rfl
/-! ### _law_nested -/
def nest : Nat → W → W
  | 0, w => w
  | n + 1, w => nest n (.tup [w])
abbrev nestB : DS := (sSeq (sSet (dTup (daCons (dV 1) daNil)) (dgName 1))
 sPass)
theorem nest_loop {c : Ct} {a : Option W} {s : Vi.S} : ∀ (l : List W) (w : W) (o : Option W), isD w = true → ∃ o', forLoop (dgName 2) nestB c l [a, some w, o] s = .ok (.nx [a, some (nest l.length w), o']) s
  | [], w, o, _ => ⟨o, rfl⟩
  | x :: xs, w, o, hw => by
    obtain ⟨o', ih⟩ := nest_loop (c := c) (a := a) (s := s) xs (.tup [w]) (some x) rfl
    refine ⟨o', ?_⟩
    have t : dTup (daCons (dV 1) daNil) c [a, some w, some x] s = .ok (.tup [w]) s := by
      show (if (allD [w] && decide (1 ≤ sizeMax)) = true then Res.ok (W.tup [w]) s else .bad) = _
      rw [show allD [w] = true by show (isD w && true) = true; rw [hw]; rfl]
      rfl
    have e : nestB c [a, some w, some x] s = .ok (.nx [a, some (.tup [w]), some x]) s := (seq_ok (set_ok t)).trans rfl
    exact (for_cons e).trans ih
theorem nest_clean : ∀ (n : Nat) (w : W), clean w = true → clean (nest n w) = true
  | 0, _, h => h
  | n + 1, w, h => nest_clean n (.tup [w]) (by show (clean w && true) = true; rw [h]; rfl)
theorem nested {k n : Nat} {w : W} (hn : n ≤ 1000) (hw : clean w = true) : Ret (k + 1) (.fn 18) [.int (n : Nat), w] (nest n w) := fun s => by
  rw [call_fn e18 rfl]
  have ul : (upto n).length = n := by
    unfold upto
    rw [List.length_map, List.length_range]
  obtain ⟨o', h⟩ := nest_loop (c := ctAt pg k) (a := some (.int (n : Nat))) (s := s.enter) (upto n) w none (clean_D hw)
  rw [ul] at h
  refine Eq.trans ?_ (leave_rt (s1 := s.enter) (clean_D (nest_clean n w hw)) (fun m => clean_free m _ (nest_clean n w hw)) rfl (take_self s))
  congr 1
  show b18 (ctAt pg k) [some (.int (n : Nat)), some w, none] s.enter = _
  have fr : sFor (diRange (dV 0)) (dgName 2) nestB (ctAt pg k) [some (.int (n : Nat)), some w, none] s.enter = .ok (.nx [some (.int (n : Nat)), some (nest n w), o']) s.enter := by
    unfold sFor
    have di : diRange (dV 0) (ctAt pg k) [some (.int (n : Nat)), some w, none] s.enter = .ok (.inl (upto n)) s.enter := by
      show (if (decide (-4611686018427387904 ≤ (n : Int)) && decide ((n : Int) ≤ (sizeMax : Nat))) = true then Res.ok (Sum.inl (upto (n : Int).toNat)) s.enter else .bad) = _
      rw [decide_eq_true (show -4611686018427387904 ≤ (n : Int) by omega), decide_eq_true (show (n : Int) ≤ ((sizeMax : Nat) : Int) by have e : sizeMax = 16777216 := rfl; rw [e]; omega)]
      rfl
    rw [di]
    exact h
  unfold b18
  rw [seq_ok fr]
  exact seq_rt (ret_ok rfl)
/-! ### things that no text or no value are -/
abbrev wordB (j : Nat) : DS := (sSeq (sIf (tE (d2 opNe (dCallLam 16 [.inl 0] daNil j [10]) (dTup (daCons (dC (tx "text")) (daCons (dC (.int 0)) daNil)))))
 (sSeq (sRet (dC (.bl false)))
 sPass)
 sPass)
 sPass)
theorem no_plain {n : Nat} : plainW (n + 1) textNo = true := by
  show plainWs n [tx "text", .int 0] = true
  rw [plainWs_cons, plainWs_cons, plain_leaf (v := tx "text") (by decide +kernel), plain_leaf (v := .int 0) rfl]
  cases n <;> rfl
theorem noE {c : Ct} {env : Vi.Env} {s : Vi.S} : dTup (daCons (dC (tx "text")) (daCons (dC (.int 0)) daNil)) c env s = .ok textNo s := rfl
theorem no_ne {s : Vi.S} : opNe s textNo textNo = some (.bl false) := by
  rw [ne_data no_plain no_plain, eqW_self 64 textNo no_plain]
  rfl
theorem wordE {k j i : Nat} {w : W} {r : Option W} {env : Vi.Env} {s : Vi.S} (he : env[i]? = some (some w)) (h : Act k (.clo j [w]) r) (hw : WF s) : dCallLam 16 [.inl 0] daNil j [i] (ctAt pg (k + 3)) env s = .ok (r.getD textNo) s := by
  have lw := lawword h hw
  unfold dCallLam
  have g : grab env [i] = some [w] := by
    unfold grab
    rw [he]
    rfl
  show (match grab env [i] with
    | some cs => (callP (ctAt pg (k + 3)) 16 [.inl 0] ([] ++ [W.clo j cs]) s).bind fun w s => if isD w then Res.ok w s else .bad
    | none => .bad) = _
  rw [g]
  show Res.bind (callAt pg (k + 3) (.fn 16) [.clo j [w]] s) _ = _
  rw [lw]
  cases r with
  | none => rfl
  | some v =>
    show (if isD v = true then Res.ok v s else .bad) = _
    rw [if_pos (clean_D (h.2 v rfl))]
    rfl
theorem word_loop {k j : Nat} {x0 x1 x2 x3 : Option W} {s : Vi.S} (hw : WF s) : ∀ (l : List W) (o : Option W), (∀ w ∈ l, Act k (.clo j [w]) none) → ∃ o', forLoop (dgName 10) (wordB j) (ctAt pg (k + 3)) l [x0, x1, x2, x3, none, none, none, none, none, none, o] s = .ok (.nx [x0, x1, x2, x3, none, none, none, none, none, none, o']) s
  | [], o, _ => ⟨o, rfl⟩
  | w :: l, o, h => by
    obtain ⟨o', ih⟩ := word_loop hw l (some w) fun y hy => h y (List.mem_cons_of_mem _ hy)
    refine ⟨o', ?_⟩
    have ew := wordE (i := 10) (env := [x0, x1, x2, x3, none, none, none, none, none, none, some w]) (s := s) rfl (h w List.mem_cons_self) hw
    have t : tE (d2 opNe (dCallLam 16 [.inl 0] daNil j [10]) (dTup (daCons (dC (tx "text")) (daCons (dC (.int 0)) daNil)))) (ctAt pg (k + 3)) [x0, x1, x2, x3, none, none, none, none, none, none, some w] s = .ok false s := tE_ok (d2_ok ew noE no_ne)
    have e : wordB j (ctAt pg (k + 3)) [x0, x1, x2, x3, none, none, none, none, none, none, some w] s = .ok (.nx [x0, x1, x2, x3, none, none, none, none, none, none, some w]) s := by
      refine (seq_ok (env1 := [x0, x1, x2, x3, none, none, none, none, none, none, some w]) (s1 := s) ?_).trans rfl
      rw [if_ok t]
      rfl
    exact (for_cons e).trans ih
/-- no value: a value's text is refused -/
def noValue (w : W) : Bool := clean w && decide (sz w ≤ 99999) && !isVal 60 [w]
theorem act_bad {k : Nat} {w : W} (h : noValue w = true) : Act (k + 4) (.clo 2 [w]) none := by
  unfold noValue at h
  rw [Bool.and_eq_true, Bool.and_eq_true, decide_eq_true_eq] at h
  exact act_thr f2 (text_bad h.1.1 h.1.2 (by simpa using h.2))
/-- no text of a value: it is not read -/
def noText : W → Bool
  | .str x => PyData.strOk x && decide (x.cps.toList.length ≤ 5000) && (readV x.cps.toList).isNone
  | .non => true
  | .int _ => true
  | _ => false
theorem act_no {k : Nat} {w : W} (h : noText w = true) : Act (k + 5) (.clo 3 [w]) none := by
  cases w with
  | non => exact act_thr (k := k + 4) f3 (read_not (k := k + 3) rfl (by intro z; cases z))
  | int i => exact act_thr (k := k + 4) f3 (read_not (k := k + 3) rfl (by intro z; cases z))
  | str x =>
    have h : (PyData.strOk x && decide (x.cps.toList.length ≤ 5000) && (readV x.cps.toList).isNone) = true := h
    rw [Bool.and_eq_true, Bool.and_eq_true, decide_eq_true_eq] at h
    have e : x = Tx x.cps.toList := (SX.S_tl x).symm
    have n : readV x.cps.toList = none := by
      cases z : readV x.cps.toList with
      | none => rfl
      | some v =>
        rw [z] at h
        cases h.2
    have hl : txtOk x.cps.toList := ⟨by rw [← e]; exact h.1.1, by omega⟩
    have a := act_read (k := k) f3 hl h.1.2 (fun v hv => (read_facts hl h.1.2 hv).1)
    rw [n, ← e] at a
    exact a
  | _ => cases h
end K88
set_option Elab.async false
set_option linter.all false
set_option maxRecDepth 100000
set_option maxHeartbeats 4000000
/-! K88yb: the deepest value; one lap. -/
namespace K88
open PySem Vi

theorem call1E {k g : Nat} {a : DE} {env : Vi.Env} {s s1 s2 : Vi.S} {x w : W} (ha : a (ctAt pg k) env s = .ok x s1) (h : callAt pg k (.fn g) [x] s1 = .ok w s2) : dCall g [.inl 0] (daCons a daNil) (ctAt pg k) env s = .ok w s2 := by
  unfold dCall daCons daNil
  rw [ha]
  exact h
theorem call1X {k g : Nat} {a : DE} {env : Vi.Env} {s s1 s2 : Vi.S} {x w : W} (ha : a (ctAt pg k) env s = .ok x s1) (h : callAt pg k (.fn g) [x] s1 = .exc w s2) : dCall g [.inl 0] (daCons a daNil) (ctAt pg k) env s = .exc w s2 := by
  unfold dCall daCons daNil
  rw [ha]
  exact h
theorem lst2E {a b : DE} {c : Ct} {env : Vi.Env} {s s1 s2 : Vi.S} {x y : W} (ha : a c env s = .ok x s1) (hb : b c env s1 = .ok y s2) (hx : isD x = true) (hy : isD y = true) : dLst (daCons a (daCons b daNil)) c env s = .ok (.lst [x, y]) s2 := by
  unfold dLst daCons daNil
  rw [ha]
  show Res.bind (Res.bind (Res.bind (b c env s1) _) _) _ = _
  rw [hb]
  show (if (allD [x, y] && decide (2 ≤ sizeMax)) = true then Res.ok (W.lst [x, y]) s2 else .bad) = _
  rw [show allD [x, y] = true by show (isD x && (isD y && true)) = true; rw [hx, hy]; rfl]
  rfl
abbrev deepE (n : Int) : DE := (d2 opAdd (d2 opAdd (d2 opMul (dC (tx "(")) (dC (.int n))) (dC (tx "a"))) (d2 opMul (dC (tx ")")) (dC (.int n))))
abbrev deepV : W := nest 59 (tx "a")
def l60 : List Nat := List.replicate 60 40 ++ (97 :: List.replicate 60 41)
theorem deep59 {c : Ct} {env : Vi.Env} {s : Vi.S} : deepE 59 c env s = .ok (.str (Tx (prL deepV))) s := by kernel_rfl
theorem deep60 {c : Ct} {env : Vi.Env} {s : Vi.S} : deepE 60 c env s = .ok (.str (Tx l60)) s := by kernel_rfl
theorem deep_clean : clean deepV = true := by decide +kernel
theorem deep_val : isVal 60 [deepV] = true := by decide +kernel
theorem deep_ok : okW deepV = true := by decide +kernel
theorem deep_len : (prL deepV).length ≤ 5000 := by decide +kernel
theorem deep_sz : sz deepV ≤ 5000 := by decide +kernel
theorem l60_none : readV l60 = none := by decide +kernel
theorem l60_ok : txtOk l60 := ⟨by decide +kernel, by decide +kernel⟩
theorem act_deep {k : Nat} : Act (k + 5) (.clo 4 []) none := ⟨fun s hw => by
  rw [call_clo f4 ⟨rfl, rfl⟩]
  have z := read_str (k := k) l60_ok (by decide +kernel) s.enter hw.enter
  rw [l60_none] at z
  have e : l4 (ctAt pg (k + 4)) [] s.enter = .exc badText s.enter := call1X deep60 z
  show leave true s (retOf (l4 (ctAt pg (k + 4)) [] s.enter)) = _
  rw [e]
  exact leave_ex (fun _ => rfl) rfl (take_self s), fun v e => by cases e⟩
theorem wordE0 {k j : Nat} {env : Vi.Env} {s : Vi.S} (h : Act k (.clo j []) none) (hw : WF s) : dCallLam 16 [.inl 0] daNil j [] (ctAt pg (k + 3)) env s = .ok textNo s := by
  have lw := lawword h hw
  unfold dCallLam
  show Res.bind (callAt pg (k + 3) (.fn 16) [.clo j []] s) _ = _
  rw [lw]
  rfl
/-- one value and its text: law_is of what is written -/
theorem is_text {k : Nat} {i : Nat} {b : DE} {v : W} {env : Vi.Env} {s : Vi.S} (he : env[i]? = some (some v)) (hb : b (ctAt pg (k + 3)) env s = .ok (.str (Tx (prL v))) s) (c : clean v = true) (hv : isVal 60 [v] = true) (hs : sz v ≤ 5000) (hl : (prL v).length ≤ 5000) : tE (dCall 13 [.inl 0, .inl 1] (daCons (dCall 3 [.inl 0] (daCons (dV i) daNil)) (daCons b daNil))) (ctAt pg (k + 3)) env s = .ok true s := by
  have tv := text_ok (k := k) c (by omega) hv (by omega)
  have okv : okW v = true := by
    have z := isVal_ok hv
    have z : (okW v && true) = true := z
    rw [Bool.and_true] at z
    exact z
  have sk := prL_ok c okv
  have li := lawis (k := k + 1) (x := .str (Tx (prL v))) (n := 0) sk sk (rep_txt sk (by omega))
  exact tE_ok (call2_ok (call1_ok he tv) hb (li s))
theorem is_read {k : Nat} {a : DE} {i n : Nat} {v : W} {env : Vi.Env} {s : Vi.S} (hw : WF s) (ha : a (ctAt pg (k + n + 6)) env s = .ok (.str (Tx (prL v))) s) (he : env[i]? = some (some v)) (c : clean v = true) (hv : isVal 60 [v] = true) (hp : plainW n v = true) (hn : n ≤ 64) (hs : sz v ≤ 5000) (hl : (prL v).length ≤ 5000) : tE (dCall 13 [.inl 0, .inl 1] (daCons (dCall 7 [.inl 0] (daCons a daNil)) (daCons (dV i) daNil))) (ctAt pg (k + n + 6)) env s = .ok true s := by
  have okv : okW v = true := by
    have z := isVal_ok hv
    have z : (okW v && true) = true := z
    rw [Bool.and_true] at z
    exact z
  have vv : val v = true := by
    unfold val
    rw [c, okv]
    rfl
  have sk := prL_ok c okv
  have rd := read_str (k := k + n + 2) (l := prL v) ⟨sk, by omega⟩ hl s hw
  rw [read_back vv hv] at rd
  have p64 := plainW_up v n 64 hn hp
  have li := lawis (k := k + 4) (x := v) hp p64 (rep_val p64 okv hs (by omega))
  have e2 : k + 4 + n + 2 = k + n + 6 := by omega
  rw [e2] at li
  exact tE_ok (call2_ok (call1E ha rd) (dV_ok he) (li s))
/-! ### one lap -/
theorem cut_to {s : Vi.S} {l : List Nat} {j : Nat} (hj : j ≤ l.length) (hl : l.length ≤ sizeMax) : sliceOf s (.str (Tx l)) none (some (j : Nat)) = some (.str (Tx (l.take j))) := by
  show (if okLen (Tx l).length = true then some (W.str ⟨(cutL l none (some ((j : Nat) : Int))).toArray⟩) else none) = _
  rw [SX.S_len, show okLen l.length = true from decide_eq_true hl]
  unfold cutL
  rw [HT.sIx_nat, HT.sIx_none, Nat.min_eq_left hj]
  rfl
theorem cut_from {s : Vi.S} {l : List Nat} {j : Nat} (hl : l.length ≤ sizeMax) : sliceOf s (.str (Tx l)) (some (j : Nat)) none = some (.str (Tx (l.drop j))) := by
  show (if okLen (Tx l).length = true then some (W.str ⟨(cutL l (some ((j : Nat) : Int)) none).toArray⟩) else none) = _
  rw [SX.S_len, show okLen l.length = true from decide_eq_true hl]
  have e : cutL l (some ((j : Nat) : Int)) none = l.drop j := by
    unfold cutL
    rw [HT.sIx_nat, HT.sIx_none]
    by_cases h : j ≤ l.length
    · rw [Nat.min_eq_left h]
      exact List.take_of_length_le (by rw [List.length_drop]; exact Nat.le_refl _)
    · rw [Nat.min_eq_right (by omega), Nat.sub_self, List.drop_of_length_le (i := j) (by omega)]
      rfl
  rw [e]
  rfl
theorem slice_to {a b : DE} {c : Ct} {env : Vi.Env} {s : Vi.S} {l : List Nat} {j : Nat} (ha : a c env s = .ok (.str (Tx l)) s) (hb : b c env s = .ok (.int (j : Nat)) s) (hj : j ≤ l.length) (hl : l.length ≤ sizeMax) : dSlice a none (some b) c env s = .ok (.str (Tx (l.take j))) s := by
  unfold dSlice
  rw [ha]
  show Res.bind (Res.bind (b c env s) _) _ = _
  rw [hb]
  show Res.opt (sliceOf s (.str (Tx l)) none (some (j : Nat))) s = _
  rw [cut_to hj hl]
  rfl
theorem slice_from {a b : DE} {c : Ct} {env : Vi.Env} {s : Vi.S} {l : List Nat} {j : Nat} (ha : a c env s = .ok (.str (Tx l)) s) (hb : b c env s = .ok (.int (j : Nat)) s) (hl : l.length ≤ sizeMax) : dSlice a (some b) none c env s = .ok (.str (Tx (l.drop j))) s := by
  unfold dSlice
  rw [ha]
  show Res.bind (Res.bind (b c env s) _) _ = _
  rw [hb]
  show Res.opt (sliceOf s (.str (Tx l)) (some (j : Nat)) none) s = _
  rw [cut_from hl]
  rfl
theorem txt_app {l m : List Nat} (h : txtOk l) (h2 : txtOk m) (hl : l.length + m.length ≤ 16777216) : txtOk (l ++ m) := ⟨strOk_of fun c hc => by
  rcases List.mem_append.mp hc with z | z
  · exact txt_codes h c z
  · exact txt_codes h2 c z, by rw [List.length_append]; exact hl⟩
theorem txt_take {l : List Nat} {n : Nat} (h : txtOk l) : txtOk (l.take n) := ok_sub h (fun c hc => List.mem_of_mem_take hc) (by rw [List.length_take]; exact Nat.min_le_right _ _)
theorem txt_drop {l : List Nat} {n : Nat} (h : txtOk l) : txtOk (l.drop n) := ok_sub h (fun c hc => List.mem_of_mem_drop hc) (by rw [List.length_drop]; omega)
abbrev signsL : List W := [tx "(", tx ")", tx " ", tx "A"]
theorem sign_of {w : W} (h : w ∈ signsL) : ∃ c, w = .str (Tx [c]) ∧ txtOk [c] := by
  have e1 : tx "(" = .str (Tx [40]) := congrArg W.str (by decide +kernel)
  have e2 : tx ")" = .str (Tx [41]) := congrArg W.str (by decide +kernel)
  have e3 : tx " " = .str (Tx [32]) := congrArg W.str (by decide +kernel)
  have e4 : tx "A" = .str (Tx [65]) := congrArg W.str (by decide +kernel)
  rw [show signsL = [.str (Tx [40]), .str (Tx [41]), .str (Tx [32]), .str (Tx [65])] by
    show [tx "(", tx ")", tx " ", tx "A"] = _
    rw [e1, e2, e3, e4]] at h
  simp only [List.mem_cons, List.not_mem_nil, or_false] at h
  rcases h with h | h | h | h
  · exact ⟨40, h, by decide +kernel, by decide⟩
  · exact ⟨41, h, by decide +kernel, by decide⟩
  · exact ⟨32, h, by decide +kernel, by decide⟩
  · exact ⟨65, h, by decide +kernel, by decide⟩
abbrev bentE : DE := (dLst (daCons (d2 opAdd (d2 opAdd (dSlice (dV 6) none (some (dV 7))) (dCall 11 [.inl 0, .inl 1] (daCons (dV 1) (daCons (dLst (daCons (dC (tx "(")) (daCons (dC (tx ")")) (daCons (dC (tx " ")) (daCons (dC (tx "A")) daNil))))) daNil)))) (dSlice (dV 6) (some (dV 7)) none)) (daCons (d2 opAdd (dSlice (dV 6) none (some (dV 7))) (dSlice (dV 6) (some (d2 opAdd (dV 7) (dC (.int 1)))) none)) daNil)))
/-- the bent texts -/
theorem bent {k : Nat} {gs cs : List Int} {r t : Int} {K : List Nat} {l : List Nat} {j : Nat} {x0 x2 x3 x4 x5 x8 x9 x10 : Option W} (hl : txtOk l) (hn : l.length ≤ 4000) (hj : j ≤ l.length) (ht0 : 0 ≤ t) (ht1 : t + 1 < 1000000000) :
    ∃ l1 l2 gs' r' t', bentE (ctAt pg (k + 3)) [x0, some (.adr 1), x2, x3, x4, x5, some (.str (Tx l)), some (.int (j : Nat)), x8, x9, x10] (mkS gs cs r t K) = .ok (.lst [.str (Tx l1), .str (Tx l2)]) (mkS gs' cs r' t' K) ∧ txtOk l1 ∧ txtOk l2 ∧ l1.length ≤ 5000 ∧ l2.length ≤ 5000 ∧ t ≤ t' ∧ t' ≤ t + 1 := by
  have sm : sizeMax = 16777216 := rfl
  obtain ⟨w, gs1, r1, t1, h, hw, p1, p2⟩ := pick (k := k) (gs := gs) (cs := cs) (r := r) (t := t) (K := K) (items := signsL) ht0 ht1 (by decide) (by decide) (by decide +kernel)
  obtain ⟨c, rfl, hc⟩ := sign_of hw
  generalize hE : ([x0, some (.adr 1), x2, x3, x4, x5, some (.str (Tx l)), some (.int (j : Nat)), x8, x9, x10] : Vi.Env) = E
  have v1 : E[1]? = some (some (.adr 1)) := by rw [← hE]; rfl
  have v6 : E[6]? = some (some (.str (Tx l))) := by rw [← hE]; rfl
  have v7 : E[7]? = some (some (.int (j : Nat))) := by rw [← hE]; rfl
  have sl : ∀ s, dSlice (dV 6) none (some (dV 7)) (ctAt pg (k + 3)) E s = .ok (.str (Tx (l.take j))) s := fun s => slice_to (dV_ok v6) (dV_ok v7) hj (by omega)
  have sr : ∀ s, dSlice (dV 6) (some (dV 7)) none (ctAt pg (k + 3)) E s = .ok (.str (Tx (l.drop j))) s := fun s => slice_from (dV_ok v6) (dV_ok v7) (by omega)
  have sr1 : ∀ s, dSlice (dV 6) (some (d2 opAdd (dV 7) (dC (.int 1)))) none (ctAt pg (k + 3)) E s = .ok (.str (Tx (l.drop (j + 1)))) s := fun s => slice_from (j := j + 1) (dV_ok v6) (d2_ok (s1 := s) (s2 := s) (y := .int 1) (dV_ok v7) rfl rfl) (by omega)
  have ht : (l.take j).length ≤ l.length := by rw [List.length_take]; exact Nat.min_le_right _ _
  have hd : (l.drop j).length ≤ l.length := by rw [List.length_drop]; omega
  have hd1 : (l.drop (j + 1)).length ≤ l.length := by rw [List.length_drop]; omega
  have pk : dCall 11 [.inl 0, .inl 1] (daCons (dV 1) (daCons (dLst (daCons (dC (tx "(")) (daCons (dC (tx ")")) (daCons (dC (tx " ")) (daCons (dC (tx "A")) daNil))))) daNil)) (ctAt pg (k + 3)) E (mkS gs cs r t K) = .ok (.str (Tx [c])) (mkS gs1 cs r1 t1 K) := call2_ok (x := .adr 1) (y := .lst signsL) (s1 := mkS gs cs r t K) (s2 := mkS gs cs r t K) (dV_ok v1) rfl h
  have e1 : d2 opAdd (d2 opAdd (dSlice (dV 6) none (some (dV 7))) (dCall 11 [.inl 0, .inl 1] (daCons (dV 1) (daCons (dLst (daCons (dC (tx "(")) (daCons (dC (tx ")")) (daCons (dC (tx " ")) (daCons (dC (tx "A")) daNil))))) daNil)))) (dSlice (dV 6) (some (dV 7)) none) (ctAt pg (k + 3)) E (mkS gs cs r t K) = .ok (.str (Tx (l.take j ++ [c] ++ l.drop j))) (mkS gs1 cs r1 t1 K) :=
    d2_ok (d2_ok (sl _) pk (cat_str (by rw [sm]; show _ + 1 ≤ _; omega))) (sr _) (cat_str (by rw [sm, List.length_append]; show _ + 1 + _ ≤ _; omega))
  have e2 : d2 opAdd (dSlice (dV 6) none (some (dV 7))) (dSlice (dV 6) (some (d2 opAdd (dV 7) (dC (.int 1)))) none) (ctAt pg (k + 3)) E (mkS gs1 cs r1 t1 K) = .ok (.str (Tx (l.take j ++ l.drop (j + 1)))) (mkS gs1 cs r1 t1 K) :=
    d2_ok (sl _) (sr1 _) (cat_str (by rw [sm]; omega))
  refine ⟨l.take j ++ [c] ++ l.drop j, l.take j ++ l.drop (j + 1), gs1, r1, t1, ?_, ?_, ?_, ?_, ?_, p1, p2⟩
  · exact lst2E e1 e2 rfl rfl
  · exact txt_app (txt_app (txt_take hl) hc (by show _ + 1 ≤ _; omega)) (txt_drop hl) (by rw [List.length_append]; show _ + 1 + _ ≤ _; omega)
  · exact txt_app (txt_take hl) (txt_drop hl) (by omega)
  · rw [List.length_append, List.length_append]
    have e : j + (l.length - j) = l.length := by omega
    rw [List.length_take, List.length_drop]
    show min j l.length + 1 + _ ≤ _
    omega
  · rw [List.length_append, List.length_take, List.length_drop]
    omega
end K88
set_option Elab.async false
set_option linter.all false
set_option maxRecDepth 100000
set_option maxHeartbeats 4000000
/-! K88yc: one lap of the law. -/
namespace K88
open PySem Vi

abbrev lapB : DS := (sSeq (sPar [4, 5] (daCons (dCall 17 [.inl 0, .inl 1] (daCons (dV 1) (daCons (dC (.int 3)) daNil))) (daCons (dCall 17 [.inl 0, .inl 1] (daCons (dV 1) (daCons (dC (.int 3)) daNil))) daNil)))
 (sSeq (sSet (dCall 14 [.inl 0] (daCons (dV 4) daNil)) (dgName 6))
 (sSeq (sIf (tOr (tNot (tE (dCall 13 [.inl 0, .inl 1] (daCons (dCall 3 [.inl 0] (daCons (dV 4) daNil)) (daCons (dV 6) daNil))))) (tOr (tNot (tE (dCall 13 [.inl 0, .inl 1] (daCons (dCall 7 [.inl 0] (daCons (dV 6) daNil)) (daCons (dV 4) daNil))))) (tOr (tNot (tE (dCall 13 [.inl 0, .inl 1] (daCons (dCall 7 [.inl 0] (daCons (dV 6) daNil)) (daCons (dV 4) daNil))))) (tNot (tE (dCall 13 [.inl 0, .inl 1] (daCons (dCall 3 [.inl 0] (daCons (dV 4) daNil)) (daCons (dV 6) daNil))))))))
 (sSeq (sRet (dC (.bl false)))
 sPass)
 sPass)
 (sSeq (sIf (tE (d2 opNe (d2 opEq (dCall 3 [.inl 0] (daCons (dV 4) daNil)) (dCall 3 [.inl 0] (daCons (dV 5) daNil))) (d2 opEq (dV 4) (dV 5))))
 (sSeq (sRet (dC (.bl false)))
 sPass)
 sPass)
 (sSeq (sSet (dCall 10 [.inl 0, .inl 1] (daCons (dV 1) (daCons (d2 opAdd (d1 bLen (dV 6)) (dC (.int 1))) daNil))) (dgName 7))
 (sSeq (sSet (dCall 11 [.inl 0, .inl 1] (daCons (dV 1) (daCons bentE daNil))) (dgName 9))
 (sSeq (sSet (dCallLam 16 [.inl 0] daNil 1 [9]) (dgName 8))
 (sSeq (sIf (tAnd (tE (d2 opNe (dV 8) (dTup (daCons (dC (tx "text")) (daCons (dC (.int 0)) daNil))))) (tOr (tNot (tE (dCall 12 [.inl 0] (daCons (dV 8) daNil)))) (tE (d2 opNe (dCall 14 [.inl 0] (daCons (dV 8) daNil)) (dV 9)))))
 (sSeq (sRet (dC (.bl false)))
 sPass)
 sPass)
 sPass))))))))
theorem wf_mk {gs cs : List Int} {r t : Int} : WF (mkS gs cs r t [0]) := fun k hk => by
  rw [List.mem_singleton.mp hk]
  exact Nat.zero_le _
theorem lap {k : Nat} {gs cs : List Int} {r t : Int} {x0 x2 x3 x4 x5 x6 x7 x8 x9 x10 : Option W} (ht0 : 0 ≤ t) (ht1 : t + 200 < 1000000000) :
    ∃ y4 y5 y6 y7 y8 y9 gs' r' t', lapB (ctAt pg (k + 70)) [x0, some (.adr 1), x2, x3, x4, x5, x6, x7, x8, x9, x10] (mkS gs cs r t [0]) = .ok (.nx [x0, some (.adr 1), x2, x3, y4, y5, y6, y7, y8, y9, x10]) (mkS gs' cs r' t' [0]) ∧ t ≤ t' ∧ t' ≤ t + 200 := by
  have sm : sizeMax = 16777216 := rfl
  have cn : ((Cn 3 : Nat) : Int) = 80 := rfl
  have sn : Sn 3 = 40 := rfl
  have ln : Ln 3 = 416 := rfl
  obtain ⟨a, gs1, r1, t1, ha, da, p1, p2⟩ := some_value (k := k + 63) (cs := cs) 3 gs r t [0] ht0 (by rw [cn]; omega)
  rw [cn] at p2
  obtain ⟨b, gs2, r2, t2, hb, db, p3, p4⟩ := some_value (k := k + 63) (cs := cs) 3 gs1 r1 t1 [0] (by omega) (by rw [cn]; omega)
  rw [cn] at p4
  obtain ⟨ac, ao, ap, as, al⟩ := da
  obtain ⟨bc, bo, bp, bs, bl⟩ := db
  rw [sn] at as bs
  rw [ln] at al bl
  have aV : val a = true := by unfold val; rw [ac, ao]; rfl
  have bV : val b = true := by unfold val; rw [bc, bo]; rfl
  have ai := val60 (by decide) ap ao
  have bi := val60 (by decide) bp bo
  have a64 := plainW_up a 3 64 (by decide) ap
  have b64 := plainW_up b 3 64 (by decide) bp
  have ask := prL_ok ac ao
  have bsk := prL_ok bc bo
  have c1 : sPar [4, 5] (daCons (dCall 17 [.inl 0, .inl 1] (daCons (dV 1) (daCons (dC (.int 3)) daNil))) (daCons (dCall 17 [.inl 0, .inl 1] (daCons (dV 1) (daCons (dC (.int 3)) daNil))) daNil)) (ctAt pg (k + 70)) [x0, some (.adr 1), x2, x3, x4, x5, x6, x7, x8, x9, x10] (mkS gs cs r t [0]) = .ok (.nx [x0, some (.adr 1), x2, x3, some a, some b, x6, x7, x8, x9, x10]) (mkS gs2 cs r2 t2 [0]) :=
    par_ok (i := 4) (j := 5) (call2_ok (x := .adr 1) (y := .int 3) (s1 := mkS gs cs r t [0]) (s2 := mkS gs cs r t [0]) rfl rfl ha) (call2_ok (x := .adr 1) (y := .int 3) (s1 := mkS gs1 cs r1 t1 [0]) (s2 := mkS gs1 cs r1 t1 [0]) rfl rfl hb)
  have lt := lawtext (k := k + 66) 3 a ap aV (by omega) (by omega)
  have c2 : sSet (dCall 14 [.inl 0] (daCons (dV 4) daNil)) (dgName 6) (ctAt pg (k + 70)) [x0, some (.adr 1), x2, x3, some a, some b, x6, x7, x8, x9, x10] (mkS gs2 cs r2 t2 [0]) = .ok (.nx [x0, some (.adr 1), x2, x3, some a, some b, some (.str (Tx (prL a))), x7, x8, x9, x10]) (mkS gs2 cs r2 t2 [0]) :=
    set_ok (i := 6) (call1_ok (i := 4) (x := a) rfl lt)
  have A := is_text (k := k + 67) (i := 4) (b := dV 6) (v := a) (env := [x0, some (.adr 1), x2, x3, some a, some b, some (.str (Tx (prL a))), x7, x8, x9, x10]) (s := mkS gs2 cs r2 t2 [0]) rfl (dV_ok rfl) ac ai (by omega) (by omega)
  have B := is_read (k := k + 61) (n := 3) (i := 4) (a := dV 6) (v := a) (env := [x0, some (.adr 1), x2, x3, some a, some b, some (.str (Tx (prL a))), x7, x8, x9, x10]) (s := mkS gs2 cs r2 t2 [0]) wf_mk (dV_ok rfl) rfl ac ai ap (by decide) (by omega) (by omega)
  have c3 := tOr_ok (tNot_ok A) fun _ => tOr_ok (tNot_ok B) fun _ => tOr_ok (tNot_ok B) fun _ => tNot_ok A
  have ta := text_ok (k := k + 67) ac (by omega) ai (by omega)
  have tb := text_ok (k := k + 67) bc (by omega) bi (by omega)
  have c4 : tE (d2 opNe (d2 opEq (dCall 3 [.inl 0] (daCons (dV 4) daNil)) (dCall 3 [.inl 0] (daCons (dV 5) daNil))) (d2 opEq (dV 4) (dV 5))) (ctAt pg (k + 70)) [x0, some (.adr 1), x2, x3, some a, some b, some (.str (Tx (prL a))), x7, x8, x9, x10] (mkS gs2 cs r2 t2 [0]) = .ok false (mkS gs2 cs r2 t2 [0]) := by
    have e1 : d2 opEq (dCall 3 [.inl 0] (daCons (dV 4) daNil)) (dCall 3 [.inl 0] (daCons (dV 5) daNil)) (ctAt pg (k + 70)) [x0, some (.adr 1), x2, x3, some a, some b, some (.str (Tx (prL a))), x7, x8, x9, x10] (mkS gs2 cs r2 t2 [0]) = .ok (.bl (prL a == prL b)) (mkS gs2 cs r2 t2 [0]) := d2_ok (call1_ok (i := 4) (x := a) rfl ta) (call1_ok (i := 5) (x := b) rfl tb) (eq_str ask bsk)
    have e2 : d2 opEq (dV 4) (dV 5) (ctAt pg (k + 70)) [x0, some (.adr 1), x2, x3, some a, some b, some (.str (Tx (prL a))), x7, x8, x9, x10] (mkS gs2 cs r2 t2 [0]) = .ok (.bl (eqW a b)) (mkS gs2 cs r2 t2 [0]) := d2_ok (dV_ok rfl) (dV_ok rfl) (eq_data a64 b64)
    rw [alike ap aV bV] at e1
    refine tE_ok (d2_ok e1 e2 ?_)
    cases eqW a b <;> rfl
  obtain ⟨x, gs3, r3, t3, hd, d0, d1', p5, p6⟩ := draw (k := k + 68) (gs := gs2) (cs := cs) (r := r2) (t := t2) (n := ((prL a).length : Int) + 1) (K := [0]) (by omega) (by omega) (by omega) (by omega)
  obtain ⟨j, rfl⟩ : ∃ j : Nat, x = (j : Nat) := ⟨x.toNat, by omega⟩
  have c5 : sSet (dCall 10 [.inl 0, .inl 1] (daCons (dV 1) (daCons (d2 opAdd (d1 bLen (dV 6)) (dC (.int 1))) daNil))) (dgName 7) (ctAt pg (k + 70)) [x0, some (.adr 1), x2, x3, some a, some b, some (.str (Tx (prL a))), x7, x8, x9, x10] (mkS gs2 cs r2 t2 [0]) = .ok (.nx [x0, some (.adr 1), x2, x3, some a, some b, some (.str (Tx (prL a))), some (.int (j : Nat)), x8, x9, x10]) (mkS gs3 cs r3 t3 [0]) :=
    set_ok (i := 7) (call2_ok (x := .adr 1) (y := .int (((prL a).length : Int) + 1)) (s1 := mkS gs2 cs r2 t2 [0]) (s2 := mkS gs2 cs r2 t2 [0]) rfl (d2_ok (s1 := mkS gs2 cs r2 t2 [0]) (s2 := mkS gs2 cs r2 t2 [0]) (x := .int ((prL a).length : Nat)) (y := .int 1) (d1_ok (dV_ok (w := .str (Tx (prL a))) rfl) (len_str (by rw [sm]; omega))) rfl rfl) hd)
  obtain ⟨l1, l2, gs4, r4, t4, hbt, k1, k2, n1, n2, p7, p8⟩ := bent (k := k + 67) (gs := gs3) (cs := cs) (r := r3) (t := t3) (K := [0]) (l := prL a) (j := j) (x0 := x0) (x2 := x2) (x3 := x3) (x4 := some a) (x5 := some b) (x8 := x8) (x9 := x9) (x10 := x10) ⟨ask, by omega⟩ (by omega) (by omega) (by omega) (by omega)
  have cl : ∀ l, txtOk l → clean (.str (Tx l)) = true := fun l h => by
    show (PyData.strOk (Tx l) && decide ((Tx l).length ≤ 16777216)) = true
    rw [h.1, decide_eq_true (by rw [SX.S_len]; exact h.2)]
    rfl
  obtain ⟨w, gs5, r5, t5, hp, hw, p9, p10⟩ := pick (k := k + 67) (gs := gs4) (cs := cs) (r := r4) (t := t4) (K := [0]) (items := [.str (Tx l1), .str (Tx l2)]) (by omega) (by omega) (show 0 < 2 by decide) (show 2 < 1000 by decide) (by
    show (clean (.str (Tx l1)) && (clean (.str (Tx l2)) && true)) = true
    rw [cl l1 k1, cl l2 k2]
    rfl)
  obtain ⟨l', rfl, kl, nl⟩ : ∃ l', w = .str (Tx l') ∧ txtOk l' ∧ l'.length ≤ 5000 := by
    simp only [List.mem_cons, List.not_mem_nil, or_false] at hw
    rcases hw with rfl | rfl
    · exact ⟨l1, rfl, k1, n1⟩
    · exact ⟨l2, rfl, k2, n2⟩
  have c6 : sSet (dCall 11 [.inl 0, .inl 1] (daCons (dV 1) (daCons bentE daNil))) (dgName 9) (ctAt pg (k + 70)) [x0, some (.adr 1), x2, x3, some a, some b, some (.str (Tx (prL a))), some (.int (j : Nat)), x8, x9, x10] (mkS gs3 cs r3 t3 [0]) = .ok (.nx [x0, some (.adr 1), x2, x3, some a, some b, some (.str (Tx (prL a))), some (.int (j : Nat)), x8, some (.str (Tx l')), x10]) (mkS gs5 cs r5 t5 [0]) :=
    set_ok (i := 9) (call2_ok (x := .adr 1) (s1 := mkS gs3 cs r3 t3 [0]) rfl hbt hp)
  have act := act_read (k := k + 62) f1 kl nl (fun v hv => (read_facts kl nl hv).1)
  have we := wordE (k := k + 67) (i := 9) (env := [x0, some (.adr 1), x2, x3, some a, some b, some (.str (Tx (prL a))), some (.int (j : Nat)), x8, some (.str (Tx l')), x10]) (s := mkS gs5 cs r5 t5 [0]) rfl act wf_mk
  have fin : ∀ R, dCallLam 16 [.inl 0] daNil 1 [9] (ctAt pg (k + 70)) [x0, some (.adr 1), x2, x3, some a, some b, some (.str (Tx (prL a))), some (.int (j : Nat)), x8, some (.str (Tx l')), x10] (mkS gs5 cs r5 t5 [0]) = .ok R (mkS gs5 cs r5 t5 [0]) →
      tAnd (tE (d2 opNe (dV 8) (dTup (daCons (dC (tx "text")) (daCons (dC (.int 0)) daNil))))) (tOr (tNot (tE (dCall 12 [.inl 0] (daCons (dV 8) daNil)))) (tE (d2 opNe (dCall 14 [.inl 0] (daCons (dV 8) daNil)) (dV 9)))) (ctAt pg (k + 70)) [x0, some (.adr 1), x2, x3, some a, some b, some (.str (Tx (prL a))), some (.int (j : Nat)), some R, some (.str (Tx l')), x10] (mkS gs5 cs r5 t5 [0]) = .ok false (mkS gs5 cs r5 t5 [0]) →
      lapB (ctAt pg (k + 70)) [x0, some (.adr 1), x2, x3, x4, x5, x6, x7, x8, x9, x10] (mkS gs cs r t [0]) = .ok (.nx [x0, some (.adr 1), x2, x3, some a, some b, some (.str (Tx (prL a))), some (.int (j : Nat)), some R, some (.str (Tx l')), x10]) (mkS gs5 cs r5 t5 [0]) := fun R h1 h2 => by
    unfold lapB
    rw [seq_ok c1, seq_ok c2, seq_ok (env1 := [x0, some (.adr 1), x2, x3, some a, some b, some (.str (Tx (prL a))), x7, x8, x9, x10]) (s1 := mkS gs2 cs r2 t2 [0]) (by rw [if_ok c3]; rfl), seq_ok (env1 := [x0, some (.adr 1), x2, x3, some a, some b, some (.str (Tx (prL a))), x7, x8, x9, x10]) (s1 := mkS gs2 cs r2 t2 [0]) (by rw [if_ok c4]; rfl), seq_ok c5, seq_ok c6, seq_ok (set_ok (i := 8) h1)]
    refine (seq_ok (env1 := [x0, some (.adr 1), x2, x3, some a, some b, some (.str (Tx (prL a))), some (.int (j : Nat)), some R, some (.str (Tx l')), x10]) (s1 := mkS gs5 cs r5 t5 [0]) ?_).trans rfl
    refine (if_ok h2).trans rfl
  cases er : readV l' with
  | none =>
    rw [er] at we
    refine ⟨_, _, _, _, _, _, gs5, r5, t5, fin textNo we ?_, by omega, by omega⟩
    exact tAnd_ok (x := false) (y := false) (tE_ok (d2_ok (dV_ok (w := textNo) rfl) noE no_ne)) fun z => by cases z
  | some v =>
    rw [er] at we
    obtain ⟨vc, vo, vp, vs, vl⟩ := read_facts kl nl er
    have vV : val v = true := by unfold val; rw [vc, vo]; rfl
    have v64 := plainW_up v 59 64 (by decide) vp
    refine ⟨_, _, _, _, _, _, gs5, r5, t5, fin v we ?_, by omega, by omega⟩
    have q1 := tE_ok (d2_ok (dV_ok (i := 8) (w := v) (c := ctAt pg (k + 70)) (env := [x0, some (.adr 1), x2, x3, some a, some b, some (.str (Tx (prL a))), some (.int (j : Nat)), some v, some (.str (Tx l')), x10]) (s := mkS gs5 cs r5 t5 [0]) rfl) noE (ne_data v64 no_plain))
    have lp := lawplain (k := k + 10) 59 v vp
    have lx := lawtext (k := k + 10) 59 v vp vV (by omega) (by rw [vl]; omega)
    have q2 := tE_ok (call1_ok (k := k + 70) (i := 8) (x := v) (env := [x0, some (.adr 1), x2, x3, some a, some b, some (.str (Tx (prL a))), some (.int (j : Nat)), some v, some (.str (Tx l')), x10]) (s := mkS gs5 cs r5 t5 [0]) rfl lp)
    have q3 := tE_ok (d2_ok (call1_ok (k := k + 70) (i := 8) (x := v) (env := [x0, some (.adr 1), x2, x3, some a, some b, some (.str (Tx (prL a))), some (.int (j : Nat)), some v, some (.str (Tx l')), x10]) (s := mkS gs5 cs r5 t5 [0]) rfl lx) (dV_ok (i := 9) (w := .str (Tx l')) rfl) (ne_str (prL_ok vc vo) kl.1))
    have q := tAnd_ok q1 fun _ => tOr_ok (tNot_ok q2) fun _ => q3
    rw [vl, beq_self_eq_true] at q
    refine q.trans ?_
    show Res.ok (_ && false) _ = _
    rw [Bool.and_false]
theorem laps {k : Nat} {cs : List Int} {x0 x2 x10 : Option W} : ∀ (l : List W) (x3 x4 x5 x6 x7 x8 x9 : Option W) (gs : List Int) (r t : Int), 0 ≤ t → t + l.length * 200 + 200 < 1000000000 →
    ∃ y3 y4 y5 y6 y7 y8 y9 gs' r' t', forLoop (dgName 3) lapB (ctAt pg (k + 70)) l [x0, some (.adr 1), x2, x3, x4, x5, x6, x7, x8, x9, x10] (mkS gs cs r t [0]) = .ok (.nx [x0, some (.adr 1), x2, y3, y4, y5, y6, y7, y8, y9, x10]) (mkS gs' cs r' t' [0])
  | [], x3, x4, x5, x6, x7, x8, x9, gs, r, t, _, _ => ⟨x3, x4, x5, x6, x7, x8, x9, gs, r, t, rfl⟩
  | x :: l, x3, x4, x5, x6, x7, x8, x9, gs, r, t, h0, h1 => by
    have el : ((x :: l).length : Int) = l.length + 1 := by simp
    rw [el] at h1
    have hl : (0 : Int) ≤ l.length := by omega
    obtain ⟨y4, y5, y6, y7, y8, y9, gs1, r1, t1, h, p1, p2⟩ := lap (k := k) (gs := gs) (cs := cs) (r := r) (t := t) (x0 := x0) (x2 := x2) (x3 := some x) (x4 := x4) (x5 := x5) (x6 := x6) (x7 := x7) (x8 := x8) (x9 := x9) (x10 := x10) h0 (by omega)
    obtain ⟨z3, z4, z5, z6, z7, z8, z9, gs2, r2, t2, ih⟩ := laps (k := k) (cs := cs) (x0 := x0) (x2 := x2) (x10 := x10) l (some x) y4 y5 y6 y7 y8 y9 gs1 r1 t1 (by omega) (by omega)
    exact ⟨z3, z4, z5, z6, z7, z8, z9, gs2, r2, t2, (for_cons h).trans ih⟩
end K88
set_option Elab.async false
set_option linter.all false
set_option maxRecDepth 100000
set_option maxHeartbeats 4000000
/-! K88yd: the law's body. -/
namespace K88
open PySem Vi

theorem cons_ok {e : DE} {r : DA} {c : Ct} {env : Vi.Env} {s : Vi.S} {x : W} {l : List W} (h : e c env s = .ok x s) (h2 : r c env s = .ok l s) : daCons e r c env s = .ok (x :: l) s := by
  unfold daCons
  rw [h]
  show Res.bind (r c env s) _ = _
  rw [h2]
  rfl
theorem each_ok {A : DA} {l : List W} {c : Ct} {env : Vi.Env} {s : Vi.S} (h : A c env s = .ok l s) (h2 : (allD l && decide (l.length ≤ sizeMax)) = true) : diE (dLst A) c env s = .ok (.inl l) s := by
  unfold diE dLst
  rw [h]
  show Res.bind (if (allD l && decide (l.length ≤ sizeMax)) = true then Res.ok (W.lst l) s else .bad) _ = _
  rw [if_pos h2]
  rfl
theorem for_ok {i : DI} {g : DG} {b : DS} {c : Ct} {env : Vi.Env} {s : Vi.S} {l : List W} (h : i c env s = .ok (.inl l) s) : sFor i g b c env s = forLoop g b c l env s := by
  unfold sFor
  rw [h]
  rfl
abbrev wrongA : DA := (daCons (dC (tx "A")) (daCons (dC (tx "")) (daCons (dC (tx "a b")) (daCons (dC (tx "a1")) (daCons (dC (tx "-")) (daCons (d2 opPow (dC (.int 10)) (dC (.int 12))) (daCons (d2 opSub (dC (.int 0)) (d2 opPow (dC (.int 10)) (dC (.int 12)))) (daCons (dC (.bl true)) (daCons (dLst (daCons (dC (tx "a")) daNil)) (daCons (dTup (daCons (dC (tx "a")) (daCons (dLst (daCons (dC (tx "b")) daNil)) daNil))) (daCons (dTup (daCons (dC (tx "a")) (daCons (dC (tx "B")) daNil))) (daCons (dCall 18 [.inl 0, .inl 1] (daCons (dC (.int 60)) (daCons (dC (tx "a")) daNil))) (daCons (dTup (daCons (dC (tx "a")) (daCons (dC (.bl true)) daNil))) daNil)))))))))))))
def wrongL : List W := [tx "A", tx "", tx "a b", tx "a1", tx "-", .int ((10 : Int) ^ (12 : Int).toNat), .int (0 - (10 : Int) ^ (12 : Int).toNat), .bl true, .lst [tx "a"], .tup [tx "a", .lst [tx "b"]], .tup [tx "a", tx "B"], nest 60 (tx "a"), .tup [tx "a", .bl true]]
theorem wrong_no : (wrongL.all noValue) = true := by decide +kernel
theorem wrong_D : (allD wrongL && decide (wrongL.length ≤ sizeMax)) = true := by decide +kernel
theorem nestE {k n : Nat} {env : Vi.Env} {s : Vi.S} (hn : n ≤ 1000) : dCall 18 [.inl 0, .inl 1] (daCons (dC (.int (n : Nat))) (daCons (dC (tx "a")) daNil)) (ctAt pg (k + 1)) env s = .ok (nest n (tx "a")) s :=
  call2_ok (x := .int (n : Nat)) (y := tx "a") (s1 := s) (s2 := s) rfl rfl (nested hn (by decide +kernel) s)
theorem wrong_ok {k : Nat} {env : Vi.Env} {s : Vi.S} : wrongA (ctAt pg (k + 1)) env s = .ok wrongL s := by
  have ne := nestE (k := k) (n := 60) (env := env) (s := s) (by decide)
  exact cons_ok rfl (cons_ok rfl (cons_ok rfl (cons_ok rfl (cons_ok rfl (cons_ok rfl (cons_ok rfl (cons_ok rfl (cons_ok rfl (cons_ok rfl (cons_ok rfl (cons_ok ne (cons_ok rfl rfl))))))))))))
abbrev oddA : DA := (daCons (dC .non) (daCons (dC (.int 5)) (daCons (dC (tx "")) (daCons (dC (tx " ")) (daCons (dC (tx "A")) (daCons (dC (tx "a b")) (daCons (dC (tx "01")) (daCons (dC (tx "-0")) (daCons (dC (tx "--1")) (daCons (dC (tx "+1")) (daCons (dC (tx "1000000000000")) (daCons (dC (tx "(")) (daCons (dC (tx ")")) (daCons (dC (tx "(a")) (daCons (dC (tx "a)")) (daCons (dC (tx "(a))")) (daCons (dC (tx "( a)")) (daCons (dC (tx "(a )")) (daCons (dC (tx "(a  b)")) (daCons (dC (tx "()()")) (daCons (dC (tx "(a)(b)")) (daCons (dC (tx "a()")) (daCons (dC (tx "1a")) (daCons (dC (tx "a1")) (daCons (dC (tx "- 1")) (daCons (dC (tx "(-)-")) (daCons (dC (tx "(a\nb)")) (daCons (dC (tx "1/2")) daNil))))))))))))))))))))))))))))
def oddL : List W := [.non, .int 5, tx "", tx " ", tx "A", tx "a b", tx "01", tx "-0", tx "--1", tx "+1", tx "1000000000000", tx "(", tx ")", tx "(a", tx "a)", tx "(a))", tx "( a)", tx "(a )", tx "(a  b)", tx "()()", tx "(a)(b)", tx "a()", tx "1a", tx "a1", tx "- 1", tx "(-)-", tx "(a\nb)", tx "1/2"]
theorem odd_no : (oddL.all noText) = true := by decide +kernel
theorem odd_D : (allD oddL && decide (oddL.length ≤ sizeMax)) = true := by decide +kernel
theorem odd_ok {c : Ct} {env : Vi.Env} {s : Vi.S} : oddA c env s = .ok oddL s := by kernel_rfl
theorem body {k : Nat} {ns : List Int} (hl : ns.length ≤ 63) : ∃ s, callAt pg (k + 71) (.fn 19) [.lst (ns.map W.int)] ⟨[], []⟩ = .ok (.bl true) s := by
  have sm : sizeMax = 16777216 := rfl
  obtain ⟨gs, cs, hb⟩ := begun (k := k + 69) (ns := ns) hl
  rw [call_fn e19 rfl]
  show ∃ s, leave true ⟨[], []⟩ (b19 (ctAt pg (k + 70)) [some (.lst (nums ns)), none, none, none, none, none, none, none, none, none, none] ⟨[], [0]⟩) = _
  have c1 : sSet (dCall 8 [.inl 0] (daCons (dV 0) daNil)) (dgName 1) (ctAt pg (k + 70)) [some (.lst (nums ns)), none, none, none, none, none, none, none, none, none, none] ⟨[], [0]⟩ = .ok (.nx [some (.lst (nums ns)), some (.adr 1), none, none, none, none, none, none, none, none, none]) (mkS gs cs 0 0 [0]) :=
    set_ok (i := 1) (call1E (x := .lst (nums ns)) (s1 := ⟨[], [0]⟩) rfl hb)
  obtain ⟨o1, w1⟩ := word_loop (k := k + 67) (j := 2) (x0 := some (.lst (nums ns))) (x1 := some (.adr 1)) (x2 := none) (x3 := none) (s := mkS gs cs 0 0 [0]) wf_mk wrongL none fun w hw => act_bad (k := k + 63) (List.all_eq_true.mp wrong_no w hw)
  have c2 : sFor (diE (dLst wrongA)) (dgName 10) (wordB 2) (ctAt pg (k + 70)) [some (.lst (nums ns)), some (.adr 1), none, none, none, none, none, none, none, none, none] (mkS gs cs 0 0 [0]) = .ok (.nx [some (.lst (nums ns)), some (.adr 1), none, none, none, none, none, none, none, none, o1]) (mkS gs cs 0 0 [0]) :=
    (for_ok (each_ok (wrong_ok (k := k + 69)) wrong_D)).trans w1
  have c3 : sSet (dCall 18 [.inl 0, .inl 1] (daCons (dC (.int 59)) (daCons (dC (tx "a")) daNil))) (dgName 2) (ctAt pg (k + 70)) [some (.lst (nums ns)), some (.adr 1), none, none, none, none, none, none, none, none, o1] (mkS gs cs 0 0 [0]) = .ok (.nx [some (.lst (nums ns)), some (.adr 1), some deepV, none, none, none, none, none, none, none, o1]) (mkS gs cs 0 0 [0]) :=
    set_ok (i := 2) (nestE (k := k + 69) (n := 59) (by decide))
  generalize hE : ([some (.lst (nums ns)), some (.adr 1), some deepV, none, none, none, none, none, none, none, o1] : Vi.Env) = E
  have v2 : E[2]? = some (some deepV) := by rw [← hE]; rfl
  have A := is_text (k := k + 67) (i := 2) (b := deepE 59) (v := deepV) (env := E) (s := mkS gs cs 0 0 [0]) v2 deep59 deep_clean deep_val deep_sz deep_len
  have dV' : val deepV = true := by unfold val; rw [deep_clean, deep_ok]; rfl
  have d64 := plainW_up deepV 59 64 (by decide) (plain59 deep_val deep_clean)
  have rd := read_str (k := k + 66) (l := prL deepV) ⟨prL_ok deep_clean deep_ok, by have := deep_len; omega⟩ deep_len (mkS gs cs 0 0 [0]) wf_mk
  rw [read_back dV' deep_val] at rd
  have B : tE (d2 opNe (dCall 7 [.inl 0] (daCons (deepE 59) daNil)) (dV 2)) (ctAt pg (k + 70)) E (mkS gs cs 0 0 [0]) = .ok false (mkS gs cs 0 0 [0]) := by
    refine tE_ok (d2_ok (call1E deep59 rd) (dV_ok v2) ?_)
    rw [ne_data d64 d64, eqW_self 64 deepV d64]
    rfl
  have C : tE (d2 opNe (dCallLam 16 [.inl 0] daNil 4 []) (dTup (daCons (dC (tx "text")) (daCons (dC (.int 0)) daNil)))) (ctAt pg (k + 70)) E (mkS gs cs 0 0 [0]) = .ok false (mkS gs cs 0 0 [0]) := tE_ok (d2_ok (wordE0 (k := k + 67) (act_deep (k := k + 62)) wf_mk) noE no_ne)
  have c4 := tOr_ok (tNot_ok A) fun _ => tOr_ok B fun _ => C
  subst hE
  obtain ⟨o2, w2⟩ := word_loop (k := k + 67) (j := 3) (x0 := some (.lst (nums ns))) (x1 := some (.adr 1)) (x2 := some deepV) (x3 := none) (s := mkS gs cs 0 0 [0]) wf_mk oddL o1 fun w hw => act_no (k := k + 62) (List.all_eq_true.mp odd_no w hw)
  have c5 : sFor (diE (dLst oddA)) (dgName 10) (wordB 3) (ctAt pg (k + 70)) [some (.lst (nums ns)), some (.adr 1), some deepV, none, none, none, none, none, none, none, o1] (mkS gs cs 0 0 [0]) = .ok (.nx [some (.lst (nums ns)), some (.adr 1), some deepV, none, none, none, none, none, none, none, o2]) (mkS gs cs 0 0 [0]) :=
    (for_ok (each_ok odd_ok odd_D)).trans w2
  obtain ⟨m, hm, mb⟩ : ∃ m : Nat, ((8 : Int) + (if (10 : Int) < (ns.length : Int) then 10 else (ns.length : Int))) = (m : Nat) ∧ m ≤ 18 := by
    by_cases q : (10 : Int) < (ns.length : Int)
    · exact ⟨18, by rw [if_pos q]; rfl, Nat.le_refl _⟩
    · exact ⟨8 + ns.length, by rw [if_neg q]; omega, by omega⟩
  have ul : (upto m).length = m := by
    unfold upto
    rw [List.length_map, List.length_range]
  have di : diRange (d2 opAdd (dC (.int 8)) (d2 bMin2 (d1 bLen (dV 0)) (dC (.int 10)))) (ctAt pg (k + 70)) [some (.lst (nums ns)), some (.adr 1), some deepV, none, none, none, none, none, none, none, o2] (mkS gs cs 0 0 [0]) = .ok (.inl (upto m)) (mkS gs cs 0 0 [0]) := by
    have e : d2 opAdd (dC (.int 8)) (d2 bMin2 (d1 bLen (dV 0)) (dC (.int 10))) (ctAt pg (k + 70)) [some (.lst (nums ns)), some (.adr 1), some deepV, none, none, none, none, none, none, none, o2] (mkS gs cs 0 0 [0]) = .ok (.int (m : Nat)) (mkS gs cs 0 0 [0]) := by
      have ln : d1 bLen (dV 0) (ctAt pg (k + 70)) [some (.lst (nums ns)), some (.adr 1), some deepV, none, none, none, none, none, none, none, o2] (mkS gs cs 0 0 [0]) = .ok (.int (ns.length : Nat)) (mkS gs cs 0 0 [0]) := by
        refine d1_ok (dV_ok (w := .lst (nums ns)) rfl) ?_
        show some (W.int ((nums ns).length : Nat)) = _
        rw [List.length_map]
      refine d2_ok (s1 := mkS gs cs 0 0 [0]) (x := .int 8) rfl (d2_ok ln (s2 := mkS gs cs 0 0 [0]) (y := .int 10) rfl rfl) ?_
      show some (W.int _) = _
      rw [hm]
    unfold diRange
    rw [e]
    show (if (decide (-4611686018427387904 ≤ (m : Int)) && decide ((m : Int) ≤ (sizeMax : Nat))) = true then Res.ok (Sum.inl (upto (m : Int).toNat)) (mkS gs cs 0 0 [0]) else .bad) = _
    rw [decide_eq_true (show -4611686018427387904 ≤ (m : Int) by omega), decide_eq_true (show (m : Int) ≤ ((sizeMax : Nat) : Int) by rw [sm]; omega)]
    rfl
  obtain ⟨y3, y4, y5, y6, y7, y8, y9, gs', r', t', hlap⟩ := laps (k := k) (cs := cs) (x0 := some (.lst (nums ns))) (x2 := some deepV) (x10 := o2) (upto m) none none none none none none none gs 0 0 (Int.le_refl _) (by rw [ul]; omega)
  have c6 : sFor (diRange (d2 opAdd (dC (.int 8)) (d2 bMin2 (d1 bLen (dV 0)) (dC (.int 10))))) (dgName 3) lapB (ctAt pg (k + 70)) [some (.lst (nums ns)), some (.adr 1), some deepV, none, none, none, none, none, none, none, o2] (mkS gs cs 0 0 [0]) = .ok (.nx [some (.lst (nums ns)), some (.adr 1), some deepV, y3, y4, y5, y6, y7, y8, y9, o2]) (mkS gs' cs r' t' [0]) := (for_ok di).trans hlap
  have bd : b19 (ctAt pg (k + 70)) [some (.lst (nums ns)), none, none, none, none, none, none, none, none, none, none] ⟨[], [0]⟩ = .ok (.rt (.bl true)) (mkS gs' cs r' t' [0]) := by
    unfold b19
    rw [seq_ok c1, seq_ok c2, seq_ok c3]
    rw [seq_ok (env1 := [some (.lst (nums ns)), some (.adr 1), some deepV, none, none, none, none, none, none, none, o1]) (s1 := mkS gs cs 0 0 [0]) (by rw [if_ok c4]; rfl)]
    rw [seq_ok c5, seq_ok c6]
    exact seq_rt (ret_ok rfl)
  rw [bd]
  exact ⟨_, leave_rtG (w := .bl true) rfl (fun _ => rfl) rfl⟩
theorem plain : Plain T 100000 200 19 := fun ns h _ => body (k := 129) h
end K88
set_option Elab.async false
set_option linter.all false
set_option maxRecDepth 100000
set_option maxHeartbeats 0
namespace K88
open PySem PySem.Spec PyProof.Rows L2 Vi
theorem d0B : ((T.dts[19]?).any fun d => decide (d.ps = [("script" : Str)]) && plainD d) = true := by kernel_rfl
theorem d0 : ∃ d, T.dts[19]? = some d ∧ d.ps = [("script" : Str)] ∧ plainD d = true := by
  have h := d0B
  cases e : T.dts[19]? with
  | none =>
    rw [e] at h
    cases h
  | some d =>
    rw [e] at h
    have h : (decide (d.ps = [("script" : Str)]) && plainD d) = true := h
    rw [Bool.and_eq_true, decide_eq_true_eq] at h
    exact ⟨d, rfl, h⟩
end K88
open PySem PySem.W PySem.Calls PyProof.Rows
theorem PySem.Challenge.cw_shufflebook_k88_values_written_holds : PySem.Challenge.rw_shufflebook_k88_values_written.Holds := by
  w_on; o_law
  refine HandSHeadRun.head_any (r := OpenLaw.row PySem.Challenge.rw_shufflebook_k88_values_written) (q := view (OpenLaw.row PySem.Challenge.rw_shufflebook_k88_values_written).prog [K88.lawAt]) (H := K88.hk) (ob := K88.ob) (M := 40000) (loose := K88.loose) (d := HandSHeadRun.topDef (OpenLaw.row PySem.Challenge.rw_shufflebook_k88_values_written).prog K88.lawAt) (kwd := []) K88.ob_eq
    (by kernel_rfl) (fun s => by kernel_rfl) K88.run (by kernel_rfl) (by kernel_rfl) (by kernel_rfl) (by rfl) (by first | assumption | decide +kernel) (by decide +kernel) ⟨rfl, rfl, rfl, rfl, rfl, by decide +kernel⟩ ?hw ?hc
  case hw => w_witness2
  case hc =>
    obtain ⟨d, h1, h2, h3⟩ := K88.d0
    exact Vi.law_walk (l := PySem.Challenge.rw_shufflebook_k88_values_written) (M := K88.T) (g := 19) (x := "script") rfl rfl (by kernel_rfl) K88.law_at (by kernel_rfl) h1 h2 h3 K88.text ⟨rfl, by decide, by decide⟩ K88.plain
