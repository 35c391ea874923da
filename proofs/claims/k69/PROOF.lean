import PyProof.Rows.All
import Wide.All
import OpenK.AllK
import Wide.FinOn
import HandS.ForMost
import HandS.Exc
import HandS.Flow
import HandS.Wide
import HandS.IsInst
import HandS.TupMul
import HandS.TupAny
import HandS.TupLe
import HandS.Style
import HandS.Codes
import HandS.Lambda
import HandS.WordsExc
import HandS.Gcd
import HandS.SortInts
import KE.DataMinMax
import ObjForm.LawKit
import HandS.Zip
import HandS.Walk
import KE.GoesEnum
import HandS.TryOnly
import HandS.Nested
import HandS.ExcInit
import HandS.ExcSuper
import KE.KExcSuper
import HandS.TryMany
import HandS.ExcField
import HandS.HeadHook4
import HandS.HeadWalk
import HandS.Head2
import HandS.HeadEnd
import HandS.Head3
import PySem.Challenge.RW_onepool_k69_whole_the_most_a_keeper_lose
set_option Elab.async false
set_option maxHeartbeats 4000000
set_option linter.all false
set_option maxRecDepth 100000
/-! Mi: a small language with values told as plain data; what is wanted behind a text, reckoned by its own syntax. Our own. -/
namespace Mi

/-- plain data: lists are told as they stood (such a list is never written again); ref: a thing of the small heap; glo: a function of the module; clo: a lambda with what it caught -/
inductive D where
  | non | bl (b : Bool) | int (i : Int) | str (s : List Nat) | tup (ds : List D) | lst (ds : List D)
  | ref (n : Nat) | glo (f : Nat) | clo (k : Nat) (caps : List D) | exn (c : Nat) (ds : List D)
deriving Inhabited

inductive O where
  | lst (ds : List D) | rol (ds : List D) | dic (kvs : List (D × D)) | ins (c : Nat) (fs : List (Nat × D)) | dead
deriving Inhabited
abbrev Hd := List O
structure Ex where
  c : Nat
  ds : List D
abbrev Loc := List (Option D)

inductive Ty where
  | int | bool | str | tup | lst | cls (c : Nat)
inductive Bi where
  | add | sub | mul | div | mod | pow
deriving DecidableEq
inductive Co where
  | eq | ne | lt | le | gt | ge | is | isnot | isin | notin
deriving DecidableEq
inductive Bf where
  | len | abs | int | str | tuple | list | all | any | sum | min | max | sorted | gcd | bool
deriving DecidableEq
inductive Mt where
  | join | partition | split | isdigit | index | count | append | pop | insert | get
deriving DecidableEq
inductive Itk where
  | val | range | enum | zip | rev | items | keys
deriving DecidableEq
inductive Pat where
  | nm (i : Nat) | tp (ps : Pat) | nl | cn (p r : Pat)

inductive ME where
  | c (d : D) | g (k : Nat) | v (i : Nat)
  | nl | cn (a r : ME)
  | tup (es : ME) | lst (es : ME) | lsh (es : ME) | dic
  | neg (a : ME) | bin (o : Bi) (a b : ME) | cmp (o : Co) (a b : ME) | chn (o p : Co) (a b c : ME)
  | and (a b : ME) | or (a b : ME) | not (a : ME) | ite (t a b : ME)
  | isa (a : ME) (ts : List Ty)
  | ix (a b : ME) | slc (a lo hi : ME)
  | call (f : Nat) (es : ME) | clv (i : Nat) (es : ME) | new (c : Nat) (es : ME)
  | bf (b : Bf) (es : ME) | mt (m : Mt) (o es : ME)
  | fld (a : ME) (f : Nat) | met (o : ME) (m : Nat) (es : ME)
  | lc (p : Pat) (it cond elt : ME) (own : List Nat)
  | it1 (k : Itk) (es : ME)
  | tr (a : ME) | vl (a : ME) | sm (a : ME) | va (i : Nat) | lam (k : Nat) (caps : List Nat) | fle (i c j : Nat)

inductive MS where
  | skip | sq (a b : MS)
  | set (p : Pat) (e : ME) | setIx (o i e : ME) | setFl (o : ME) (f : Nat) (e : ME)
  | aug (i : Nat) (o : Bi) (e : ME) | augFl (o : ME) (f : Nat) (op : Bi) (e : ME)
  | exp (e : ME) | ret (e : ME) | retn
  | ifS (t : ME) (a b : MS) | whl (t : ME) (b : MS) | forS (p : Pat) (it : ME) (b : MS)
  | rais (c : Nat) (es : ME)
  | tryS (b hs : MS) | hc (c : Nat) (slot : Option Nat) (b r : MS) | hn
  | brk | cnt
  | frz (i : Nat) | kill (i : Nat)

/-! ### operations on data -/
def sizeMax : Nat := 16777216

mutual
/-- data that == compares: no things of the heap, no functions -/
def plain : D → Bool
  | .non | .bl _ | .int _ => true
  | .str s => s.all fun c => decide (c < 1114112)
  | .tup ds => plains ds
  | .lst ds => plains ds
  | .ref _ | .glo _ | .clo _ _ | .exn _ _ => false
def plains : List D → Bool
  | [] => true
  | d :: ds => plain d && plains ds
end
mutual
def depth : D → Nat
  | .tup ds => 1 + depths ds
  | .lst ds => 1 + depths ds
  | _ => 0
def depths : List D → Nat
  | [] => 0
  | d :: ds => max (depth d) (depths ds)
end
def b2i (b : Bool) : Int := if b then 1 else 0
mutual
def eqD : D → D → Bool
  | .non, .non => true
  | .bl a, .bl b => a == b
  | .bl a, .int j => b2i a == j
  | .int i, .bl b => i == b2i b
  | .int i, .int j => i == j
  | .str x, .str y => x == y
  | .tup xs, .tup ys => eqDs xs ys
  | .lst xs, .lst ys => eqDs xs ys
  | _, _ => false
def eqDs : List D → List D → Bool
  | [], [] => true
  | x :: xs, y :: ys => eqD x y && eqDs xs ys
  | _, _ => false
end
def seqOf (h : Hd) : D → Option (List D)
  | .lst ds => some ds
  | .tup ds => some ds
  | .ref n => match h[n]? with | some (.lst ds) => some ds | some (.rol ds) => some ds | _ => none
  | _ => none
def truth (h : Hd) : D → Option Bool
  | .non => some false
  | .bl b => some b
  | .int i => some (i != 0)
  | .str s => if s.length ≤ sizeMax then some (!s.isEmpty) else none
  | .tup ds => some (!ds.isEmpty)
  | .lst ds => some (!ds.isEmpty)
  | .ref n => match h[n]? with | some (.lst ds) => some (!ds.isEmpty) | some (.rol ds) => some (!ds.isEmpty) | some (.dic kvs) => some (!kvs.isEmpty) | _ => none
  | _ => none
def isTy (h : Hd) : D → Ty → Option Bool
  | .non, .cls _ => some false
  | .non, _ => some false
  | .bl _, .int | .bl _, .bool => some true
  | .bl _, _ => some false
  | .int _, .int => some true
  | .int _, _ => some false
  | .str _, .str => some true
  | .str _, _ => some false
  | .tup _, .tup => some true
  | .tup _, _ => some false
  | .lst _, .lst => some true
  | .lst _, _ => some false
  | .ref n, t => match h[n]?, t with
    | some (.lst _), .lst => some true
    | some (.lst _), _ => some false
    | _, _ => none
  | _, _ => none
def isAny (h : Hd) (d : D) : List Ty → Option Bool
  | [] => some false
  | t :: ts => match isTy h d t with
    | some true => some true
    | some false => isAny h d ts
    | none => none
/-- * : one factor below 2 ^ 64, or together below a million bits -/
def mulOk (i j : Int) : Bool := decide (i.natAbs < 18446744073709551616) || decide (j.natAbs < 18446744073709551616) || decide (i.natAbs.log2 + j.natAbs.log2 < 1000000)
/-- // : a divisor that is not 0 and small, or above 0 and below 2 ^ 9000 -/
def divOk (j : Int) : Bool := (decide (j ≠ 0) && decide (j.natAbs < 1073741824)) || (decide (0 < j) && decide (j.natAbs.log2 < 9000))
def repL {α : Type} (xs : List α) (k : Nat) : List α := (List.replicate k xs).flatten
def opB (h : Hd) : Bi → D → D → Option D
  | .add, .int i, .int j => some (.int (i + j))
  | .add, .str x, .str y => if x.length + y.length ≤ sizeMax then some (.str (x ++ y)) else none
  | .add, .tup x, .tup y => if x.length + y.length ≤ sizeMax then some (.tup (x ++ y)) else none
  | .add, .lst x, .lst y => if x.length + y.length ≤ sizeMax then some (.lst (x ++ y)) else none
  | .sub, .int i, .int j => some (.int (i - j))
  | .mul, .int i, .int j => if mulOk i j then some (.int (i * j)) else none
  | .mul, .str x, .int k => if 0 ≤ k ∧ k < 9223372036854775808 ∧ x.length * k.toNat ≤ sizeMax then some (.str (repL x k.toNat)) else none
  | .mul, .lst x, .int k => if 0 ≤ k ∧ k < 9223372036854775808 ∧ x.length * k.toNat ≤ sizeMax then some (.lst (repL x k.toNat)) else none
  | .mul, .tup x, .int k => if 2 ≤ k ∧ k ≤ 1000 ∧ x ≠ [] ∧ x.length ≤ 1000 then some (.tup (repL x k.toNat)) else none
  | .div, .int i, .int j => if divOk j then some (.int (i.fdiv j)) else none
  | .mod, .int i, .int j => if j ≠ 0 then some (.int (i.fmod j)) else none
  | .pow, .int i, .int j => if 0 ≤ j ∧ j ≤ 1000000 ∧ i.natAbs < 18446744073709551616 then some (.int (i ^ j.toNat)) else none
  | _, _, _ => none
def deepOk (d : D) : Bool := plain d && decide (depth d ≤ 60)
def flatD : D → Bool
  | .non | .bl _ | .int _ | .str _ => true
  | _ => false
/-- texts beside other flat things -/
def strSide : D → D → Bool
  | .str _, .str _ | .str _, .non | .str _, .int _ | .str _, .bl _ | .non, .str _ | .int _, .str _ | .bl _, .str _ => true
  | _, _ => false
def isNon : D → Option Bool
  | .non => some true
  | .bl _ | .int _ | .str _ | .tup _ | .lst _ | .ref _ => some false
  | _ => none
def isBl (b : Bool) : D → Option Bool
  | .bl a => some (a == b)
  | .non | .int _ | .str _ | .tup _ | .lst _ | .ref _ => some false
  | _ => none
def eqC (x y : D) : Option Bool := if (deepOk x && deepOk y) || strSide x y then some (eqD x y) else none
def inC (h : Hd) (x y : D) : Option Bool := match x, y with
  | .str [c], .str t => some (decide (c ∈ t))
  | x, y => match seqOf h y with
    | some ds => if flatD x && ds.all flatD then some (ds.any fun d => eqD d x) else none
    | none => none
def opC (h : Hd) : Co → D → D → Option Bool
  | .eq, x, y => eqC x y
  | .ne, x, y => (eqC x y).map not
  | .lt, x, y => (match x, y with
    | .int i, .int j => some (decide (i < j))
    | .str x, .str y => some (decide (x < y))
    | _, _ => none)
  | .le, x, y => (match x, y with
    | .int i, .int j => some (decide (i ≤ j))
    | .str x, .str y => some (!decide (y < x))
    | _, _ => none)
  | .gt, .int i, .int j => some (decide (j < i))
  | .ge, .int i, .int j => some (decide (j ≤ i))
  | .is, x, y => (match y with | .non => isNon x | .bl b => isBl b x | _ => none)
  | .isnot, x, y => (match y with | .non => (isNon x).map not | .bl b => (isBl b x).map not | _ => none)
  | .isin, x, y => inC h x y
  | .notin, x, y => (inC h x y).map not
  | _, _, _ => none
def ixAt (n : Nat) (i : Int) : Option Nat := if 0 ≤ i then (if i < n then some i.toNat else none) else if -(n : Int) ≤ i then some (i + n).toNat else none
def ixD (h : Hd) (x i : D) : Option D := match x, i with
  | .str s, .int k => if s.length ≤ sizeMax then (ixAt s.length k).bind fun j => (s[j]?).map fun c => .str [c] else none
  | x, .int k => match seqOf h x with
    | some ds => (ixAt ds.length k).bind fun j => ds[j]?
    | none => none
  | _, _ => none
def cutIx (n d : Nat) : Option Int → Nat
  | none => d
  | some v => if v < 0 then (v + (n : Int)).toNat else min v.toNat n
def cutL {α : Type} (xs : List α) (lo hi : Option Int) : List α := (xs.drop (cutIx xs.length 0 lo)).take (cutIx xs.length xs.length hi - cutIx xs.length 0 lo)
def slD (h : Hd) (x : D) (lo hi : Option Int) : Option D := match x with
  | .str s => if s.length ≤ sizeMax then some (.str (cutL s lo hi)) else none
  | .tup ds => some (.tup (cutL ds lo hi))
  | .lst ds => some (.lst (cutL ds lo hi))
  | .ref n => match h[n]? with | some (.lst ds) => some (.lst (cutL ds lo hi)) | some (.rol ds) => some (.lst (cutL ds lo hi)) | _ => none
  | _ => none
def lenD (h : Hd) : D → Option Nat
  | .str s => if s.length ≤ sizeMax then some s.length else none
  | x => (seqOf h x).map List.length
def textInt (i : Int) : List Nat := (toString i).toList.map Char.toNat
def allBl : List D → Option (List Bool)
  | [] => some []
  | .bl b :: ds => (allBl ds).map (b :: ·)
  | _ => none
def allInt : List D → Option (List Int)
  | [] => some []
  | .int i :: ds => (allInt ds).map (i :: ·)
  | _ => none
def allStr : List D → Option (List (List Nat))
  | [] => some []
  | .str i :: ds => (allStr ds).map (i :: ·)
  | _ => none
def joinS (sep : List Nat) : List (List Nat) → List Nat
  | [] => []
  | [x] => x
  | x :: y :: r => x ++ sep ++ joinS sep (y :: r)
def listOf : D → Option (List D)
  | .lst ds => some ds
  | _ => none
/-- the greatest, the least -/
def mxI : Int → List Int → Int
  | n, [] => n
  | n, m :: r => if n < m then mxI m r else mxI n r
def mnI : Int → List Int → Int
  | n, [] => n
  | n, m :: r => if m < n then mnI m r else mnI n r
def insI (n : Int) : List Int → List Int
  | [] => [n]
  | m :: r => if n ≤ m then n :: m :: r else m :: insI n r
def sortI : List Int → List Int
  | [] => []
  | n :: r => insI n (sortI r)
def bfD (h : Hd) : Bf → List D → Option D
  | .len, [x] => (lenD h x).map fun (n : Nat) => D.int (n : Int)
  | .abs, [.int i] => some (.int (if i < 0 then -i else i))
  | .int, [.int i] => some (.int i)
  | .int, [.bl b] => some (.int (b2i b))
  | .bool, [.bl b] => some (.bl b)
  | .str, [.int i] => if i.natAbs.log2 < 1920 then some (.str (textInt i)) else none
  | .tuple, [x] => (seqOf h x).map .tup
  | .list, [x] => (seqOf h x).map .lst
  | .all, [.lst ds] => (allBl ds).map fun bs => .bl (bs.all id)
  | .any, [.lst ds] => (allBl ds).map fun bs => .bl (bs.any id)
  | .sum, [.lst ds] => (allInt ds).map fun ns => .int ns.sum
  | .gcd, [.int i, .int j] => some (.int (Nat.gcd i.natAbs j.natAbs))
  | .max, [.int i, .int j] => some (.int (if i < j then j else i))
  | .min, [.int i, .int j] => some (.int (if j < i then j else i))
  | .max, [.lst ds] => (allInt ds).bind fun ns => match ns with | [] => none | n :: r => some (.int (mxI n r))
  | .min, [.lst ds] => (allInt ds).bind fun ns => match ns with | [] => none | n :: r => some (.int (mnI n r))
  | .max, [.tup ds] => (allInt ds).bind fun ns => match ns with | [] => none | n :: r => some (.int (mxI n r))
  | .min, [.tup ds] => (allInt ds).bind fun ns => match ns with | [] => none | n :: r => some (.int (mnI n r))
  | .sorted, [.lst ds] => (allInt ds).map fun ns => .lst ((sortI ns).map .int)
  | _, _ => none
def mtD (h : Hd) : Mt → D → List D → Option D
  | .join, .str s, [.lst ds] => (allStr ds).bind fun xs => if (xs.map List.length).sum + xs.length * s.length ≤ sizeMax then some (.str (joinS s xs)) else none
  | _, _, _ => none

/-! ### what a pattern takes, what is walked -/
mutual
def bindP : Pat → D → Loc → Option Loc
  | .nm i, d, ρ => if i < ρ.length then some (ρ.set i (some d)) else none
  | .tp ps, d, ρ => match d with | .tup ds => bindPs ps ds ρ | .lst ds => bindPs ps ds ρ | _ => none
  | .nl, _, _ => none
  | .cn _ _, _, _ => none
def bindPs : Pat → List D → Loc → Option Loc
  | .nl, [], ρ => some ρ
  | .cn p r, d :: ds, ρ => match bindP p d ρ with | some ρ' => bindPs r ds ρ' | none => none
  | _, _, _ => none
end
def rangeD (lo : Int) : Nat → List D
  | 0 => []
  | n + 1 => .int lo :: rangeD (lo + 1) n
def enumD (k : Int) : List D → List D
  | [] => []
  | d :: ds => .tup [.int k, d] :: enumD (k + 1) ds
def zipD : List D → List D → List D
  | x :: xs, y :: ys => .tup [x, y] :: zipD xs ys
  | _, _ => []
def smallR (i : Int) : Bool := decide (-(4611686018427387904) ≤ i) && decide (i < 4611686018427387904)
/-- what is walked, item by item -/
def walkV (h : Hd) : D → Option (List D)
  | .str s => some (s.map fun c => .str [c])
  | x => seqOf h x
def walkD (h : Hd) : Itk → List D → Option (List D)
  | .val, [x] => walkV h x
  | .range, [.int j] => if smallR j then some (rangeD 0 j.toNat) else none
  | .range, [.int i, .int j] => if smallR i && smallR j then some (rangeD i (j - i).toNat) else none
  | .enum, [x] => (walkV h x).map (enumD 0)
  | .zip, [.lst x, .lst y] => some (zipD x y)
  | .zip, [.tup x, .tup y] => some (zipD x y)
  | _, _ => none
/-- the things of the heap that are walked stay while they are -/
def stays (h : Hd) : List D → Hd → Prop
  | [], _ => True
  | .ref n :: ds, h' => h'[n]? = h[n]? ∧ stays h ds h'
  | _ :: ds, h' => stays h ds h'

/-! ### what is wanted -/
abbrev KD := D → Hd → Prop
abbrev KX := Ex → Hd → Prop
structure Gam where
  gc : Nat → D
  cf : Nat → List D → Hd → KD → KX → Prop
  cl : Nat → List D → List D → Hd → KD → KX → Prop
  nw : Nat → List D → Hd → KD → KX → Prop
  me : Nat → Nat → List D → Hd → KD → KX → Prop
def isClo : D → Bool
  | .clo _ _ => true
  | .exn _ _ => true
  | _ => false
mutual
def noX : D → Bool
  | .exn _ _ => false
  | .clo _ ds => noXs ds
  | .non | .bl _ | .int _ | .str _ | .tup _ | .lst _ | .ref _ | .glo _ => true
def noXs : List D → Bool
  | [] => true
  | d :: ds => noX d && noXs ds
end
def noXL (ρ : Loc) : Bool := ρ.all fun o => match o with | some d => noX d | none => true
def getL (ρ : Loc) (i : Nat) : Option D := match ρ[i]? with | some (some d) => some d | _ => none
def getLs (ρ : Loc) : List Nat → Option (List D)
  | [] => some []
  | i :: is => match getL ρ i, getLs ρ is with | some d, some ds => some (d :: ds) | _, _ => none
def fldD (fs : List (Nat × D)) (f : Nat) : Option D := fs.lookup f
def putD (f : Nat) (d : D) : List (Nat × D) → List (Nat × D)
  | [] => [(f, d)]
  | (g, x) :: r => if g = f then (g, d) :: r else (g, x) :: putD f d r
/-- lambdas that are at hand are not called within a comprehension -/
def noClo (ρ : Loc) : Loc := ρ.map fun o => match o with | some d => if isClo d then none else some d | none => none
def wipeL (ρ : Loc) : List Nat → Loc
  | [] => ρ
  | i :: is => (wipeL ρ is).set i none
/-- the items that a comprehension gives -/
def compL (step : D → Hd → (Option D → Hd → Prop) → Prop) (st : Hd → Prop) : List D → Hd → (List D → Hd → Prop) → Prop
  | [], h, K => st h ∧ K [] h
  | d :: ds, h, K => st h ∧ step d h fun r h' => compL step st ds h' fun rs h'' => K (r.toList ++ rs) h''
def forL (step : D → Loc → Hd → (Loc → Hd → Prop) → Prop) (st : Hd → Prop) : List D → Loc → Hd → (Loc → Hd → Prop) → Prop
  | [], ρ, h, K => st h ∧ K ρ h
  | d :: ds, ρ, h, K => st h ∧ step d ρ h fun ρ' h' => forL step st ds ρ' h' K
def whlN (test : Loc → Hd → (Bool → Hd → Prop) → Prop) (body : Loc → Hd → (Loc → Hd → Prop) → Prop) : Nat → Loc → Hd → (Loc → Hd → Prop) → Prop
  | 0, _, _, _ => False
  | n + 1, ρ, h, K => test ρ h fun b h' => if b = true then body ρ h' fun ρ' h'' => whlN test body n ρ' h'' K else K ρ h'
def optI : D → Option (Option Int)
  | .int i => some (some i)
  | _ => none

/-! ### small words -/
def opt {α : Type} (o : Option α) (P : α → Prop) : Prop := match o with | some z => P z | none => False
def tri (o : Option Bool) (A B : Prop) : Prop := match o with | some true => A | some false => B | none => False
def onI (x : D) (P : Int → Prop) : Prop := match x with | .int i => P i | _ => False
def onR (x : D) (P : Nat → Prop) : Prop := match x with | .ref n => P n | _ => False
def onF (x : D) (P : Nat → List D → Prop) (P' : Nat → Prop) : Prop := match x with | .clo k cs => P k cs | .glo f => P' f | _ => False
def onX (x : D) (P : Nat → List D → Prop) : Prop := match x with | .exn c ds => P c ds | _ => False
def onL (h : Hd) (n : Nat) (P : List D → Prop) : Prop := match h[n]? with | some (.lst xs) => P xs | _ => False
def onO (h : Hd) (n : Nat) (P : Nat → List (Nat × D) → Prop) : Prop := match h[n]? with | some (.ins c fs) => P c fs | _ => False
/-- the value has that method -/
def mtTy (h : Hd) : Mt → D → Bool
  | .append, .ref n => match h[n]? with | some (.lst _) => true | _ => false
  | .append, _ => false
  | _, .str _ => true
  | _, _ => false
/-- a method of a built-in type -/
def mtW (h : Hd) (m : Mt) (x : D) (ds : List D) (Q : D → Hd → Prop) : Prop := match m, ds with
  | .append, [y] => onR x fun n => onL h n fun xs => xs.length < sizeMax ∧ Q .non (h.set n (.lst (xs ++ [y])))
  | m, ds => opt (mtD h m x ds) fun z => Q z h
def augW (h : Hd) (o : Bi) (x y : D) (ρ : Loc) (i : Nat) (N : Loc → Hd → Prop) : Prop := match x, y with
  | .ref n, .lst ys => o = .add ∧ onL h n fun xs => xs.length + ys.length ≤ sizeMax ∧ N ρ (h.set n (.lst (xs ++ ys)))
  | .int a, .int b => (o = .add ∧ N (ρ.set i (some (.int (a + b)))) h) ∨ (o = .sub ∧ N (ρ.set i (some (.int (a - b)))) h)
  | _, _ => False
def setW (h : Hd) (x y d : D) (N : Hd → Prop) : Prop := onR x fun n => onI y fun k => onL h n fun xs => opt (ixAt xs.length k) fun j => N (h.set n (.lst (xs.set j d)))

mutual
def wE (G : Gam) : ME → Loc → Hd → KD → KX → Prop
  | .c d, _, h, Q, _ => Q d h
  | .g k, _, h, Q, _ => Q (G.gc k) h
  | .v i, ρ, h, Q, _ => opt (getL ρ i) fun d => isClo d = false ∧ Q d h
  | .nl, _, _, _, _ => False
  | .cn _ _, _, _, _, _ => False
  | .tup es, ρ, h, Q, X => wEs G es ρ h (fun ds h => ds.length ≤ sizeMax ∧ Q (.tup ds) h) X
  | .lst es, ρ, h, Q, X => wEs G es ρ h (fun ds h => ds.length ≤ sizeMax ∧ Q (.lst ds) h) X
  | .lsh es, ρ, h, Q, X => wEs G es ρ h (fun ds h => ds.length ≤ sizeMax ∧ Q (.ref h.length) (h ++ [.lst ds])) X
  | .dic, _, h, Q, _ => Q (.ref h.length) (h ++ [.dic []])
  | .neg a, ρ, h, Q, X => wE G a ρ h (fun x h => onI x fun i => Q (.int (-i)) h) X
  | .bin o a b, ρ, h, Q, X => wE G a ρ h (fun x h => wE G b ρ h (fun y h => opt (opB h o x y) fun z => Q z h) X) X
  | .cmp o a b, ρ, h, Q, X => wE G a ρ h (fun x h => wE G b ρ h (fun y h => opt (opC h o x y) fun z => Q (.bl z) h) X) X
  | .chn o p a b c, ρ, h, Q, X => wE G a ρ h (fun x h => wE G b ρ h (fun y h => tri (opC h o x y) (wE G c ρ h (fun z h => opt (opC h p y z) fun r => Q (.bl r) h) X) (Q (.bl false) h)) X) X
  | .and a b, ρ, h, Q, X => wE G a ρ h (fun x h => tri (truth h x) (wE G b ρ h Q X) (Q x h)) X
  | .or a b, ρ, h, Q, X => wE G a ρ h (fun x h => tri (truth h x) (Q x h) (wE G b ρ h Q X)) X
  | .not a, ρ, h, Q, X => wE G a ρ h (fun x h => opt (truth h x) fun b => Q (.bl (!b)) h) X
  | .ite t a b, ρ, h, Q, X => wT G t ρ h (fun c h => if c = true then wE G a ρ h Q X else wE G b ρ h Q X) X
  | .isa a ts, ρ, h, Q, X => wE G a ρ h (fun x h => opt (isAny h x ts) fun b => Q (.bl b) h) X
  | .ix a b, ρ, h, Q, X => wE G a ρ h (fun x h => wE G b ρ h (fun y h => opt (ixD h x y) fun z => Q z h) X) X
  | .slc a lo hi, ρ, h, Q, X => wE G a ρ h (fun x h => wO G lo ρ h (fun l h => wO G hi ρ h (fun u h => opt (slD h x l u) fun z => Q z h) X) X) X
  | .call f es, ρ, h, Q, X => wAs G es ρ h (fun ds h => G.cf f ds h Q X) X
  | .clv i es, ρ, h, Q, X => opt (getL ρ i) fun x => onF x (fun k caps => noXs caps = true ∧ wAs G es ρ h (fun ds h => G.cl k caps ds h Q X) X) (fun f => wAs G es ρ h (fun ds h => G.cf f ds h Q X) X)
  | .new c es, ρ, h, Q, X => wEs G es ρ h (fun ds h => G.nw c ds h Q X) X
  | .bf b es, ρ, h, Q, X => wEs G es ρ h (fun ds h => opt (bfD h b ds) fun z => Q z h) X
  | .mt m o es, ρ, h, Q, X => wE G o ρ h (fun x h => mtTy h m x = true ∧ wEs G es ρ h (fun ds h => mtW h m x ds Q) X) X
  | .fld a f, ρ, h, Q, X => wE G a ρ h (fun x h => onR x fun n => onO h n fun _ fs => opt (fldD fs f) fun d => Q d h) X
  | .met o m es, ρ, h, Q, X => wE G o ρ h (fun x h => onR x fun n => onO h n fun c _ => wEs G es ρ h (fun ds h => G.me c m (.ref n :: ds) h Q X) X) X
  | .lc p it cond elt own, ρ, h, Q, X => wI G it ρ h (fun items st h =>
      items.length ≤ sizeMax ∧ compL (fun d h K => opt (bindP p d (wipeL (noClo ρ) own)) fun ρ' =>
        wT G cond ρ' h (fun b h => if b = true then wE G elt ρ' h (fun y h => K (some y) h) (fun _ _ => False) else K none h) (fun _ _ => False)) st items h fun ds h => Q (.lst ds) h) X
  | .it1 _ _, _, _, _, _ => False
  | .tr _, _, _, _, _ => False
  | .vl _, _, _, _, _ => False
  | .sm _, _, _, _, _ => False
  | .va _, _, _, _, _ => False
  | .lam _ _, _, _, _, _ => False
  | .fle i c j, ρ, h, Q, _ => opt (getL ρ i) fun x => onX x fun c' ds => c' = c ∧ opt ds[j]? fun d => Q d h
/-- as a test -/
def wT (G : Gam) : ME → Loc → Hd → (Bool → Hd → Prop) → KX → Prop
  | .and a b, ρ, h, Q, X => wT G a ρ h (fun c h => if c = true then wT G b ρ h Q X else Q false h) X
  | .or a b, ρ, h, Q, X => wT G a ρ h (fun c h => if c = true then Q true h else wT G b ρ h Q X) X
  | .not a, ρ, h, Q, X => wT G a ρ h (fun c h => Q (!c) h) X
  | .ite t a b, ρ, h, Q, X => wT G t ρ h (fun c h => if c = true then wT G a ρ h Q X else wT G b ρ h Q X) X
  | .cmp o a b, ρ, h, Q, X => wE G a ρ h (fun x h => wE G b ρ h (fun y h => opt (opC h o x y) fun z => Q z h) X) X
  | .chn o p a b c, ρ, h, Q, X => wE G a ρ h (fun x h => wE G b ρ h (fun y h => tri (opC h o x y) (wE G c ρ h (fun z h => opt (opC h p y z) fun r => Q r h) X) (Q false h)) X) X
  | .tr e, ρ, h, Q, X => wE G e ρ h (fun x h => opt (truth h x) fun b => Q b h) X
  | _, _, _, _, _ => False
/-- rows of things -/
def wEs (G : Gam) : ME → Loc → Hd → (List D → Hd → Prop) → KX → Prop
  | .nl, _, h, Q, _ => Q [] h
  | .cn a r, ρ, h, Q, X => wE G a ρ h (fun x h => wEs G r ρ h (fun xs h => Q (x :: xs) h) X) X
  | _, _, _, _, _ => False
/-- rows of what is handed to a def: lambdas too -/
def wAs (G : Gam) : ME → Loc → Hd → (List D → Hd → Prop) → KX → Prop
  | .nl, _, h, Q, _ => Q [] h
  | .cn a r, ρ, h, Q, X => wA1 G a ρ h (fun x h => wAs G r ρ h (fun xs h => Q (x :: xs) h) X) X
  | _, _, _, _, _ => False
def wA1 (G : Gam) : ME → Loc → Hd → KD → KX → Prop
  | .lam k js, ρ, h, Q, _ => opt (getLs ρ js) fun ds => noXs ds = true ∧ Q (.clo k ds) h
  | .va i, ρ, h, Q, _ => opt (getL ρ i) fun d => noX d = true ∧ Q d h
  | .vl e, ρ, h, Q, X => wE G e ρ h Q X
  | _, _, _, _, _ => False
/-- a part of a slice -/
def wO (G : Gam) : ME → Loc → Hd → (Option Int → Hd → Prop) → KX → Prop
  | .nl, _, h, Q, _ => Q none h
  | .sm e, ρ, h, Q, X => wE G e ρ h (fun x h => onI x fun i => Q (some i) h) X
  | _, _, _, _, _ => False
/-- what is walked -/
def wI (G : Gam) : ME → Loc → Hd → (List D → (Hd → Prop) → Hd → Prop) → KX → Prop
  | .it1 k es, ρ, h, Q, X => wEs G es ρ h (fun ds h => opt (walkD h k ds) fun items => Q items (stays h ds) h) X
  | _, _, _, _, _ => False
end

structure En where
  nx : Loc → Hd → Prop
  rt : KD
  bk : Loc → Hd → Prop
  ct : Loc → Hd → Prop
  ex : Loc → KX

mutual
def wS (G : Gam) : MS → Loc → Hd → En → Prop
  | .skip, ρ, h, K => K.nx ρ h
  | .sq a b, ρ, h, K => wS G a ρ h { K with nx := fun ρ h => wS G b ρ h K }
  | .set p e, ρ, h, K => wE G e ρ h (fun d h => opt (bindP p d ρ) fun ρ' => K.nx ρ' h) (K.ex ρ)
  | .setIx o i e, ρ, h, K => wE G e ρ h (fun d h => wE G o ρ h (fun x h => wE G i ρ h (fun y h => setW h x y d fun h => K.nx ρ h) (K.ex ρ)) (K.ex ρ)) (K.ex ρ)
  | .setFl o f e, ρ, h, K => wE G e ρ h (fun d h => wE G o ρ h (fun x h => onR x fun n => onO h n fun c fs => fs.length < 1000 ∧ K.nx ρ (h.set n (.ins c (putD f d fs)))) (K.ex ρ)) (K.ex ρ)
  | .aug i o e, ρ, h, K => opt (getL ρ i) fun x => isClo x = false ∧ wE G e ρ h (fun y h => augW h o x y ρ i K.nx) (K.ex ρ)
  | .augFl _ _ _ _, _, _, _ => False
  | .exp e, ρ, h, K => wE G e ρ h (fun _ h => K.nx ρ h) (K.ex ρ)
  | .ret e, ρ, h, K => wE G e ρ h K.rt (K.ex ρ)
  | .retn, _, h, K => K.rt .non h
  | .ifS t a b, ρ, h, K => wT G t ρ h (fun c h => if c = true then wS G a ρ h K else wS G b ρ h K) (K.ex ρ)
  | .whl t b, ρ, h, K => ∃ n, whlN (fun ρ h Q => wT G t ρ h Q (K.ex ρ)) (fun ρ h N => wS G b ρ h { K with nx := N, ct := N, bk := K.nx }) n ρ h K.nx
  | .forS p it b, ρ, h, K => wI G it ρ h (fun items st h =>
      forL (fun d ρ h N => opt (bindP p d ρ) fun ρ' => wS G b ρ' h { K with nx := N, ct := N, bk := K.nx }) st items ρ h K.nx) (K.ex ρ)
  | .rais c es, ρ, h, K => wEs G es ρ h (fun ds h => G.nw c ds h (fun _ _ => False) (K.ex ρ)) (K.ex ρ)
  | .tryS b hs, ρ, h, K => wS G b ρ h { K with ex := fun ρ x h => wH G hs x ρ h K }
  | .hc _ _ _ _, _, _, _ => False
  | .hn, _, _, _ => False
  | .brk, ρ, h, K => K.bk ρ h
  | .cnt, ρ, h, K => K.ct ρ h
  | .frz i, ρ, h, K => opt (getL ρ i) fun x => onR x fun n => onL h n fun xs => K.nx (ρ.set i (some (.lst xs))) (h.set n .dead)
  | .kill i, ρ, h, K => opt (getL ρ i) fun x => onR x fun n => K.nx (ρ.set i none) (h.set n .dead)
/-- the clauses: an error of the class c, its fields at hand -/
def wH (G : Gam) : MS → Ex → Loc → Hd → En → Prop
  | .hc c s b r, x, ρ, h, K => if x.c = c then (match s with
        | some i => i < ρ.length ∧ wS G b (ρ.set i (some (.exn x.c x.ds))) h { K with ex := fun _ _ _ => False, nx := fun ρ h => noXL (ρ.set i none) = true ∧ K.nx (ρ.set i none) h, bk := fun ρ h => noXL (ρ.set i none) = true ∧ K.bk (ρ.set i none) h, ct := fun ρ h => noXL (ρ.set i none) = true ∧ K.ct (ρ.set i none) h }
        | none => wS G b ρ h { K with ex := fun _ _ _ => False })
      else wH G r x ρ h K
  | .hn, x, ρ, h, K => K.ex ρ x h
  | _, _, _, _, _ => False
end

structure Fn where
  np : Nat
  nl : Nat
  body : MS
structure La where
  np : Nat
  dfl : List D
  body : ME
structure Prg where
  gc : List D
  cls : List Nat
  fns : List Fn
  las : List La
def startL (n : Nat) (ds : List D) : Loc := ds.map some ++ List.replicate (n - ds.length) none
/-- calls n deep -/
def callN (P : Prg) : Nat → Gam
  | 0 => { gc := fun k => P.gc.getD k .non, cf := fun _ _ _ _ _ => False, cl := fun _ _ _ _ _ _ => False, nw := fun _ _ _ _ _ => False, me := fun _ _ _ _ _ _ => False }
  | n + 1 =>
    { gc := fun k => P.gc.getD k .non
      cf := fun f ds h Q X => opt P.fns[f]? fun F => ds.length = F.np ∧ wS (callN P n) F.body (startL F.nl ds) h { nx := fun _ h => Q .non h, rt := Q, bk := fun _ _ => False, ct := fun _ _ => False, ex := fun _ => X }
      cl := fun k caps ds h Q X => opt P.las[k]? fun L => (ds ++ L.dfl.drop (ds.length + L.dfl.length - L.np)).length = L.np ∧ wE (callN P n) L.body ((ds ++ L.dfl.drop (ds.length + L.dfl.length - L.np) ++ caps).map some) h Q X
      nw := fun c ds h _ X => opt P.cls[c]? fun m => ds.length = m ∧ X ⟨c, ds⟩ h
      me := fun _ _ _ _ _ _ => False }
end Mi
set_option maxHeartbeats 4000000
set_option linter.all false
set_option maxRecDepth 100000
/-! Mi: what is wanted may be weakened. -/
namespace Mi

structure GMono (G : Gam) : Prop where
  cf : ∀ f ds h (Q Q' : KD) (X X' : KX), (∀ d h, Q d h → Q' d h) → (∀ x h, X x h → X' x h) → G.cf f ds h Q X → G.cf f ds h Q' X'
  cl : ∀ k cs ds h (Q Q' : KD) (X X' : KX), (∀ d h, Q d h → Q' d h) → (∀ x h, X x h → X' x h) → G.cl k cs ds h Q X → G.cl k cs ds h Q' X'
  nw : ∀ k ds h (Q Q' : KD) (X X' : KX), (∀ d h, Q d h → Q' d h) → (∀ x h, X x h → X' x h) → G.nw k ds h Q X → G.nw k ds h Q' X'
  me : ∀ k m ds h (Q Q' : KD) (X X' : KX), (∀ d h, Q d h → Q' d h) → (∀ x h, X x h → X' x h) → G.me k m ds h Q X → G.me k m ds h Q' X'

theorem compL_mono {step step' : D → Hd → (Option D → Hd → Prop) → Prop} {st : Hd → Prop} (hs : ∀ d h K K', (∀ r h, K r h → K' r h) → step d h K → step' d h K') :
    ∀ (ds : List D) (h : Hd) (K K' : List D → Hd → Prop), (∀ r h, K r h → K' r h) → compL step st ds h K → compL step' st ds h K'
  | [], h, K, K', hk, w => ⟨w.1, hk _ _ w.2⟩
  | d :: ds, h, K, K', hk, w => ⟨w.1, hs d h _ _ (fun r h' q => compL_mono hs ds h' _ _ (fun rs h'' q' => hk _ _ q') q) w.2⟩
theorem forL_mono {step step' : D → Loc → Hd → (Loc → Hd → Prop) → Prop} {st : Hd → Prop} (hs : ∀ d ρ h N N', (∀ ρ h, N ρ h → N' ρ h) → step d ρ h N → step' d ρ h N') :
    ∀ (ds : List D) (ρ : Loc) (h : Hd) (K K' : Loc → Hd → Prop), (∀ ρ h, K ρ h → K' ρ h) → forL step st ds ρ h K → forL step' st ds ρ h K'
  | [], ρ, h, K, K', hk, w => ⟨w.1, hk _ _ w.2⟩
  | d :: ds, ρ, h, K, K', hk, w => ⟨w.1, hs d ρ h _ _ (fun ρ' h' q => forL_mono hs ds ρ' h' _ _ hk q) w.2⟩
theorem whlN_mono {t t' : Loc → Hd → (Bool → Hd → Prop) → Prop} {b b' : Loc → Hd → (Loc → Hd → Prop) → Prop} (ht : ∀ ρ h K K', (∀ c h, K c h → K' c h) → t ρ h K → t' ρ h K') (hb : ∀ ρ h N N', (∀ ρ h, N ρ h → N' ρ h) → b ρ h N → b' ρ h N') :
    ∀ (n : Nat) (ρ : Loc) (h : Hd) (K K' : Loc → Hd → Prop), (∀ ρ h, K ρ h → K' ρ h) → whlN t b n ρ h K → whlN t' b' n ρ h K'
  | 0, _, _, _, _, _, w => w.elim
  | n + 1, ρ, h, K, K', hk, w => ht ρ h _ _ (fun c h' q => by
      cases c with
      | true =>
        rw [if_pos rfl] at q ⊢
        exact hb ρ h' _ _ (fun ρ' h'' q' => whlN_mono ht hb n ρ' h'' _ _ hk q') q
      | false =>
        rw [if_neg Bool.false_ne_true] at q ⊢
        exact hk _ _ q) w

def MoE (G : Gam) (e : ME) : Prop := ∀ ρ h (Q Q' : KD) (X X' : KX), (∀ d h, Q d h → Q' d h) → (∀ x h, X x h → X' x h) → wE G e ρ h Q X → wE G e ρ h Q' X'
def MoT (G : Gam) (e : ME) : Prop := ∀ ρ h (Q Q' : Bool → Hd → Prop) (X X' : KX), (∀ d h, Q d h → Q' d h) → (∀ x h, X x h → X' x h) → wT G e ρ h Q X → wT G e ρ h Q' X'
def MoEs (G : Gam) (e : ME) : Prop := ∀ ρ h (Q Q' : List D → Hd → Prop) (X X' : KX), (∀ d h, Q d h → Q' d h) → (∀ x h, X x h → X' x h) → wEs G e ρ h Q X → wEs G e ρ h Q' X'
def MoAs (G : Gam) (e : ME) : Prop := ∀ ρ h (Q Q' : List D → Hd → Prop) (X X' : KX), (∀ d h, Q d h → Q' d h) → (∀ x h, X x h → X' x h) → wAs G e ρ h Q X → wAs G e ρ h Q' X'
def MoA1 (G : Gam) (e : ME) : Prop := ∀ ρ h (Q Q' : KD) (X X' : KX), (∀ d h, Q d h → Q' d h) → (∀ x h, X x h → X' x h) → wA1 G e ρ h Q X → wA1 G e ρ h Q' X'
def MoO (G : Gam) (e : ME) : Prop := ∀ ρ h (Q Q' : Option Int → Hd → Prop) (X X' : KX), (∀ d h, Q d h → Q' d h) → (∀ x h, X x h → X' x h) → wO G e ρ h Q X → wO G e ρ h Q' X'
def MoI (G : Gam) (e : ME) : Prop := ∀ ρ h (Q Q' : List D → (Hd → Prop) → Hd → Prop) (X X' : KX), (∀ d s h, Q d s h → Q' d s h) → (∀ x h, X x h → X' x h) → wI G e ρ h Q X → wI G e ρ h Q' X'
structure Mo (G : Gam) (m : ME) : Prop where
  e : MoE G m
  t : MoT G m
  es : MoEs G m
  as : MoAs G m
  a1 : MoA1 G m
  o : MoO G m
  i : MoI G m

section
variable {G : Gam}
theorem opt_mono {α : Type} {o : Option α} {P P' : α → Prop} (h : ∀ a, P a → P' a) (w : opt o P) : opt o P' := by
  cases o with
  | none => exact w
  | some z => exact h z w
theorem tri_mono {o : Option Bool} {A A' B B' : Prop} (ha : A → A') (hb : B → B') (w : tri o A B) : tri o A' B' := by
  cases o with
  | none => exact w
  | some c =>
    cases c with
    | true => exact ha w
    | false => exact hb w
theorem onI_mono {x : D} {P P' : Int → Prop} (h : ∀ a, P a → P' a) (w : onI x P) : onI x P' := by
  cases x <;> first | exact h _ w | exact w
theorem onR_mono {x : D} {P P' : Nat → Prop} (h : ∀ a, P a → P' a) (w : onR x P) : onR x P' := by
  cases x <;> first | exact h _ w | exact w
theorem onF_mono {x : D} {P P' : Nat → List D → Prop} {R R' : Nat → Prop} (h : ∀ a b, P a b → P' a b) (h' : ∀ a, R a → R' a) (w : onF x P R) : onF x P' R' := by
  cases x <;> first | exact h _ _ w | exact h' _ w | exact w
theorem onX_mono {x : D} {P P' : Nat → List D → Prop} (h : ∀ c ds, P c ds → P' c ds) (w : onX x P) : onX x P' := by
  cases x <;> first | exact (show False from w).elim | exact h _ _ w
theorem onL_mono {h : Hd} {n : Nat} {P P' : List D → Prop} (hp : ∀ a, P a → P' a) (w : onL h n P) : onL h n P' := by
  unfold onL at w ⊢
  cases e : h[n]? with
  | none => rw [e] at w; exact w
  | some o => rw [e] at w; cases o <;> first | exact hp _ w | exact w
theorem onO_mono {h : Hd} {n : Nat} {P P' : Nat → List (Nat × D) → Prop} (hp : ∀ a b, P a b → P' a b) (w : onO h n P) : onO h n P' := by
  unfold onO at w ⊢
  cases e : h[n]? with
  | none => rw [e] at w; exact w
  | some o => rw [e] at w; cases o <;> first | exact hp _ _ w | exact w
theorem mtW_mono {h : Hd} {m : Mt} {x : D} {ds : List D} {Q Q' : KD} (hq : ∀ d h, Q d h → Q' d h) (w : mtW h m x ds Q) : mtW h m x ds Q' := by
  unfold mtW at w ⊢
  split at w
  · exact onR_mono (fun n q => onL_mono (fun xs q2 => ⟨q2.1, hq _ _ q2.2⟩) q) w
  · exact opt_mono (fun z q => hq _ _ q) w
theorem augW_mono {h : Hd} {o : Bi} {x y : D} {ρ : Loc} {i : Nat} {N N' : Loc → Hd → Prop} (hn : ∀ ρ h, N ρ h → N' ρ h) (w : augW h o x y ρ i N) : augW h o x y ρ i N' := by
  unfold augW at w ⊢
  split at w
  · exact ⟨w.1, onL_mono (fun xs q => ⟨q.1, hn _ _ q.2⟩) w.2⟩
  · exact w.imp (fun q => ⟨q.1, hn _ _ q.2⟩) (fun q => ⟨q.1, hn _ _ q.2⟩)
  · exact w.elim
theorem setW_mono {h : Hd} {x y d : D} {N N' : Hd → Prop} (hn : ∀ h, N h → N' h) (w : setW h x y d N) : setW h x y d N' :=
  onR_mono (fun n q => onI_mono (fun k q => onL_mono (fun xs q => opt_mono (fun j q => hn _ q) q) q) q) w
theorem ite_mono {c : Bool} {A A' B B' : Prop} (ha : A → A') (hb : B → B') (w : if c = true then A else B) : if c = true then A' else B' := by
  cases c with
  | true => exact ha w
  | false => exact hb w

theorem mo (hG : GMono G) : ∀ e : ME, Mo G e := by
  intro e
  induction e with
  | c d => exact ⟨fun ρ h Q Q' X X' hq hx w => hq _ _ w, fun _ _ _ _ _ _ _ _ w => False.elim w, fun _ _ _ _ _ _ _ _ w => False.elim w, fun _ _ _ _ _ _ _ _ w => False.elim w, fun _ _ _ _ _ _ _ _ w => False.elim w, fun _ _ _ _ _ _ _ _ w => False.elim w, fun _ _ _ _ _ _ _ _ w => False.elim w⟩
  | g k => exact ⟨fun ρ h Q Q' X X' hq hx w => hq _ _ w, fun _ _ _ _ _ _ _ _ w => False.elim w, fun _ _ _ _ _ _ _ _ w => False.elim w, fun _ _ _ _ _ _ _ _ w => False.elim w, fun _ _ _ _ _ _ _ _ w => False.elim w, fun _ _ _ _ _ _ _ _ w => False.elim w, fun _ _ _ _ _ _ _ _ w => False.elim w⟩
  | v i =>
    exact ⟨fun ρ h Q Q' X X' hq hx w => opt_mono (fun d q => ⟨q.1, hq _ _ q.2⟩) w, fun _ _ _ _ _ _ _ _ w => False.elim w, fun _ _ _ _ _ _ _ _ w => False.elim w, fun _ _ _ _ _ _ _ _ w => False.elim w, fun _ _ _ _ _ _ _ _ w => False.elim w, fun _ _ _ _ _ _ _ _ w => False.elim w, fun _ _ _ _ _ _ _ _ w => False.elim w⟩
  | nl => exact ⟨fun _ _ _ _ _ _ _ _ w => False.elim w, fun _ _ _ _ _ _ _ _ w => False.elim w, fun ρ h Q Q' X X' hq hx w => hq _ _ w, fun ρ h Q Q' X X' hq hx w => hq _ _ w, fun _ _ _ _ _ _ _ _ w => False.elim w, fun ρ h Q Q' X X' hq hx w => hq _ _ w, fun _ _ _ _ _ _ _ _ w => False.elim w⟩
  | cn a r ha hr =>
    refine ⟨fun _ _ _ _ _ _ _ _ w => False.elim w, fun _ _ _ _ _ _ _ _ w => False.elim w, fun ρ h Q Q' X X' hq hx w => ?_, fun ρ h Q Q' X X' hq hx w => ?_, fun _ _ _ _ _ _ _ _ w => False.elim w, fun _ _ _ _ _ _ _ _ w => False.elim w, fun _ _ _ _ _ _ _ _ w => False.elim w⟩
    · exact ha.e ρ h _ _ X X' (fun x h1 q => hr.es ρ h1 _ _ X X' (fun xs h2 q2 => hq _ _ q2) hx q) hx w
    · exact ha.a1 ρ h _ _ X X' (fun x h1 q => hr.as ρ h1 _ _ X X' (fun xs h2 q2 => hq _ _ q2) hx q) hx w
  | tup es he => exact ⟨fun ρ h Q Q' X X' hq hx w => he.es ρ h _ _ X X' (by intro ds h1 q; exact ⟨q.1, hq _ _ q.2⟩) hx w, fun _ _ _ _ _ _ _ _ w => False.elim w, fun _ _ _ _ _ _ _ _ w => False.elim w, fun _ _ _ _ _ _ _ _ w => False.elim w, fun _ _ _ _ _ _ _ _ w => False.elim w, fun _ _ _ _ _ _ _ _ w => False.elim w, fun _ _ _ _ _ _ _ _ w => False.elim w⟩
  | lst es he => exact ⟨fun ρ h Q Q' X X' hq hx w => he.es ρ h _ _ X X' (by intro ds h1 q; exact ⟨q.1, hq _ _ q.2⟩) hx w, fun _ _ _ _ _ _ _ _ w => False.elim w, fun _ _ _ _ _ _ _ _ w => False.elim w, fun _ _ _ _ _ _ _ _ w => False.elim w, fun _ _ _ _ _ _ _ _ w => False.elim w, fun _ _ _ _ _ _ _ _ w => False.elim w, fun _ _ _ _ _ _ _ _ w => False.elim w⟩
  | lsh es he => exact ⟨fun ρ h Q Q' X X' hq hx w => he.es ρ h _ _ X X' (by intro ds h1 q; exact ⟨q.1, hq _ _ q.2⟩) hx w, fun _ _ _ _ _ _ _ _ w => False.elim w, fun _ _ _ _ _ _ _ _ w => False.elim w, fun _ _ _ _ _ _ _ _ w => False.elim w, fun _ _ _ _ _ _ _ _ w => False.elim w, fun _ _ _ _ _ _ _ _ w => False.elim w, fun _ _ _ _ _ _ _ _ w => False.elim w⟩
  | dic => exact ⟨fun ρ h Q Q' X X' hq hx w => hq _ _ w, fun _ _ _ _ _ _ _ _ w => False.elim w, fun _ _ _ _ _ _ _ _ w => False.elim w, fun _ _ _ _ _ _ _ _ w => False.elim w, fun _ _ _ _ _ _ _ _ w => False.elim w, fun _ _ _ _ _ _ _ _ w => False.elim w, fun _ _ _ _ _ _ _ _ w => False.elim w⟩
  | neg a ha => exact ⟨fun ρ h Q Q' X X' hq hx w => ha.e ρ h _ _ X X' (fun x h1 q => onI_mono (fun i q2 => hq _ _ q2) q) hx w, fun _ _ _ _ _ _ _ _ w => False.elim w, fun _ _ _ _ _ _ _ _ w => False.elim w, fun _ _ _ _ _ _ _ _ w => False.elim w, fun _ _ _ _ _ _ _ _ w => False.elim w, fun _ _ _ _ _ _ _ _ w => False.elim w, fun _ _ _ _ _ _ _ _ w => False.elim w⟩
  | bin o a b ha hb => exact ⟨fun ρ h Q Q' X X' hq hx w => ha.e ρ h _ _ X X' (fun x h1 q => hb.e ρ h1 _ _ X X' (fun y h2 q2 => opt_mono (fun z q3 => hq _ _ q3) q2) hx q) hx w, fun _ _ _ _ _ _ _ _ w => False.elim w, fun _ _ _ _ _ _ _ _ w => False.elim w, fun _ _ _ _ _ _ _ _ w => False.elim w, fun _ _ _ _ _ _ _ _ w => False.elim w, fun _ _ _ _ _ _ _ _ w => False.elim w, fun _ _ _ _ _ _ _ _ w => False.elim w⟩
  | cmp o a b ha hb =>
    exact ⟨fun ρ h Q Q' X X' hq hx w => ha.e ρ h _ _ X X' (fun x h1 q => hb.e ρ h1 _ _ X X' (fun y h2 q2 => opt_mono (fun z q3 => hq _ _ q3) q2) hx q) hx w,
      fun ρ h Q Q' X X' hq hx w => ha.e ρ h _ _ X X' (fun x h1 q => hb.e ρ h1 _ _ X X' (fun y h2 q2 => opt_mono (fun z q3 => hq _ _ q3) q2) hx q) hx w, fun _ _ _ _ _ _ _ _ w => False.elim w, fun _ _ _ _ _ _ _ _ w => False.elim w, fun _ _ _ _ _ _ _ _ w => False.elim w, fun _ _ _ _ _ _ _ _ w => False.elim w, fun _ _ _ _ _ _ _ _ w => False.elim w⟩
  | chn o p a b c ha hb hc =>
    exact ⟨fun ρ h Q Q' X X' hq hx w => ha.e ρ h _ _ X X' (fun x h1 q => hb.e ρ h1 _ _ X X' (fun y h2 q2 => tri_mono (fun q3 => hc.e ρ h2 _ _ X X' (fun z h3 q4 => opt_mono (fun r q5 => hq _ _ q5) q4) hx q3) (fun q3 => hq _ _ q3) q2) hx q) hx w,
      fun ρ h Q Q' X X' hq hx w => ha.e ρ h _ _ X X' (fun x h1 q => hb.e ρ h1 _ _ X X' (fun y h2 q2 => tri_mono (fun q3 => hc.e ρ h2 _ _ X X' (fun z h3 q4 => opt_mono (fun r q5 => hq _ _ q5) q4) hx q3) (fun q3 => hq _ _ q3) q2) hx q) hx w, fun _ _ _ _ _ _ _ _ w => False.elim w, fun _ _ _ _ _ _ _ _ w => False.elim w, fun _ _ _ _ _ _ _ _ w => False.elim w, fun _ _ _ _ _ _ _ _ w => False.elim w, fun _ _ _ _ _ _ _ _ w => False.elim w⟩
  | and a b ha hb =>
    exact ⟨fun ρ h Q Q' X X' hq hx w => ha.e ρ h _ _ X X' (fun x h1 q => tri_mono (fun q3 => hb.e ρ h1 _ _ X X' hq hx q3) (fun q3 => hq _ _ q3) q) hx w,
      fun ρ h Q Q' X X' hq hx w => ha.t ρ h _ _ X X' (fun c h1 q => ite_mono (fun q3 => hb.t ρ h1 _ _ X X' hq hx q3) (fun q3 => hq _ _ q3) q) hx w, fun _ _ _ _ _ _ _ _ w => False.elim w, fun _ _ _ _ _ _ _ _ w => False.elim w, fun _ _ _ _ _ _ _ _ w => False.elim w, fun _ _ _ _ _ _ _ _ w => False.elim w, fun _ _ _ _ _ _ _ _ w => False.elim w⟩
  | or a b ha hb =>
    exact ⟨fun ρ h Q Q' X X' hq hx w => ha.e ρ h _ _ X X' (fun x h1 q => tri_mono (fun q3 => hq _ _ q3) (fun q3 => hb.e ρ h1 _ _ X X' hq hx q3) q) hx w,
      fun ρ h Q Q' X X' hq hx w => ha.t ρ h _ _ X X' (fun c h1 q => ite_mono (fun q3 => hq _ _ q3) (fun q3 => hb.t ρ h1 _ _ X X' hq hx q3) q) hx w, fun _ _ _ _ _ _ _ _ w => False.elim w, fun _ _ _ _ _ _ _ _ w => False.elim w, fun _ _ _ _ _ _ _ _ w => False.elim w, fun _ _ _ _ _ _ _ _ w => False.elim w, fun _ _ _ _ _ _ _ _ w => False.elim w⟩
  | not a ha =>
    exact ⟨fun ρ h Q Q' X X' hq hx w => ha.e ρ h _ _ X X' (fun x h1 q => opt_mono (fun z q3 => hq _ _ q3) q) hx w,
      fun ρ h Q Q' X X' hq hx w => ha.t ρ h _ _ X X' (fun c h1 q => hq _ _ q) hx w, fun _ _ _ _ _ _ _ _ w => False.elim w, fun _ _ _ _ _ _ _ _ w => False.elim w, fun _ _ _ _ _ _ _ _ w => False.elim w, fun _ _ _ _ _ _ _ _ w => False.elim w, fun _ _ _ _ _ _ _ _ w => False.elim w⟩
  | ite t a b ht ha hb =>
    exact ⟨fun ρ h Q Q' X X' hq hx w => ht.t ρ h _ _ X X' (fun c h1 q => ite_mono (fun q3 => ha.e ρ h1 _ _ X X' hq hx q3) (fun q3 => hb.e ρ h1 _ _ X X' hq hx q3) q) hx w,
      fun ρ h Q Q' X X' hq hx w => ht.t ρ h _ _ X X' (fun c h1 q => ite_mono (fun q3 => ha.t ρ h1 _ _ X X' hq hx q3) (fun q3 => hb.t ρ h1 _ _ X X' hq hx q3) q) hx w, fun _ _ _ _ _ _ _ _ w => False.elim w, fun _ _ _ _ _ _ _ _ w => False.elim w, fun _ _ _ _ _ _ _ _ w => False.elim w, fun _ _ _ _ _ _ _ _ w => False.elim w, fun _ _ _ _ _ _ _ _ w => False.elim w⟩
  | isa a ts ha => exact ⟨fun ρ h Q Q' X X' hq hx w => ha.e ρ h _ _ X X' (fun x h1 q => opt_mono (fun z q3 => hq _ _ q3) q) hx w, fun _ _ _ _ _ _ _ _ w => False.elim w, fun _ _ _ _ _ _ _ _ w => False.elim w, fun _ _ _ _ _ _ _ _ w => False.elim w, fun _ _ _ _ _ _ _ _ w => False.elim w, fun _ _ _ _ _ _ _ _ w => False.elim w, fun _ _ _ _ _ _ _ _ w => False.elim w⟩
  | ix a b ha hb => exact ⟨fun ρ h Q Q' X X' hq hx w => ha.e ρ h _ _ X X' (fun x h1 q => hb.e ρ h1 _ _ X X' (fun y h2 q2 => opt_mono (fun z q3 => hq _ _ q3) q2) hx q) hx w, fun _ _ _ _ _ _ _ _ w => False.elim w, fun _ _ _ _ _ _ _ _ w => False.elim w, fun _ _ _ _ _ _ _ _ w => False.elim w, fun _ _ _ _ _ _ _ _ w => False.elim w, fun _ _ _ _ _ _ _ _ w => False.elim w, fun _ _ _ _ _ _ _ _ w => False.elim w⟩
  | slc a lo hi ha hl hh =>
    exact ⟨fun ρ h Q Q' X X' hq hx w => ha.e ρ h _ _ X X' (fun x h1 q => hl.o ρ h1 _ _ X X' (fun l h2 q2 => hh.o ρ h2 _ _ X X' (fun u h3 q3 => opt_mono (fun z q4 => hq _ _ q4) q3) hx q2) hx q) hx w, fun _ _ _ _ _ _ _ _ w => False.elim w, fun _ _ _ _ _ _ _ _ w => False.elim w, fun _ _ _ _ _ _ _ _ w => False.elim w, fun _ _ _ _ _ _ _ _ w => False.elim w, fun _ _ _ _ _ _ _ _ w => False.elim w, fun _ _ _ _ _ _ _ _ w => False.elim w⟩
  | call f es he => exact ⟨fun ρ h Q Q' X X' hq hx w => he.as ρ h _ _ X X' (fun ds h1 q => hG.cf f ds h1 _ _ X X' hq hx q) hx w, fun _ _ _ _ _ _ _ _ w => False.elim w, fun _ _ _ _ _ _ _ _ w => False.elim w, fun _ _ _ _ _ _ _ _ w => False.elim w, fun _ _ _ _ _ _ _ _ w => False.elim w, fun _ _ _ _ _ _ _ _ w => False.elim w, fun _ _ _ _ _ _ _ _ w => False.elim w⟩
  | clv i es he => exact ⟨fun ρ h Q Q' X X' hq hx w => opt_mono (fun d q0 => onF_mono (fun k cs q1 => ⟨q1.1, he.as ρ h _ _ X X' (fun ds h1 q => hG.cl _ _ ds h1 _ _ X X' hq hx q) hx q1.2⟩) (fun f q1 => he.as ρ h _ _ X X' (fun ds h1 q => hG.cf _ ds h1 _ _ X X' hq hx q) hx q1) q0) w, fun _ _ _ _ _ _ _ _ w => False.elim w, fun _ _ _ _ _ _ _ _ w => False.elim w, fun _ _ _ _ _ _ _ _ w => False.elim w, fun _ _ _ _ _ _ _ _ w => False.elim w, fun _ _ _ _ _ _ _ _ w => False.elim w, fun _ _ _ _ _ _ _ _ w => False.elim w⟩
  | new c es he => exact ⟨fun ρ h Q Q' X X' hq hx w => he.es ρ h _ _ X X' (fun ds h1 q => hG.nw c ds h1 _ _ X X' hq hx q) hx w, fun _ _ _ _ _ _ _ _ w => False.elim w, fun _ _ _ _ _ _ _ _ w => False.elim w, fun _ _ _ _ _ _ _ _ w => False.elim w, fun _ _ _ _ _ _ _ _ w => False.elim w, fun _ _ _ _ _ _ _ _ w => False.elim w, fun _ _ _ _ _ _ _ _ w => False.elim w⟩
  | bf b es he => exact ⟨fun ρ h Q Q' X X' hq hx w => he.es ρ h _ _ X X' (fun ds h1 q => opt_mono (fun z q3 => hq _ _ q3) q) hx w, fun _ _ _ _ _ _ _ _ w => False.elim w, fun _ _ _ _ _ _ _ _ w => False.elim w, fun _ _ _ _ _ _ _ _ w => False.elim w, fun _ _ _ _ _ _ _ _ w => False.elim w, fun _ _ _ _ _ _ _ _ w => False.elim w, fun _ _ _ _ _ _ _ _ w => False.elim w⟩
  | mt m o es ho he => exact ⟨fun ρ h Q Q' X X' hq hx w => ho.e ρ h _ _ X X' (fun x h1 q => ⟨q.1, he.es ρ h1 _ _ X X' (fun ds h2 q2 => mtW_mono hq q2) hx q.2⟩) hx w, fun _ _ _ _ _ _ _ _ w => False.elim w, fun _ _ _ _ _ _ _ _ w => False.elim w, fun _ _ _ _ _ _ _ _ w => False.elim w, fun _ _ _ _ _ _ _ _ w => False.elim w, fun _ _ _ _ _ _ _ _ w => False.elim w, fun _ _ _ _ _ _ _ _ w => False.elim w⟩
  | fld a f ha => exact ⟨fun ρ h Q Q' X X' hq hx w => ha.e ρ h _ _ X X' (fun x h1 q => onR_mono (fun n q => onO_mono (fun c fs q => opt_mono (fun d q => hq _ _ q) q) q) q) hx w, fun _ _ _ _ _ _ _ _ w => False.elim w, fun _ _ _ _ _ _ _ _ w => False.elim w, fun _ _ _ _ _ _ _ _ w => False.elim w, fun _ _ _ _ _ _ _ _ w => False.elim w, fun _ _ _ _ _ _ _ _ w => False.elim w, fun _ _ _ _ _ _ _ _ w => False.elim w⟩
  | met o m es ho he => exact ⟨fun ρ h Q Q' X X' hq hx w => ho.e ρ h _ _ X X' (fun x h1 q => onR_mono (fun n q => onO_mono (fun c fs q => he.es ρ h1 _ _ X X' (fun ds h2 q2 => hG.me _ _ _ h2 _ _ X X' hq hx q2) hx q) q) q) hx w, fun _ _ _ _ _ _ _ _ w => False.elim w, fun _ _ _ _ _ _ _ _ w => False.elim w, fun _ _ _ _ _ _ _ _ w => False.elim w, fun _ _ _ _ _ _ _ _ w => False.elim w, fun _ _ _ _ _ _ _ _ w => False.elim w, fun _ _ _ _ _ _ _ _ w => False.elim w⟩
  | lc p it cond elt own hi hc he =>
    refine ⟨fun ρ h Q Q' X X' hq hx w => hi.i ρ h _ _ X X' (fun items st h1 q => ⟨q.1, compL_mono (fun d h2 K K' hk q2 => opt_mono (fun ρ' q3 => hc.t ρ' h2 _ _ _ _ (fun b h3 q4 => ?_) (fun _ _ z => z) q3) q2) items h1 _ _ (by intro ds h2 q2; exact hq _ _ q2) q.2⟩) hx w, fun _ _ _ _ _ _ _ _ w => False.elim w, fun _ _ _ _ _ _ _ _ w => False.elim w, fun _ _ _ _ _ _ _ _ w => False.elim w, fun _ _ _ _ _ _ _ _ w => False.elim w, fun _ _ _ _ _ _ _ _ w => False.elim w, fun _ _ _ _ _ _ _ _ w => False.elim w⟩
    exact ite_mono (fun q5 => he.e ρ' h3 _ _ _ _ (fun y h4 q6 => hk _ _ q6) (fun _ _ z => z) q5) (fun q5 => hk _ _ q5) q4
  | it1 k es he => exact ⟨fun _ _ _ _ _ _ _ _ w => False.elim w, fun _ _ _ _ _ _ _ _ w => False.elim w, fun _ _ _ _ _ _ _ _ w => False.elim w, fun _ _ _ _ _ _ _ _ w => False.elim w, fun _ _ _ _ _ _ _ _ w => False.elim w, fun _ _ _ _ _ _ _ _ w => False.elim w, fun ρ h Q Q' X X' hq hx w => he.es ρ h _ _ X X' (fun ds h1 q => opt_mono (fun z q3 => hq _ _ _ q3) q) hx w⟩
  | tr a ha => exact ⟨fun _ _ _ _ _ _ _ _ w => False.elim w, fun ρ h Q Q' X X' hq hx w => ha.e ρ h _ _ X X' (fun x h1 q => opt_mono (fun z q3 => hq _ _ q3) q) hx w, fun _ _ _ _ _ _ _ _ w => False.elim w, fun _ _ _ _ _ _ _ _ w => False.elim w, fun _ _ _ _ _ _ _ _ w => False.elim w, fun _ _ _ _ _ _ _ _ w => False.elim w, fun _ _ _ _ _ _ _ _ w => False.elim w⟩
  | vl a ha => exact ⟨fun _ _ _ _ _ _ _ _ w => False.elim w, fun _ _ _ _ _ _ _ _ w => False.elim w, fun _ _ _ _ _ _ _ _ w => False.elim w, fun _ _ _ _ _ _ _ _ w => False.elim w, fun ρ h Q Q' X X' hq hx w => ha.e ρ h _ _ X X' hq hx w, fun _ _ _ _ _ _ _ _ w => False.elim w, fun _ _ _ _ _ _ _ _ w => False.elim w⟩
  | sm a ha => exact ⟨ fun _ _ _ _ _ _ _ _ w => False.elim w, fun _ _ _ _ _ _ _ _ w => False.elim w, fun _ _ _ _ _ _ _ _ w => False.elim w, fun _ _ _ _ _ _ _ _ w => False.elim w, fun _ _ _ _ _ _ _ _ w => False.elim w, fun ρ h Q Q' X X' hq hx w => ha.e ρ h _ _ X X' (fun x h1 q => onI_mono (fun i q => hq _ _ q) q) hx w, fun _ _ _ _ _ _ _ _ w => False.elim w⟩
  | va i => exact ⟨ fun _ _ _ _ _ _ _ _ w => False.elim w, fun _ _ _ _ _ _ _ _ w => False.elim w, fun _ _ _ _ _ _ _ _ w => False.elim w, fun _ _ _ _ _ _ _ _ w => False.elim w, fun ρ h Q Q' X X' hq hx w => opt_mono (fun d q => ⟨q.1, hq _ _ q.2⟩) w, fun _ _ _ _ _ _ _ _ w => False.elim w, fun _ _ _ _ _ _ _ _ w => False.elim w⟩
  | fle i c j => exact ⟨fun ρ h Q Q' X X' hq hx w => opt_mono (fun x q => onX_mono (fun c' ds q => ⟨q.1, opt_mono (fun d q => hq _ _ q) q.2⟩) q) w, fun _ _ _ _ _ _ _ _ w => False.elim w, fun _ _ _ _ _ _ _ _ w => False.elim w, fun _ _ _ _ _ _ _ _ w => False.elim w, fun _ _ _ _ _ _ _ _ w => False.elim w, fun _ _ _ _ _ _ _ _ w => False.elim w, fun _ _ _ _ _ _ _ _ w => False.elim w⟩
  | lam k js => exact ⟨ fun _ _ _ _ _ _ _ _ w => False.elim w, fun _ _ _ _ _ _ _ _ w => False.elim w, fun _ _ _ _ _ _ _ _ w => False.elim w, fun _ _ _ _ _ _ _ _ w => False.elim w, fun ρ h Q Q' X X' hq hx w => opt_mono (fun d q => ⟨q.1, hq _ _ q.2⟩) w, fun _ _ _ _ _ _ _ _ w => False.elim w, fun _ _ _ _ _ _ _ _ w => False.elim w⟩

structure En.Le (K K' : En) : Prop where
  nx : ∀ ρ h, K.nx ρ h → K'.nx ρ h
  rt : ∀ d h, K.rt d h → K'.rt d h
  bk : ∀ ρ h, K.bk ρ h → K'.bk ρ h
  ct : ∀ ρ h, K.ct ρ h → K'.ct ρ h
  ex : ∀ ρ x h, K.ex ρ x h → K'.ex ρ x h
structure MoS (G : Gam) (m : MS) : Prop where
  s : ∀ ρ h (K K' : En), K.Le K' → wS G m ρ h K → wS G m ρ h K'
  h : ∀ x ρ h (K K' : En), K.Le K' → wH G m x ρ h K → wH G m x ρ h K'

theorem moS (hG : GMono G) : ∀ s : MS, MoS G s := by
  have M := mo hG
  intro s
  induction s with
  | skip => exact ⟨fun ρ h K K' l w => l.nx _ _ w, fun x ρ h K K' l w => (show False from w).elim⟩
  | sq a b ha hb => exact ⟨fun ρ h K K' l w => ha.s ρ h { K with nx := fun ρ h => wS G b ρ h K } { K' with nx := fun ρ h => wS G b ρ h K' } ⟨fun ρ h q => hb.s ρ h _ _ l q, l.rt, l.bk, l.ct, l.ex⟩ w, fun x ρ h K K' l w => (show False from w).elim⟩
  | set p e => exact ⟨fun ρ h K K' l w => (M e).e ρ h _ _ _ _ (fun d h1 q => opt_mono (fun ρ' q2 => l.nx _ _ q2) q) (fun x h1 q => l.ex _ _ _ q) w, fun x ρ h K K' l w => (show False from w).elim⟩
  | setIx o i e => exact ⟨fun ρ h K K' l w => (M e).e ρ h _ _ _ _ (fun d h1 q => (M o).e ρ h1 _ _ _ _ (fun x h2 q2 => (M i).e ρ h2 _ _ _ _ (fun y h3 q3 => setW_mono (fun h q => l.nx _ _ q) q3) (fun x h1 q => l.ex _ _ _ q) q2) (fun x h1 q => l.ex _ _ _ q) q) (fun x h1 q => l.ex _ _ _ q) w, fun x ρ h K K' l w => (show False from w).elim⟩
  | setFl o f e => exact ⟨fun ρ h K K' l w => (M e).e ρ h _ _ _ _ (fun d h1 q => (M o).e ρ h1 _ _ _ _ (fun x h2 q2 => onR_mono (fun n q => onO_mono (fun c fs q => ⟨q.1, l.nx _ _ q.2⟩) q) q2) (fun x h1 q => l.ex _ _ _ q) q) (fun x h1 q => l.ex _ _ _ q) w, fun x ρ h K K' l w => (show False from w).elim⟩
  | aug i o e => exact ⟨fun ρ h K K' l w => opt_mono (fun x q => ⟨q.1, (M e).e ρ h _ _ _ _ (fun y h1 q2 => augW_mono l.nx q2) (fun x h1 q => l.ex _ _ _ q) q.2⟩) w, fun x ρ h K K' l w => (show False from w).elim⟩
  | augFl o f op e => exact ⟨fun ρ h K K' l w => (show False from w).elim, fun x ρ h K K' l w => (show False from w).elim⟩
  | exp e => exact ⟨fun ρ h K K' l w => (M e).e ρ h _ _ _ _ (fun d h1 q => l.nx _ _ q) (fun x h1 q => l.ex _ _ _ q) w, fun x ρ h K K' l w => (show False from w).elim⟩
  | ret e => exact ⟨fun ρ h K K' l w => (M e).e ρ h _ _ _ _ (fun d h1 q => l.rt _ _ q) (fun x h1 q => l.ex _ _ _ q) w, fun x ρ h K K' l w => (show False from w).elim⟩
  | retn => exact ⟨fun ρ h K K' l w => l.rt _ _ w, fun x ρ h K K' l w => (show False from w).elim⟩
  | ifS t a b ha hb => exact ⟨fun ρ h K K' l w => (M t).t ρ h _ _ _ _ (fun c h1 q => ite_mono (fun q2 => ha.s ρ h1 _ _ l q2) (fun q2 => hb.s ρ h1 _ _ l q2) q) (fun x h1 q => l.ex _ _ _ q) w, fun x ρ h K K' l w => (show False from w).elim⟩
  | whl t b hb =>
    refine ⟨fun ρ h K K' l w => ?_, fun x ρ h K K' l w => (show False from w).elim⟩
    obtain ⟨n, w⟩ := w
    exact ⟨n, whlN_mono (fun ρ h K1 K2 hk q => (M t).t ρ h _ _ _ _ hk (fun x h1 q => l.ex _ _ _ q) q) (fun ρ h N N' hn q => hb.s ρ h { K with nx := N, ct := N, bk := K.nx } { K' with nx := N', ct := N', bk := K'.nx } ⟨hn, l.rt, l.nx, hn, l.ex⟩ q) n ρ h _ _ l.nx w⟩
  | forS p it b hb =>
    refine ⟨fun ρ h K K' l w => (M it).i ρ h _ _ _ _ (fun items st h1 q => forL_mono (fun d ρ1 h2 N N' hn q2 => opt_mono (fun ρ' q3 => hb.s ρ' h2 { K with nx := N, ct := N, bk := K.nx } { K' with nx := N', ct := N', bk := K'.nx } ⟨hn, l.rt, l.nx, hn, l.ex⟩ q3) q2) items ρ h1 _ _ l.nx q) (fun x h1 q => l.ex _ _ _ q) w, fun x ρ h K K' l w => (show False from w).elim⟩
  | rais c es => exact ⟨fun ρ h K K' l w => (M es).es ρ h _ _ _ _ (fun ds h1 q => hG.nw c ds h1 _ _ _ _ (fun _ _ z => z) (fun x h1 q => l.ex _ _ _ q) q) (fun x h1 q => l.ex _ _ _ q) w, fun x ρ h K K' l w => (show False from w).elim⟩
  | tryS b hs hb hh => exact ⟨fun ρ h K K' l w => hb.s ρ h { K with ex := fun ρ x h => wH G hs x ρ h K } { K' with ex := fun ρ x h => wH G hs x ρ h K' } ⟨l.nx, l.rt, l.bk, l.ct, fun ρ x h q => hh.h x ρ h _ _ l q⟩ w, fun x ρ h K K' l w => (show False from w).elim⟩
  | hc c sl b r hb hr =>
    refine ⟨fun ρ h K K' l w => (show False from w).elim, fun x ρ h K K' l w => ?_⟩
    simp only [wH] at w ⊢
    by_cases hc : x.c = c
    · rw [if_pos hc] at w ⊢
      cases sl with
      | none => exact hb.s ρ h { K with ex := fun _ _ _ => False } { K' with ex := fun _ _ _ => False } ⟨l.nx, l.rt, l.bk, l.ct, fun _ _ _ z => z⟩ w
      | some i => exact ⟨w.1, hb.s _ _ { K with ex := fun _ _ _ => False, nx := fun ρ h => noXL (ρ.set i none) = true ∧ K.nx (ρ.set i none) h, bk := fun ρ h => noXL (ρ.set i none) = true ∧ K.bk (ρ.set i none) h, ct := fun ρ h => noXL (ρ.set i none) = true ∧ K.ct (ρ.set i none) h } { K' with ex := fun _ _ _ => False, nx := fun ρ h => noXL (ρ.set i none) = true ∧ K'.nx (ρ.set i none) h, bk := fun ρ h => noXL (ρ.set i none) = true ∧ K'.bk (ρ.set i none) h, ct := fun ρ h => noXL (ρ.set i none) = true ∧ K'.ct (ρ.set i none) h } ⟨fun ρ h q => ⟨q.1, l.nx _ _ q.2⟩, l.rt, fun ρ h q => ⟨q.1, l.bk _ _ q.2⟩, fun ρ h q => ⟨q.1, l.ct _ _ q.2⟩, fun _ _ _ z => z⟩ w.2⟩
    · rw [if_neg hc] at w ⊢
      exact hr.h x ρ h _ _ l w
  | hn => exact ⟨fun ρ h K K' l w => (show False from w).elim, fun x ρ h K K' l w => l.ex _ _ _ w⟩
  | brk => exact ⟨fun ρ h K K' l w => l.bk _ _ w, fun x ρ h K K' l w => (show False from w).elim⟩
  | cnt => exact ⟨fun ρ h K K' l w => l.ct _ _ w, fun x ρ h K K' l w => (show False from w).elim⟩
  | frz i => exact ⟨fun ρ h K K' l w => opt_mono (fun x q => onR_mono (fun n q => onL_mono (fun xs q => l.nx _ _ q) q) q) w, fun x ρ h K K' l w => (show False from w).elim⟩
  | kill i => exact ⟨fun ρ h K K' l w => opt_mono (fun x q => onR_mono (fun n q => l.nx _ _ q) q) w, fun x ρ h K K' l w => (show False from w).elim⟩

theorem monoN (P : Prg) : ∀ n, GMono (callN P n)
  | 0 => ⟨fun _ _ _ _ _ _ _ _ _ w => w.elim, fun _ _ _ _ _ _ _ _ _ _ w => w.elim, fun _ _ _ _ _ _ _ _ _ w => w.elim, fun _ _ _ _ _ _ _ _ _ _ w => w.elim⟩
  | n + 1 => ⟨fun f ds h Q Q' X X' hq hx w => opt_mono (o := P.fns[f]?) (fun F q => ⟨q.1, (moS (monoN P n) F.body).s _ _ { nx := fun _ h => Q .non h, rt := Q, bk := fun _ _ => False, ct := fun _ _ => False, ex := fun _ => X } { nx := fun _ h => Q' .non h, rt := Q', bk := fun _ _ => False, ct := fun _ _ => False, ex := fun _ => X' } ⟨fun _ h q => hq _ _ q, hq, fun _ _ z => z, fun _ _ z => z, fun _ x h q => hx x h q⟩ q.2⟩) w,
    fun k cs ds h Q Q' X X' hq hx w => opt_mono (o := P.las[k]?) (fun L q => ⟨q.1, (mo (monoN P n) L.body).e _ _ _ _ _ _ hq hx q.2⟩) w,
    fun c ds h Q Q' X X' hq hx w => opt_mono (o := P.cls[c]?) (fun m q => ⟨q.1, hx _ _ q.2⟩) w, fun _ _ _ _ _ _ _ _ _ _ w => w.elim⟩
end
end Mi
set_option linter.all false
set_option maxRecDepth 100000
set_option maxHeartbeats 1000000
/-! Ev: the small language run by its own syntax (a partial function), and that what it gives is what is wanted. Our own. -/
namespace Mi

/-! ### equality of data -/
mutual
def beqD : D → D → Bool
  | .non, .non => true
  | .bl a, .bl b => a == b
  | .int a, .int b => decide (a = b)
  | .str a, .str b => decide (a = b)
  | .tup a, .tup b => beqDs a b
  | .lst a, .lst b => beqDs a b
  | .ref a, .ref b => decide (a = b)
  | .glo a, .glo b => decide (a = b)
  | _, _ => false
def beqDs : List D → List D → Bool
  | [], [] => true
  | x :: xs, y :: ys => beqD x y && beqDs xs ys
  | _, _ => false
end
mutual
theorem beqD_eq : ∀ (a b : D), beqD a b = true → a = b
  | .non, b, h => by cases b <;> simp_all [beqD]
  | .bl a, b, h => by cases b <;> simp_all [beqD]
  | .int a, b, h => by cases b <;> simp_all [beqD]
  | .str a, b, h => by cases b <;> simp_all [beqD]
  | .tup a, b, h => by
    cases b <;> simp [beqD] at h
    rw [beqDs_eq _ _ h]
  | .lst a, b, h => by
    cases b <;> simp [beqD] at h
    rw [beqDs_eq _ _ h]
  | .ref a, b, h => by cases b <;> simp_all [beqD]
  | .glo a, b, h => by cases b <;> simp_all [beqD]
  | .clo a c, b, h => by cases b <;> simp [beqD] at h
  | .exn a c, b, h => by cases b <;> simp [beqD] at h
theorem beqDs_eq : ∀ (a b : List D), beqDs a b = true → a = b
  | [], b, h => by cases b <;> simp_all [beqDs]
  | x :: xs, b, h => by
    cases b with
    | nil => simp [beqDs] at h
    | cons y ys =>
      simp [beqDs] at h
      rw [beqD_eq _ _ h.1, beqDs_eq _ _ h.2]
end
def beqO : Option O → Option O → Bool
  | some (.lst a), some (.lst b) => beqDs a b
  | some (.rol a), some (.rol b) => beqDs a b
  | _, _ => false
theorem beqO_eq {a b : Option O} (h : beqO a b = true) : a = b := by
  unfold beqO at h
  split at h
  · rw [beqDs_eq _ _ h]
  · rw [beqDs_eq _ _ h]
  · cases h
def staysB (h : Hd) : List D → Hd → Bool
  | [], _ => true
  | .ref n :: ds, h' => beqO (h'[n]?) (h[n]?) && staysB h ds h'
  | _ :: ds, h' => staysB h ds h'
theorem staysB_ok {h : Hd} : ∀ {ds : List D} {h' : Hd}, staysB h ds h' = true → stays h ds h'
  | [], _, _ => trivial
  | d :: ds, h', e => by
    cases d with
    | ref n =>
      have e2 : (beqO (h'[n]?) (h[n]?) && staysB h ds h') = true := e
      rw [Bool.and_eq_true] at e2
      exact ⟨beqO_eq e2.1, staysB_ok e2.2⟩
    | _ => exact staysB_ok (ds := ds) e

/-! ### results -/
inductive Rv (α : Type) where
  | ok (a : α) (h : Hd) | ex (x : Ex) (h : Hd) | no
def Rv.bind {α β : Type} (r : Rv α) (f : α → Hd → Rv β) : Rv β := match r with | .ok a h => f a h | .ex x h => .ex x h | .no => .no
def Rv.sat {α : Type} (r : Rv α) (Q : α → Hd → Prop) (X : KX) : Prop := match r with | .ok a h => Q a h | .ex x h => X x h | .no => False
/-- no error -/
def Rv.calm {α : Type} (r : Rv α) : Rv α := match r with | .ok a h => .ok a h | .ex _ _ => .no | .no => .no
def optR {α β : Type} (o : Option α) (f : α → Rv β) : Rv β := match o with | some a => f a | none => .no
def iteR {β : Type} (c : Prop) [Decidable c] (f : Rv β) : Rv β := if c then f else .no
section
variable {α β : Type} {r : Rv α} {f : α → Hd → Rv β} {Q' : α → Hd → Prop} {X : KX} {Q : β → Hd → Prop}
theorem sat_bind (h : (r.bind f).sat Q X) (k : ∀ a h, (f a h).sat Q X → Q' a h) : r.sat Q' X := by
  cases r with
  | ok a h1 => exact k a h1 h
  | ex x h1 => exact h
  | no => exact h
theorem sat_mono {Q : α → Hd → Prop} (h : r.sat Q X) (k : ∀ a h, Q a h → Q' a h) : r.sat Q' X := by
  cases r with
  | ok a h1 => exact k a h1 h
  | ex x h1 => exact h
  | no => exact h
theorem sat_calm {Q : α → Hd → Prop} {X' : KX} (h : r.calm.sat Q X) : r.sat Q X' := by
  cases r with
  | ok a h1 => exact h
  | ex x h1 => exact h.elim
  | no => exact h
theorem sat_opt {o : Option α} {f : α → Rv β} {P : α → Prop} (h : (optR o f).sat Q X) (k : ∀ a, (f a).sat Q X → P a) : opt o P := by
  cases o with
  | some a => exact k a h
  | none => exact h
theorem sat_ite {c : Prop} [Decidable c] {r : Rv β} (h : (iteR c r).sat Q X) : c ∧ r.sat Q X := by
  unfold iteR at h
  split at h
  · exact ⟨by assumption, h⟩
  · exact h.elim
end

structure EG where
  gc : Nat → D
  cf : Nat → List D → Hd → Rv D
  cl : Nat → List D → List D → Hd → Rv D
  nw : Nat → List D → Hd → Rv D

def mtE (h : Hd) (m : Mt) (x : D) (ds : List D) : Rv D := match m, ds with
  | .append, [y] => (match x with
    | .ref n => (match h[n]? with
      | some (.lst xs) => iteR (xs.length < sizeMax) (.ok .non (h.set n (.lst (xs ++ [y]))))
      | _ => .no)
    | _ => .no)
  | m, ds => optR (mtD h m x ds) fun z => .ok z h
def compE (step : D → Hd → Rv (Option D)) (st : Hd → Bool) : List D → Hd → Rv (List D)
  | [], h => iteR (st h = true) (.ok [] h)
  | d :: ds, h => iteR (st h = true) ((step d h).bind fun r h' => (compE step st ds h').bind fun rs h'' => .ok (r.toList ++ rs) h'')
def asI (x : D) (f : Int → Rv α) : Rv α := match x with | .int i => f i | _ => .no
def asF (x : D) (f : Nat → List D → Rv α) (g : Nat → Rv α) : Rv α := match x with | .clo k cs => f k cs | .glo k => g k | _ => .no
def triR (o : Option Bool) (a b : Rv α) : Rv α := match o with | some true => a | some false => b | none => .no
def ifR (b : Bool) (x y : Rv α) : Rv α := match b with | true => x | false => y
mutual
def evE (G : EG) : ME → Loc → Hd → Rv D
  | .c d, _, h => .ok d h
  | .g k, _, h => .ok (G.gc k) h
  | .v i, ρ, h => optR (getL ρ i) fun d => iteR (isClo d = false) (.ok d h)
  | .nl, _, _ => .no
  | .cn _ _, _, _ => .no
  | .tup es, ρ, h => (evEs G es ρ h).bind fun ds h => iteR (ds.length ≤ sizeMax) (.ok (.tup ds) h)
  | .lst es, ρ, h => (evEs G es ρ h).bind fun ds h => iteR (ds.length ≤ sizeMax) (.ok (.lst ds) h)
  | .lsh es, ρ, h => (evEs G es ρ h).bind fun ds h => iteR (ds.length ≤ sizeMax) (.ok (.ref h.length) (h ++ [.lst ds]))
  | .dic, _, h => .ok (.ref h.length) (h ++ [.dic []])
  | .neg a, ρ, h => (evE G a ρ h).bind fun x h => asI x fun i => .ok (.int (-i)) h
  | .bin o a b, ρ, h => (evE G a ρ h).bind fun x h => (evE G b ρ h).bind fun y h => optR (opB h o x y) fun z => .ok z h
  | .cmp o a b, ρ, h => (evE G a ρ h).bind fun x h => (evE G b ρ h).bind fun y h => optR (opC h o x y) fun z => .ok (.bl z) h
  | .chn o p a b c, ρ, h => (evE G a ρ h).bind fun x h => (evE G b ρ h).bind fun y h => triR (opC h o x y) ((evE G c ρ h).bind fun z h => optR (opC h p y z) fun r => .ok (.bl r) h) (.ok (.bl false) h)
  | .and a b, ρ, h => (evE G a ρ h).bind fun x h => triR (truth h x) (evE G b ρ h) (.ok x h)
  | .or a b, ρ, h => (evE G a ρ h).bind fun x h => triR (truth h x) (.ok x h) (evE G b ρ h)
  | .not a, ρ, h => (evE G a ρ h).bind fun x h => optR (truth h x) fun b => .ok (.bl (!b)) h
  | .ite t a b, ρ, h => (evT G t ρ h).bind fun c h => ifR c (evE G a ρ h) (evE G b ρ h)
  | .isa a ts, ρ, h => (evE G a ρ h).bind fun x h => optR (isAny h x ts) fun b => .ok (.bl b) h
  | .ix a b, ρ, h => (evE G a ρ h).bind fun x h => (evE G b ρ h).bind fun y h => optR (ixD h x y) fun z => .ok z h
  | .slc a lo hi, ρ, h => (evE G a ρ h).bind fun x h => (evO G lo ρ h).bind fun l h => (evO G hi ρ h).bind fun u h => optR (slD h x l u) fun z => .ok z h
  | .call f es, ρ, h => (evAs G es ρ h).bind fun ds h => G.cf f ds h
  | .clv i es, ρ, h => optR (getL ρ i) fun x => asF x (fun k caps => iteR (noXs caps = true) ((evAs G es ρ h).bind fun ds h => G.cl k caps ds h)) (fun f => (evAs G es ρ h).bind fun ds h => G.cf f ds h)
  | .new c es, ρ, h => (evEs G es ρ h).bind fun ds h => G.nw c ds h
  | .bf b es, ρ, h => (evEs G es ρ h).bind fun ds h => optR (bfD h b ds) fun z => .ok z h
  | .mt m o es, ρ, h => (evE G o ρ h).bind fun x h => iteR (mtTy h m x = true) ((evEs G es ρ h).bind fun ds h => mtE h m x ds)
  | .fld _ _, _, _ => .no
  | .met _ _ _, _, _ => .no
  | .lc p it cond elt own, ρ, h => (evI G it ρ h).bind fun is h => iteR (is.1.length ≤ sizeMax) ((compE (fun d h => optR (bindP p d (wipeL (noClo ρ) own)) fun ρ' =>
        ((evT G cond ρ' h).calm).bind fun b h => ifR b ((evE G elt ρ' h).calm.bind fun y h => .ok (some y) h) (.ok none h)) (staysB h is.2) is.1 h).bind fun ds h => .ok (.lst ds) h)
  | .it1 _ _, _, _ => .no
  | .tr _, _, _ => .no
  | .vl _, _, _ => .no
  | .sm _, _, _ => .no
  | .va _, _, _ => .no
  | .lam _ _, _, _ => .no
  | .fle i c j, ρ, h => optR (getL ρ i) fun x => match x with | .exn c' ds => iteR (c' = c) (optR ds[j]? fun d => .ok d h) | _ => .no
def evT (G : EG) : ME → Loc → Hd → Rv Bool
  | .and a b, ρ, h => (evT G a ρ h).bind fun c h => ifR c (evT G b ρ h) (.ok false h)
  | .or a b, ρ, h => (evT G a ρ h).bind fun c h => ifR c (.ok true h) (evT G b ρ h)
  | .not a, ρ, h => (evT G a ρ h).bind fun c h => .ok (!c) h
  | .ite t a b, ρ, h => (evT G t ρ h).bind fun c h => ifR c (evT G a ρ h) (evT G b ρ h)
  | .cmp o a b, ρ, h => (evE G a ρ h).bind fun x h => (evE G b ρ h).bind fun y h => optR (opC h o x y) fun z => .ok z h
  | .chn o p a b c, ρ, h => (evE G a ρ h).bind fun x h => (evE G b ρ h).bind fun y h => triR (opC h o x y) ((evE G c ρ h).bind fun z h => optR (opC h p y z) fun r => .ok r h) (.ok false h)
  | .tr e, ρ, h => (evE G e ρ h).bind fun x h => optR (truth h x) fun b => .ok b h
  | _, _, _ => .no
def evEs (G : EG) : ME → Loc → Hd → Rv (List D)
  | .nl, _, h => .ok [] h
  | .cn a r, ρ, h => (evE G a ρ h).bind fun x h => (evEs G r ρ h).bind fun xs h => .ok (x :: xs) h
  | _, _, _ => .no
def evAs (G : EG) : ME → Loc → Hd → Rv (List D)
  | .nl, _, h => .ok [] h
  | .cn a r, ρ, h => (evA1 G a ρ h).bind fun x h => (evAs G r ρ h).bind fun xs h => .ok (x :: xs) h
  | _, _, _ => .no
def evA1 (G : EG) : ME → Loc → Hd → Rv D
  | .lam k js, ρ, h => optR (getLs ρ js) fun ds => iteR (noXs ds = true) (.ok (.clo k ds) h)
  | .va i, ρ, h => optR (getL ρ i) fun d => iteR (noX d = true) (.ok d h)
  | .vl e, ρ, h => evE G e ρ h
  | _, _, _ => .no
def evO (G : EG) : ME → Loc → Hd → Rv (Option Int)
  | .nl, _, h => .ok none h
  | .sm e, ρ, h => (evE G e ρ h).bind fun x h => asI x fun i => .ok (some i) h
  | _, _, _ => .no
def evI (G : EG) : ME → Loc → Hd → Rv (List D × List D)
  | .it1 k es, ρ, h => (evEs G es ρ h).bind fun ds h => optR (walkD h k ds) fun items => .ok (items, ds) h
  | _, _, _ => .no
end

inductive RS where
  | nx (ρ : Loc) (h : Hd) | rt (d : D) (h : Hd) | bk (ρ : Loc) (h : Hd) | ct (ρ : Loc) (h : Hd) | ex (ρ : Loc) (x : Ex) (h : Hd) | no
def RS.sat (r : RS) (K : En) : Prop := match r with
  | .nx ρ h => K.nx ρ h
  | .rt d h => K.rt d h
  | .bk ρ h => K.bk ρ h
  | .ct ρ h => K.ct ρ h
  | .ex ρ x h => K.ex ρ x h
  | .no => False
def Rv.to {α : Type} (r : Rv α) (ρ : Loc) (f : α → Hd → RS) : RS := match r with | .ok a h => f a h | .ex x h => .ex ρ x h | .no => .no
def RS.then (r : RS) (f : Loc → Hd → RS) : RS := match r with | .nx ρ h => f ρ h | r => r
/-- behind a turn -/
def RS.turn (r : RS) (f : Loc → Hd → RS) : RS := match r with | .nx ρ h => f ρ h | .ct ρ h => f ρ h | .bk ρ h => .nx ρ h | r => r
def optS {α : Type} (o : Option α) (f : α → RS) : RS := match o with | some a => f a | none => .no
def iteS (c : Prop) [Decidable c] (f : RS) : RS := if c then f else .no
def ifS (b : Bool) (x y : RS) : RS := match b with | true => x | false => y
def forE (step : D → Loc → Hd → RS) (st : Hd → Bool) : List D → Loc → Hd → RS
  | [], ρ, h => iteS (st h = true) (.nx ρ h)
  | d :: ds, ρ, h => iteS (st h = true) ((step d ρ h).turn fun ρ h => forE step st ds ρ h)
def whlE (test : Loc → Hd → Rv Bool) (body : Loc → Hd → RS) : Nat → Loc → Hd → RS
  | 0, _, _ => .no
  | n + 1, ρ, h => (test ρ h).to ρ fun b h' => ifS b ((body ρ h').turn fun ρ h => whlE test body n ρ h) (.nx ρ h')
def asR (x : D) (f : Nat → RS) : RS := match x with | .ref i => f i | _ => .no
def augE (h : Hd) (o : Bi) (x y : D) (ρ : Loc) (i : Nat) : RS := match x, y with
  | .ref n, .lst ys => iteS (o = .add) (match h[n]? with | some (.lst xs) => iteS (xs.length + ys.length ≤ sizeMax) (.nx ρ (h.set n (.lst (xs ++ ys)))) | _ => .no)
  | .int a, .int b => (match o with
    | .add => .nx (ρ.set i (some (.int (a + b)))) h
    | .sub => .nx (ρ.set i (some (.int (a - b)))) h
    | _ => .no)
  | _, _ => .no
def setE (ρ : Loc) (h : Hd) (x y d : D) : RS := match x, y with
  | .ref n, .int k => (match h[n]? with
    | some (.lst xs) => optS (ixAt xs.length k) fun j => .nx ρ (h.set n (.lst (xs.set j d)))
    | _ => .no)
  | _, _ => .no
/-- behind a clause with a name -/
def RS.off (i : Nat) (r : RS) : RS := match r with
  | .nx ρ h => iteS (noXL (ρ.set i none) = true) (.nx (ρ.set i none) h)
  | .bk ρ h => iteS (noXL (ρ.set i none) = true) (.bk (ρ.set i none) h)
  | .ct ρ h => iteS (noXL (ρ.set i none) = true) (.ct (ρ.set i none) h)
  | .rt d h => .rt d h
  | .ex _ _ _ => .no
  | .no => .no
def RS.calm (r : RS) : RS := match r with | .ex _ _ _ => .no | r => r
/-- into the clauses -/
def RS.caught (r : RS) (f : Ex → Loc → Hd → RS) : RS := match r with | .ex ρ x h => f x ρ h | r => r
def lstAt (h : Hd) (x : D) (f : Nat → List D → RS) : RS := match x with | .ref n => (match h[n]? with | some (.lst xs) => f n xs | _ => .no) | _ => .no
mutual
def evS (G : EG) (fu : Nat) : MS → Loc → Hd → RS
  | .skip, ρ, h => .nx ρ h
  | .sq a b, ρ, h => (evS G fu a ρ h).then fun ρ h => evS G fu b ρ h
  | .set p e, ρ, h => (evE G e ρ h).to ρ fun d h => optS (bindP p d ρ) fun ρ' => .nx ρ' h
  | .setIx o i e, ρ, h => (evE G e ρ h).to ρ fun d h => (evE G o ρ h).to ρ fun x h => (evE G i ρ h).to ρ fun y h => setE ρ h x y d
  | .setFl _ _ _, _, _ => .no
  | .aug i o e, ρ, h => optS (getL ρ i) fun x => iteS (isClo x = false) ((evE G e ρ h).to ρ fun y h => augE h o x y ρ i)
  | .augFl _ _ _ _, _, _ => .no
  | .exp e, ρ, h => (evE G e ρ h).to ρ fun _ h => .nx ρ h
  | .ret e, ρ, h => (evE G e ρ h).to ρ fun d h => .rt d h
  | .retn, _, h => .rt .non h
  | .ifS t a b, ρ, h => (evT G t ρ h).to ρ fun c h => ifS c (evS G fu a ρ h) (evS G fu b ρ h)
  | .whl t b, ρ, h => whlE (fun ρ h => evT G t ρ h) (fun ρ h => evS G fu b ρ h) fu ρ h
  | .forS p it b, ρ, h => (evI G it ρ h).to ρ fun is h => forE (fun d ρ h => optS (bindP p d ρ) fun ρ' => evS G fu b ρ' h) (staysB h is.2) is.1 ρ h
  | .rais c es, ρ, h => ((evEs G es ρ h).bind fun ds h => G.nw c ds h).to ρ fun _ _ => .no
  | .tryS b hs, ρ, h => (evS G fu b ρ h).caught fun x ρ h => evH G fu hs x ρ h
  | .hc _ _ _ _, _, _ => .no
  | .hn, _, _ => .no
  | .brk, ρ, h => .bk ρ h
  | .cnt, ρ, h => .ct ρ h
  | .frz i, ρ, h => optS (getL ρ i) fun x => lstAt h x fun n xs => .nx (ρ.set i (some (.lst xs))) (h.set n .dead)
  | .kill i, ρ, h => optS (getL ρ i) fun x => asR x fun n => .nx (ρ.set i none) (h.set n .dead)
def evH (G : EG) (fu : Nat) : MS → Ex → Loc → Hd → RS
  | .hc c s b r, x, ρ, h => if x.c = c then (match s with
        | some i => iteS (i < ρ.length) ((evS G fu b (ρ.set i (some (.exn x.c x.ds))) h).off i)
        | none => (evS G fu b ρ h).calm)
      else evH G fu r x ρ h
  | .hn, x, ρ, h => .ex ρ x h
  | _, _, _, _ => .no
end
/-- calls n deep, whiles of at most fu turns -/
def evN (P : Prg) (fu : Nat) : Nat → EG
  | 0 => { gc := fun k => P.gc.getD k .non, cf := fun _ _ _ => .no, cl := fun _ _ _ _ => .no, nw := fun _ _ _ => .no }
  | n + 1 =>
    { gc := fun k => P.gc.getD k .non
      cf := fun f ds h => optR P.fns[f]? fun F => iteR (ds.length = F.np) (match evS (evN P fu n) fu F.body (startL F.nl ds) h with
        | .nx _ h => .ok .non h
        | .rt d h => .ok d h
        | .ex _ x h => .ex x h
        | _ => .no)
      cl := fun k caps ds h => optR P.las[k]? fun L => iteR ((ds ++ L.dfl.drop (ds.length + L.dfl.length - L.np)).length = L.np) (evE (evN P fu n) L.body ((ds ++ L.dfl.drop (ds.length + L.dfl.length - L.np) ++ caps).map some) h)
      nw := fun c ds h => optR P.cls[c]? fun m => iteR (ds.length = m) (.ex ⟨c, ds⟩ h) }
end Mi
set_option linter.all false
set_option maxRecDepth 100000
set_option maxHeartbeats 2000000
/-! Ev: what the run gives is what is wanted. -/
namespace Mi
/-- the run's calls and what is wanted of calls -/
structure EGok (E : EG) (G : Gam) : Prop where
  gc : E.gc = G.gc
  cf : ∀ f ds h Q X, (E.cf f ds h).sat Q X → G.cf f ds h Q X
  cl : ∀ k cs ds h Q X, (E.cl k cs ds h).sat Q X → G.cl k cs ds h Q X
  nw : ∀ c ds h Q X, (E.nw c ds h).sat Q X → G.nw c ds h Q X
section
variable {α β : Type} {Q : β → Hd → Prop} {X : KX}
theorem sat_asI {x : D} {f : Int → Rv β} {P : Int → Prop} (h : (asI x f).sat Q X) (k : ∀ i, (f i).sat Q X → P i) : onI x P := by
  unfold asI at h
  unfold onI
  split at h
  · exact k _ h
  · exact h.elim
theorem sat_tri {o : Option Bool} {a b : Rv β} {A B : Prop} (h : (triR o a b).sat Q X) (ka : a.sat Q X → A) (kb : b.sat Q X → B) : tri o A B := by
  unfold triR at h
  unfold tri
  split at h
  · exact ka h
  · exact kb h
  · exact h.elim
theorem sat_ifR {c : Bool} {a b : Rv β} {A B : Prop} (h : (ifR c a b).sat Q X) (ka : a.sat Q X → A) (kb : b.sat Q X → B) : if c = true then A else B := by
  unfold ifR at h
  split at h
  · exact ka h
  · exact kb h
theorem sat_mt {h : Hd} {m : Mt} {x : D} {ds : List D} {Q : D → Hd → Prop} (w : (mtE h m x ds).sat Q X) : mtW h m x ds Q := by
  unfold mtE at w
  unfold mtW
  split at w
  · split at w
    · split at w
      · rename_i n _ xs e
        obtain ⟨w1, w2⟩ := sat_ite w
        show onL h n _
        unfold onL
        rw [e]
        exact ⟨w1, w2⟩
      · exact w.elim
    · exact w.elim
  · rename_i hn
    first
    | exact sat_opt w fun a q => q
    | (split
       · exact (hn _ rfl rfl).elim
       · exact sat_opt w fun a q => q)
theorem comp_ok {step : D → Hd → Rv (Option D)} {st : Hd → Bool} {step' : D → Hd → (Option D → Hd → Prop) → Prop} {st' : Hd → Prop} (hs : ∀ d h K X, (step d h).sat K X → step' d h K) (ht : ∀ h, st h = true → st' h) :
    ∀ (ds : List D) (h : Hd) (K : List D → Hd → Prop) (X : KX), (compE step st ds h).sat K X → compL step' st' ds h K
  | [], h, K, X, w => by
    obtain ⟨w1, w2⟩ := sat_ite w
    exact ⟨ht _ w1, w2⟩
  | d :: ds, h, K, X, w => by
    obtain ⟨w1, w2⟩ := sat_ite w
    refine ⟨ht _ w1, hs _ _ _ X (sat_bind w2 fun r h' w3 => ?_)⟩
    exact comp_ok hs ht ds h' _ X (sat_bind w3 fun rs h'' w4 => w4)
end
structure OkM (E : EG) (G : Gam) (m : ME) : Prop where
  e : ∀ ρ h Q X, (evE E m ρ h).sat Q X → wE G m ρ h Q X
  t : ∀ ρ h Q X, (evT E m ρ h).sat Q X → wT G m ρ h Q X
  es : ∀ ρ h Q X, (evEs E m ρ h).sat Q X → wEs G m ρ h Q X
  as : ∀ ρ h Q X, (evAs E m ρ h).sat Q X → wAs G m ρ h Q X
  a1 : ∀ ρ h Q X, (evA1 E m ρ h).sat Q X → wA1 G m ρ h Q X
  o : ∀ ρ h Q X, (evO E m ρ h).sat Q X → wO G m ρ h Q X
  i : ∀ ρ h (Q : List D → (Hd → Prop) → Hd → Prop) X, (evI E m ρ h).sat (fun is h => Q is.1 (stays h is.2) h) X → wI G m ρ h Q X
theorem evM {E : EG} {G : Gam} (g : EGok E G) (m : ME) : OkM E G m := by
  induction m with
  | c d => exact ⟨fun _ _ _ _ w => w, fun _ _ _ _ w => w.elim, fun _ _ _ _ w => w.elim, fun _ _ _ _ w => w.elim, fun _ _ _ _ w => w.elim, fun _ _ _ _ w => w.elim, fun _ _ _ _ w => w.elim⟩
  | g k => exact ⟨fun _ h Q _ w => (show Q (G.gc k) h from by rw [← g.gc]; exact w), fun _ _ _ _ w => w.elim, fun _ _ _ _ w => w.elim, fun _ _ _ _ w => w.elim, fun _ _ _ _ w => w.elim, fun _ _ _ _ w => w.elim, fun _ _ _ _ w => w.elim⟩
  | v i => exact ⟨fun _ _ _ _ w => sat_opt w fun a q => sat_ite q, fun _ _ _ _ w => w.elim, fun _ _ _ _ w => w.elim, fun _ _ _ _ w => w.elim, fun _ _ _ _ w => w.elim, fun _ _ _ _ w => w.elim, fun _ _ _ _ w => w.elim⟩
  | nl => exact ⟨fun _ _ _ _ w => w.elim, fun _ _ _ _ w => w.elim, fun _ _ _ _ w => w, fun _ _ _ _ w => w, fun _ _ _ _ w => w.elim, fun _ _ _ _ w => w, fun _ _ _ _ w => w.elim⟩
  | cn a r iha ihr =>
    refine ⟨fun _ _ _ _ w => w.elim, fun _ _ _ _ w => w.elim, fun ρ h Q X w => ?_, fun ρ h Q X w => ?_, fun _ _ _ _ w => w.elim, fun _ _ _ _ w => w.elim, fun _ _ _ _ w => w.elim⟩
    · exact iha.e _ _ _ _ (sat_bind w fun x h1 w1 => ihr.es _ _ _ _ (sat_bind w1 fun xs h2 w2 => w2))
    · exact iha.a1 _ _ _ _ (sat_bind w fun x h1 w1 => ihr.as _ _ _ _ (sat_bind w1 fun xs h2 w2 => w2))
  | tup a ih => exact ⟨fun _ _ _ _ w => ih.es _ _ _ _ (sat_bind w fun x h1 w1 => sat_ite w1), fun _ _ _ _ w => w.elim, fun _ _ _ _ w => w.elim, fun _ _ _ _ w => w.elim, fun _ _ _ _ w => w.elim, fun _ _ _ _ w => w.elim, fun _ _ _ _ w => w.elim⟩
  | lst a ih => exact ⟨fun _ _ _ _ w => ih.es _ _ _ _ (sat_bind w fun x h1 w1 => sat_ite w1), fun _ _ _ _ w => w.elim, fun _ _ _ _ w => w.elim, fun _ _ _ _ w => w.elim, fun _ _ _ _ w => w.elim, fun _ _ _ _ w => w.elim, fun _ _ _ _ w => w.elim⟩
  | lsh a ih => exact ⟨fun _ _ _ _ w => ih.es _ _ _ _ (sat_bind w fun x h1 w1 => sat_ite w1), fun _ _ _ _ w => w.elim, fun _ _ _ _ w => w.elim, fun _ _ _ _ w => w.elim, fun _ _ _ _ w => w.elim, fun _ _ _ _ w => w.elim, fun _ _ _ _ w => w.elim⟩
  | dic => exact ⟨fun _ _ _ _ w => w, fun _ _ _ _ w => w.elim, fun _ _ _ _ w => w.elim, fun _ _ _ _ w => w.elim, fun _ _ _ _ w => w.elim, fun _ _ _ _ w => w.elim, fun _ _ _ _ w => w.elim⟩
  | neg a ih => exact ⟨fun _ _ _ _ w => ih.e _ _ _ _ (sat_bind w fun x h1 w1 => sat_asI w1 fun i q => q), fun _ _ _ _ w => w.elim, fun _ _ _ _ w => w.elim, fun _ _ _ _ w => w.elim, fun _ _ _ _ w => w.elim, fun _ _ _ _ w => w.elim, fun _ _ _ _ w => w.elim⟩
  | bin o a b iha ihb => exact ⟨fun _ _ _ _ w => iha.e _ _ _ _ (sat_bind w fun x h1 w1 => ihb.e _ _ _ _ (sat_bind w1 fun y h2 w2 => sat_opt w2 fun z q => q)), fun _ _ _ _ w => w.elim, fun _ _ _ _ w => w.elim, fun _ _ _ _ w => w.elim, fun _ _ _ _ w => w.elim, fun _ _ _ _ w => w.elim, fun _ _ _ _ w => w.elim⟩
  | cmp o a b iha ihb =>
    exact ⟨fun _ _ _ _ w => iha.e _ _ _ _ (sat_bind w fun x h1 w1 => ihb.e _ _ _ _ (sat_bind w1 fun y h2 w2 => sat_opt w2 fun z q => q)), fun _ _ _ _ w => iha.e _ _ _ _ (sat_bind w fun x h1 w1 => ihb.e _ _ _ _ (sat_bind w1 fun y h2 w2 => sat_opt w2 fun z q => q)),
      fun _ _ _ _ w => w.elim, fun _ _ _ _ w => w.elim, fun _ _ _ _ w => w.elim, fun _ _ _ _ w => w.elim, fun _ _ _ _ w => w.elim⟩
  | chn o p a b c iha ihb ihc =>
    exact ⟨fun _ _ _ _ w => iha.e _ _ _ _ (sat_bind w fun x h1 w1 => ihb.e _ _ _ _ (sat_bind w1 fun y h2 w2 => sat_tri w2 (fun w3 => ihc.e _ _ _ _ (sat_bind w3 fun z h3 w4 => sat_opt w4 fun z q => q)) fun q => q)),
      fun _ _ _ _ w => iha.e _ _ _ _ (sat_bind w fun x h1 w1 => ihb.e _ _ _ _ (sat_bind w1 fun y h2 w2 => sat_tri w2 (fun w3 => ihc.e _ _ _ _ (sat_bind w3 fun z h3 w4 => sat_opt w4 fun z q => q)) fun q => q)),
      fun _ _ _ _ w => w.elim, fun _ _ _ _ w => w.elim, fun _ _ _ _ w => w.elim, fun _ _ _ _ w => w.elim, fun _ _ _ _ w => w.elim⟩
  | and a b iha ihb =>
    exact ⟨fun _ _ _ _ w => iha.e _ _ _ _ (sat_bind w fun x h1 w1 => sat_tri w1 (fun q => ihb.e _ _ _ _ q) fun q => q), fun _ _ _ _ w => iha.t _ _ _ _ (sat_bind w fun x h1 w1 => sat_ifR w1 (fun q => ihb.t _ _ _ _ q) fun q => q),
      fun _ _ _ _ w => w.elim, fun _ _ _ _ w => w.elim, fun _ _ _ _ w => w.elim, fun _ _ _ _ w => w.elim, fun _ _ _ _ w => w.elim⟩
  | or a b iha ihb =>
    exact ⟨fun _ _ _ _ w => iha.e _ _ _ _ (sat_bind w fun x h1 w1 => sat_tri w1 (fun q => q) fun q => ihb.e _ _ _ _ q), fun _ _ _ _ w => iha.t _ _ _ _ (sat_bind w fun x h1 w1 => sat_ifR w1 (fun q => q) fun q => ihb.t _ _ _ _ q),
      fun _ _ _ _ w => w.elim, fun _ _ _ _ w => w.elim, fun _ _ _ _ w => w.elim, fun _ _ _ _ w => w.elim, fun _ _ _ _ w => w.elim⟩
  | not a ih =>
    exact ⟨fun _ _ _ _ w => ih.e _ _ _ _ (sat_bind w fun x h1 w1 => sat_opt w1 fun z q => q), fun _ _ _ _ w => ih.t _ _ _ _ (sat_bind w fun x h1 w1 => w1), fun _ _ _ _ w => w.elim, fun _ _ _ _ w => w.elim, fun _ _ _ _ w => w.elim, fun _ _ _ _ w => w.elim, fun _ _ _ _ w => w.elim⟩
  | ite t a b iht iha ihb =>
    exact ⟨fun _ _ _ _ w => iht.t _ _ _ _ (sat_bind w fun c h1 w1 => sat_ifR w1 (fun q => iha.e _ _ _ _ q) fun q => ihb.e _ _ _ _ q), fun _ _ _ _ w => iht.t _ _ _ _ (sat_bind w fun c h1 w1 => sat_ifR w1 (fun q => iha.t _ _ _ _ q) fun q => ihb.t _ _ _ _ q),
      fun _ _ _ _ w => w.elim, fun _ _ _ _ w => w.elim, fun _ _ _ _ w => w.elim, fun _ _ _ _ w => w.elim, fun _ _ _ _ w => w.elim⟩
  | isa a ts ih => exact ⟨fun _ _ _ _ w => ih.e _ _ _ _ (sat_bind w fun x h1 w1 => sat_opt w1 fun z q => q), fun _ _ _ _ w => w.elim, fun _ _ _ _ w => w.elim, fun _ _ _ _ w => w.elim, fun _ _ _ _ w => w.elim, fun _ _ _ _ w => w.elim, fun _ _ _ _ w => w.elim⟩
  | ix a b iha ihb => exact ⟨fun _ _ _ _ w => iha.e _ _ _ _ (sat_bind w fun x h1 w1 => ihb.e _ _ _ _ (sat_bind w1 fun y h2 w2 => sat_opt w2 fun z q => q)), fun _ _ _ _ w => w.elim, fun _ _ _ _ w => w.elim, fun _ _ _ _ w => w.elim, fun _ _ _ _ w => w.elim, fun _ _ _ _ w => w.elim, fun _ _ _ _ w => w.elim⟩
  | slc a lo hi iha ihl ihh => exact ⟨fun _ _ _ _ w => iha.e _ _ _ _ (sat_bind w fun x h1 w1 => ihl.o _ _ _ _ (sat_bind w1 fun l h2 w2 => ihh.o _ _ _ _ (sat_bind w2 fun u h3 w3 => sat_opt w3 fun z q => q))), fun _ _ _ _ w => w.elim, fun _ _ _ _ w => w.elim, fun _ _ _ _ w => w.elim, fun _ _ _ _ w => w.elim, fun _ _ _ _ w => w.elim, fun _ _ _ _ w => w.elim⟩
  | call f es ih => exact ⟨fun _ _ _ _ w => ih.as _ _ _ _ (sat_bind w fun ds h1 w1 => g.cf _ _ _ _ _ w1), fun _ _ _ _ w => w.elim, fun _ _ _ _ w => w.elim, fun _ _ _ _ w => w.elim, fun _ _ _ _ w => w.elim, fun _ _ _ _ w => w.elim, fun _ _ _ _ w => w.elim⟩
  | clv i es ih =>
    refine ⟨fun ρ h Q X w => sat_opt w fun x w1 => ?_, fun _ _ _ _ w => w.elim, fun _ _ _ _ w => w.elim, fun _ _ _ _ w => w.elim, fun _ _ _ _ w => w.elim, fun _ _ _ _ w => w.elim, fun _ _ _ _ w => w.elim⟩
    unfold asF at w1
    unfold onF
    split at w1
    · obtain ⟨w2, w3⟩ := sat_ite w1
      exact ⟨w2, ih.as _ _ _ _ (sat_bind w3 fun ds h1 w4 => g.cl _ _ _ _ _ _ w4)⟩
    · exact ih.as _ _ _ _ (sat_bind w1 fun ds h1 w4 => g.cf _ _ _ _ _ w4)
    · exact w1.elim
  | new c es ih => exact ⟨fun _ _ _ _ w => ih.es _ _ _ _ (sat_bind w fun ds h1 w1 => g.nw _ _ _ _ _ w1), fun _ _ _ _ w => w.elim, fun _ _ _ _ w => w.elim, fun _ _ _ _ w => w.elim, fun _ _ _ _ w => w.elim, fun _ _ _ _ w => w.elim, fun _ _ _ _ w => w.elim⟩
  | bf b es ih => exact ⟨fun _ _ _ _ w => ih.es _ _ _ _ (sat_bind w fun ds h1 w1 => sat_opt w1 fun z q => q), fun _ _ _ _ w => w.elim, fun _ _ _ _ w => w.elim, fun _ _ _ _ w => w.elim, fun _ _ _ _ w => w.elim, fun _ _ _ _ w => w.elim, fun _ _ _ _ w => w.elim⟩
  | mt m a es iha ih =>
    refine ⟨fun ρ h Q X w => iha.e _ _ _ _ (sat_bind w fun x h1 w1 => ?_), fun _ _ _ _ w => w.elim, fun _ _ _ _ w => w.elim, fun _ _ _ _ w => w.elim, fun _ _ _ _ w => w.elim, fun _ _ _ _ w => w.elim, fun _ _ _ _ w => w.elim⟩
    obtain ⟨w2, w3⟩ := sat_ite w1
    exact ⟨w2, ih.es _ _ _ _ (sat_bind w3 fun ds h2 w4 => sat_mt w4)⟩
  | fld a f ih => exact ⟨fun _ _ _ _ w => w.elim, fun _ _ _ _ w => w.elim, fun _ _ _ _ w => w.elim, fun _ _ _ _ w => w.elim, fun _ _ _ _ w => w.elim, fun _ _ _ _ w => w.elim, fun _ _ _ _ w => w.elim⟩
  | met a m es iha ih => exact ⟨fun _ _ _ _ w => w.elim, fun _ _ _ _ w => w.elim, fun _ _ _ _ w => w.elim, fun _ _ _ _ w => w.elim, fun _ _ _ _ w => w.elim, fun _ _ _ _ w => w.elim, fun _ _ _ _ w => w.elim⟩
  | lc p it cond elt own ihi ihc ihe =>
    refine ⟨fun ρ h Q X w => ihi.i _ _ _ _ (sat_bind w fun is h1 w1 => ?_), fun _ _ _ _ w => w.elim, fun _ _ _ _ w => w.elim, fun _ _ _ _ w => w.elim, fun _ _ _ _ w => w.elim, fun _ _ _ _ w => w.elim, fun _ _ _ _ w => w.elim⟩
    obtain ⟨w2, w3⟩ := sat_ite w1
    refine ⟨w2, comp_ok (fun d h2 K X2 w4 => ?_) (fun h2 e => staysB_ok e) is.1 h1 _ X (sat_bind w3 fun ds h2 w4 => w4)⟩
    refine sat_opt w4 fun ρ' w5 => ihc.t _ _ _ _ (sat_calm (X := X2) (sat_bind w5 fun b h3 w6 => sat_ifR w6 (fun w7 => ihe.e _ _ _ _ (sat_calm (X := X2) (sat_bind w7 fun y h4 w8 => w8))) fun w7 => w7))
  | it1 k es ih => exact ⟨fun _ _ _ _ w => w.elim, fun _ _ _ _ w => w.elim, fun _ _ _ _ w => w.elim, fun _ _ _ _ w => w.elim, fun _ _ _ _ w => w.elim, fun _ _ _ _ w => w.elim, fun _ _ _ _ w => ih.es _ _ _ _ (sat_bind w fun ds h1 w1 => sat_opt w1 fun z q => q)⟩
  | tr e ih => exact ⟨fun _ _ _ _ w => w.elim, fun _ _ _ _ w => ih.e _ _ _ _ (sat_bind w fun ds h1 w1 => sat_opt w1 fun z q => q), fun _ _ _ _ w => w.elim, fun _ _ _ _ w => w.elim, fun _ _ _ _ w => w.elim, fun _ _ _ _ w => w.elim, fun _ _ _ _ w => w.elim⟩
  | vl e ih => exact ⟨fun _ _ _ _ w => w.elim, fun _ _ _ _ w => w.elim, fun _ _ _ _ w => w.elim, fun _ _ _ _ w => w.elim, fun _ _ _ _ w => ih.e _ _ _ _ w, fun _ _ _ _ w => w.elim, fun _ _ _ _ w => w.elim⟩
  | sm e ih => exact ⟨fun _ _ _ _ w => w.elim, fun _ _ _ _ w => w.elim, fun _ _ _ _ w => w.elim, fun _ _ _ _ w => w.elim, fun _ _ _ _ w => w.elim, fun _ _ _ _ w => ih.e _ _ _ _ (sat_bind w fun x h1 w1 => sat_asI w1 fun i q => q), fun _ _ _ _ w => w.elim⟩
  | va i => exact ⟨fun _ _ _ _ w => w.elim, fun _ _ _ _ w => w.elim, fun _ _ _ _ w => w.elim, fun _ _ _ _ w => w.elim, fun _ _ _ _ w => sat_opt w fun a q => sat_ite q, fun _ _ _ _ w => w.elim, fun _ _ _ _ w => w.elim⟩
  | lam k js => exact ⟨fun _ _ _ _ w => w.elim, fun _ _ _ _ w => w.elim, fun _ _ _ _ w => w.elim, fun _ _ _ _ w => w.elim, fun _ _ _ _ w => sat_opt w fun a q => sat_ite q, fun _ _ _ _ w => w.elim, fun _ _ _ _ w => w.elim⟩
  | fle i c j =>
    refine ⟨fun ρ h Q X w => sat_opt w fun x w1 => ?_, fun _ _ _ _ w => w.elim, fun _ _ _ _ w => w.elim, fun _ _ _ _ w => w.elim, fun _ _ _ _ w => w.elim, fun _ _ _ _ w => w.elim, fun _ _ _ _ w => w.elim⟩
    cases x with
    | exn c' ds =>
      obtain ⟨w2, w3⟩ := sat_ite w1
      exact ⟨w2, sat_opt w3 fun z q => q⟩
    | _ => exact w1.elim

section
variable {K : En} {ρ : Loc}
theorem to_ok {α : Type} {r : Rv α} {f : α → Hd → RS} {Q : α → Hd → Prop} (h : (r.to ρ f).sat K) (k : ∀ a h, (f a h).sat K → Q a h) : r.sat Q (K.ex ρ) := by
  cases r with
  | ok a h1 => exact k _ _ h
  | ex x h1 => exact h
  | no => exact h
theorem optS_ok {α : Type} {o : Option α} {f : α → RS} {P : α → Prop} (h : (optS o f).sat K) (k : ∀ a, (f a).sat K → P a) : opt o P := by
  cases o with
  | some a => exact k a h
  | none => exact h
theorem iteS_ok {c : Prop} [Decidable c] {r : RS} (h : (iteS c r).sat K) : c ∧ r.sat K := by
  unfold iteS at h
  split at h
  · exact ⟨by assumption, h⟩
  · exact h.elim
theorem ifS_ok {c : Bool} {a b : RS} {A B : Prop} (h : (ifS c a b).sat K) (ka : a.sat K → A) (kb : b.sat K → B) : if c = true then A else B := by
  unfold ifS at h
  split at h
  · exact ka h
  · exact kb h
theorem turn_ok {r : RS} {f : Loc → Hd → RS} {N : Loc → Hd → Prop} (h : (r.turn f).sat K) (k : ∀ ρ h, (f ρ h).sat K → N ρ h) : r.sat { K with nx := N, ct := N, bk := K.nx } := by
  cases r with
  | nx ρ h1 => exact k _ _ h
  | ct ρ h1 => exact k _ _ h
  | _ => exact h
theorem then_ok {r : RS} {f : Loc → Hd → RS} {N : Loc → Hd → Prop} (h : (r.then f).sat K) (k : ∀ ρ h, (f ρ h).sat K → N ρ h) : r.sat { K with nx := N } := by
  cases r with
  | nx ρ h1 => exact k _ _ h
  | _ => exact h
theorem for_ok {step : D → Loc → Hd → RS} {st : Hd → Bool} {step' : D → Loc → Hd → (Loc → Hd → Prop) → Prop} {st' : Hd → Prop} (hs : ∀ d ρ h N, (step d ρ h).sat { K with nx := N, ct := N, bk := K.nx } → step' d ρ h N) (ht : ∀ h, st h = true → st' h) :
    ∀ (ds : List D) (ρ : Loc) (h : Hd), (forE step st ds ρ h).sat K → forL step' st' ds ρ h K.nx
  | [], ρ, h, w => by
    obtain ⟨w1, w2⟩ := iteS_ok w
    exact ⟨ht _ w1, w2⟩
  | d :: ds, ρ, h, w => by
    obtain ⟨w1, w2⟩ := iteS_ok w
    exact ⟨ht _ w1, hs _ _ _ _ (turn_ok w2 fun ρ' h' w3 => for_ok hs ht ds ρ' h' w3)⟩
theorem whl_ok {test : Loc → Hd → Rv Bool} {body : Loc → Hd → RS} {test' : Loc → Hd → (Bool → Hd → Prop) → Prop} {body' : Loc → Hd → (Loc → Hd → Prop) → Prop} (ht : ∀ ρ h Q, (test ρ h).sat Q (K.ex ρ) → test' ρ h Q)
    (hb : ∀ ρ h N, (body ρ h).sat { K with nx := N, ct := N, bk := K.nx } → body' ρ h N) : ∀ (n : Nat) (ρ : Loc) (h : Hd), (whlE test body n ρ h).sat K → whlN test' body' n ρ h K.nx
  | 0, ρ, h, w => w.elim
  | n + 1, ρ, h, w => ht _ _ _ (to_ok w fun b h' w1 => ifS_ok w1 (fun w2 => hb _ _ _ (turn_ok w2 fun ρ' h'' w3 => whl_ok ht hb n ρ' h'' w3)) fun w2 => w2)
end
structure OkS (E : EG) (G : Gam) (fu : Nat) (m : MS) : Prop where
  s : ∀ ρ h K, (evS E fu m ρ h).sat K → wS G m ρ h K
  h : ∀ x ρ h K, (evH E fu m x ρ h).sat K → wH G m x ρ h K
theorem evSok {E : EG} {G : Gam} (g : EGok E G) (fu : Nat) (m : MS) : OkS E G fu m := by
  induction m with
  | skip => exact ⟨fun _ _ _ w => w, fun _ _ _ _ w => w.elim⟩
  | sq a b iha ihb => exact ⟨fun _ _ _ w => iha.s _ _ _ (then_ok w fun ρ h w1 => ihb.s _ _ _ w1), fun _ _ _ _ w => w.elim⟩
  | set p e => exact ⟨fun _ _ _ w => (evM g e).e _ _ _ _ (to_ok w fun d h w1 => optS_ok w1 fun ρ' w2 => w2), fun _ _ _ _ w => w.elim⟩
  | setIx o i e =>
    refine ⟨fun ρ h K w => (evM g e).e _ _ _ _ (to_ok w fun d h1 w1 => (evM g o).e _ _ _ _ (to_ok w1 fun x h2 w2 => (evM g i).e _ _ _ _ (to_ok w2 fun y h3 w3 => ?_))), fun _ _ _ _ w => w.elim⟩
    unfold setE at w3
    split at w3
    · rename_i n k
      split at w3
      · rename_i xs e1
        show onL h3 n _
        unfold onL
        rw [e1]
        exact optS_ok w3 fun j w4 => w4
      · exact w3.elim
    · exact w3.elim
  | setFl o f e => exact ⟨fun _ _ _ w => w.elim, fun _ _ _ _ w => w.elim⟩
  | aug i o e =>
    refine ⟨fun ρ h K w => optS_ok w fun x w1 => ?_, fun _ _ _ _ w => w.elim⟩
    obtain ⟨w2, w3⟩ := iteS_ok w1
    refine ⟨w2, (evM g e).e _ _ _ _ (to_ok w3 fun y h1 w4 => ?_)⟩
    unfold augE at w4
    split at w4
    · rename_i n ys
      obtain ⟨w5, w6⟩ := iteS_ok w4
      refine ⟨w5, ?_⟩
      unfold onL
      split at w6
      · rename_i xs e1
        first
        | exact iteS_ok w6
        | (rw [e1]; exact iteS_ok w6)
      · exact w6.elim
    · split at w4
      · exact .inl ⟨rfl, w4⟩
      · exact .inr ⟨rfl, w4⟩
      · exact w4.elim
    · exact w4.elim
  | augFl o f op e => exact ⟨fun _ _ _ w => w.elim, fun _ _ _ _ w => w.elim⟩
  | exp e => exact ⟨fun _ _ _ w => (evM g e).e _ _ _ _ (to_ok w fun d h w1 => w1), fun _ _ _ _ w => w.elim⟩
  | ret e => exact ⟨fun _ _ _ w => (evM g e).e _ _ _ _ (to_ok w fun d h w1 => w1), fun _ _ _ _ w => w.elim⟩
  | retn => exact ⟨fun _ _ _ w => w, fun _ _ _ _ w => w.elim⟩
  | ifS t a b iha ihb => exact ⟨fun _ _ _ w => (evM g t).t _ _ _ _ (to_ok w fun c h w1 => ifS_ok w1 (fun w2 => iha.s _ _ _ w2) fun w2 => ihb.s _ _ _ w2), fun _ _ _ _ w => w.elim⟩
  | whl t b ih => exact ⟨fun ρ h K w => ⟨fu, whl_ok (K := K) (test := fun ρ h => evT E t ρ h) (body := fun ρ h => evS E fu b ρ h) (fun ρ h Q w => (evM g t).t ρ h Q _ w) (fun ρ h N w => ih.s ρ h _ w) fu ρ h w⟩, fun _ _ _ _ w => w.elim⟩
  | forS p it b ih => exact ⟨fun ρ h K w => (evM g it).i _ _ _ _ (to_ok w fun is h1 w1 => for_ok (K := K) (step := fun d ρ h => optS (bindP p d ρ) fun ρ' => evS E fu b ρ' h) (st := staysB h1 is.2) (st' := stays h1 is.2) (fun d ρ h N w2 => optS_ok w2 fun ρ' w3 => ih.s ρ' h _ w3) (fun h e => staysB_ok e) is.1 ρ h1 w1), fun _ _ _ _ w => w.elim⟩
  | rais c es => exact ⟨fun ρ h K w => (evM g es).es _ _ _ _ (sat_bind (to_ok (Q := fun _ _ => False) w fun a h1 w1 => w1) fun ds h1 w2 => g.nw _ _ _ _ _ w2), fun _ _ _ _ w => w.elim⟩
  | tryS b hs ihb ihh =>
    refine ⟨fun ρ h K w => ihb.s _ _ _ ?_, fun _ _ _ _ w => w.elim⟩
    have w1 : ((evS E fu b ρ h).caught fun x ρ h => evH E fu hs x ρ h).sat K := w
    cases q : evS E fu b ρ h with
    | ex ρ' x h' =>
      rw [q] at w1
      exact ihh.h _ _ _ _ w1
    | _ =>
      rw [q] at w1
      exact w1
  | hc c s b r ihb ihr =>
    refine ⟨fun _ _ _ w => w.elim, fun x ρ h K w => ?_⟩
    have w0 : (if x.c = c then (match (generalizing := false) s with
        | some i => iteS (i < ρ.length) ((evS E fu b (ρ.set i (some (.exn x.c x.ds))) h).off i)
        | none => (evS E fu b ρ h).calm)
      else evH E fu r x ρ h).sat K := w
    show if x.c = c then _ else _
    by_cases e : x.c = c
    · rw [if_pos e] at w0 ⊢
      cases s with
      | some i =>
        obtain ⟨w1, w2⟩ := iteS_ok w0
        refine ⟨w1, ihb.s _ _ _ ?_⟩
        cases q : evS E fu b (ρ.set i (some (.exn x.c x.ds))) h with
        | nx ρ' h' => rw [q] at w2; exact iteS_ok w2
        | bk ρ' h' => rw [q] at w2; exact iteS_ok w2
        | ct ρ' h' => rw [q] at w2; exact iteS_ok w2
        | rt d h' => rw [q] at w2; exact w2
        | ex ρ' x' h' => rw [q] at w2; exact w2.elim
        | no => rw [q] at w2; exact w2.elim
      | none =>
        refine ihb.s _ _ _ ?_
        have w2 : (evS E fu b ρ h).calm.sat K := w0
        cases q : evS E fu b ρ h with
        | ex ρ' x' h' => rw [q] at w2; exact w2.elim
        | _ => rw [q] at w2; exact w2
    · rw [if_neg e] at w0 ⊢
      exact ihr.h _ _ _ _ w0
  | hn => exact ⟨fun _ _ _ w => w.elim, fun _ _ _ _ w => w⟩
  | brk => exact ⟨fun _ _ _ w => w, fun _ _ _ _ w => w.elim⟩
  | cnt => exact ⟨fun _ _ _ w => w, fun _ _ _ _ w => w.elim⟩
  | frz i =>
    refine ⟨fun ρ h K w => optS_ok w fun x w1 => ?_, fun _ _ _ _ w => w.elim⟩
    unfold lstAt at w1
    split at w1
    · rename_i n
      split at w1
      · rename_i xs e1
        show onL h n _
        unfold onL
        rw [e1]
        exact w1
      · exact w1.elim
    · exact w1.elim
  | kill i =>
    refine ⟨fun ρ h K w => optS_ok w fun x w1 => ?_, fun _ _ _ _ w => w.elim⟩
    unfold asR at w1
    split at w1
    · exact w1
    · exact w1.elim
theorem evN_ok (P : Prg) (fu : Nat) : ∀ n, EGok (evN P fu n) (callN P n)
  | 0 => ⟨rfl, fun _ _ _ _ _ w => w.elim, fun _ _ _ _ _ _ w => w.elim, fun _ _ _ _ _ w => w.elim⟩
  | n + 1 => by
    refine ⟨rfl, fun f ds h Q X w => ?_, fun k cs ds h Q X w => ?_, fun c ds h Q X w => ?_⟩
    · refine sat_opt w fun F w1 => ?_
      obtain ⟨w2, w3⟩ := sat_ite w1
      refine ⟨w2, (evSok (evN_ok P fu n) fu F.body).s _ _ _ ?_⟩
      cases q : evS (evN P fu n) fu F.body (startL F.nl ds) h with
      | nx ρ' h' => rw [q] at w3; exact w3
      | bk ρ' h' => rw [q] at w3; exact w3.elim
      | ct ρ' h' => rw [q] at w3; exact w3.elim
      | rt d h' => rw [q] at w3; exact w3
      | ex ρ' x' h' => rw [q] at w3; exact w3
      | no => rw [q] at w3; exact w3.elim
    · refine sat_opt w fun F w1 => ?_
      obtain ⟨w2, w3⟩ := sat_ite w1
      exact ⟨w2, (evM (evN_ok P fu n) F.body).e _ _ _ _ w3⟩
    · refine sat_opt w fun m w1 => ?_
      obtain ⟨w2, w3⟩ := sat_ite w1
      exact ⟨w2, w3⟩
end Mi
set_option maxHeartbeats 4000000
set_option linter.all false
set_option maxRecDepth 100000
/-! Mi: the small language's things and those of the layer. -/
namespace Mi
open PySem L2

/-- a lambda's code -/
structure LaC where
  q : Str
  params : Arguments
  body : Expr
  scope : Scope
  /-- its parameters; what it catches; its names -/
  ps : List Str
  fr : List Str
/-- what stands at fixed places: the defs, the classes; the tables of code objects -/
structure Tb where
  K : PySem.W.Frag
  fa : Nat → Option Addr
  ca : Nat → Option Addr
  at_ : Nat → Str
  cf : Nat → List Str
  la : Nat → LaC
  fd : Nat → FuncData
  fp : Nat → List Str
  tb : List (Addr × Str)
  /-- lists that are being made: not looked at -/
  hid : List Addr := []
abbrev Tb.hide (T : Tb) (h : List Addr) : Tb := ⟨T.K, T.fa, T.ca, T.at_, T.cf, T.la, T.fd, T.fp, T.tb, h⟩

mutual
def R (T : Tb) (μ : List Addr) (Lv : Addr → Prop) (H : Hp) : D → V → Prop
  | .non, v => v = .non
  | .bl b, v => v = .bl b
  | .int i, v => v = .int i
  | .str s, v => v = .str ⟨s.toArray⟩
  | .tup ds, v => ∃ p xs, v = .ref p ∧ SqT T.K H p xs ∧ Rs T μ Lv H ds xs
  | .lst ds, v => ∃ p xs, v = .ref p ∧ H p = some (.lst xs) ∧ (¬ Lv p ∧ p ∉ T.hid) ∧ Rs T μ Lv H ds xs
  | .ref n, v => ∃ a, μ[n]? = some a ∧ v = .ref a
  | .glo f, v => ∃ a, T.fa f = some a ∧ v = .ref a
  | .clo _ _, _ => False
  | .exn _ _, _ => False
def Rs (T : Tb) (μ : List Addr) (Lv : Addr → Prop) (H : Hp) : List D → List V → Prop
  | [], vs => vs = []
  | d :: ds, vs => ∃ x xs, vs = x :: xs ∧ R T μ Lv H d x ∧ Rs T μ Lv H ds xs
end
def isMut : O → Bool
  | .lst _ => true
  | .dic _ => true
  | .ins _ _ => true
  | _ => false
def Live (μ : List Addr) (hd : Hd) (a : Addr) : Prop := ∃ (n : Nat) (o : O), hd[n]? = some o ∧ isMut o = true ∧ μ[n]? = some a
def RF (T : Tb) (μ : List Addr) (Lv : Addr → Prop) (H : Hp) : List (Nat × D) → List (Str × V) → Prop
  | [], fs => fs = []
  | (f, d) :: r, fs => ∃ v rr, fs = (T.at_ f, v) :: rr ∧ R T μ Lv H d v ∧ RF T μ Lv H r rr
/-- a list that is only read: tracked, or one of the module's -/
def RoL (T : Tb) (Lv : Addr → Prop) (H : Hp) (a : Addr) (xs : List V) : Prop :=
  (Rd H a (.lst xs) ∧ (¬ Lv a ∧ a ∉ T.hid)) ∨ ∃ (o : Obj) (its : Array Value) (n : Nat), T.K.lookup a = some o ∧ o.cls = .type "list" ∧ o.dict = none ∧ o.data = .seq its n ∧ its.size ≤ sizeLine ∧ Vals xs its.toList
theorem RoL.sql {T : Tb} {Lv : Addr → Prop} {H : Hp} {a : Addr} {xs : List V} (h : RoL T Lv H a xs) : SqL T.K H a xs := by
  rcases h with h | h
  · exact .inl h.1
  · exact .inr h
def RO (T : Tb) (μ : List Addr) (Lv : Addr → Prop) (H : Hp) : O → Addr → Prop
  | .lst ds, a => ∃ xs, H a = some (.lst xs) ∧ Rs T μ Lv H ds xs
  | .rol ds, a => ∃ xs, RoL T Lv H a xs ∧ Rs T μ Lv H ds xs
  | .dic _, _ => False
  | .ins c fs, a => ∃ C dx vs, T.ca c = some C ∧ H a = some (.ins C dx vs) ∧ RF T μ Lv H fs vs
  | .dead, _ => True
structure HS (T : Tb) (μ : List Addr) (hd : Hd) (H : Hp) : Prop where
  len : μ.length = hd.length
  inj : ∀ (i j : Nat) (a : Addr) (oi oj : O), hd[i]? = some oi → isMut oi = true → μ[i]? = some a → hd[j]? = some oj → isMut oj = true → μ[j]? = some a → i = j
  obj : ∀ (n : Nat) (o : O) (a : Addr), hd[n]? = some o → μ[n]? = some a → RO T μ (Live μ hd) H o a
  tabs : LamX.Tabs T.tb H
  hidp : ∀ a ∈ T.hid, (∃ xs, H a = some (.lst xs)) ∧ ¬ Live μ hd a
/-- one state behind another: what is not ours to write stays -/
structure Stp (μ : List Addr) (hd : Hd) (H : Hp) (μ' : List Addr) (hd' : Hd) (H' : Hp) : Prop where
  ext : ∃ t, μ' = μ ++ t
  lv : ∀ a, Live μ' hd' a → Live μ hd a ∨ H a = none
  kp : ∀ a o, H a = some o → ¬ Live μ hd a → (∀ ps, o ≠ .tbl ps) → H' a = some o
  tk : ∀ a ps, H a = some (.tbl ps) → ∃ ps', H' a = some (.tbl ps')

section
variable {T : Tb} {μ μ' μ2 : List Addr} {hd hd' hd2 : Hd} {H H' H2 : Hp}
theorem Stp.refl : Stp μ hd H μ hd H := ⟨⟨[], by simp⟩, fun _ h => .inl h, fun _ _ h _ _ => h, fun _ ps h => ⟨ps, h⟩⟩
theorem Stp.trans (a : Stp μ hd H μ' hd' H') (b : Stp μ' hd' H' μ2 hd2 H2) : Stp μ hd H μ2 hd2 H2 := by
  obtain ⟨t, e⟩ := a.ext
  obtain ⟨t2, e2⟩ := b.ext
  refine ⟨⟨t ++ t2, by rw [e2, e, List.append_assoc]⟩, fun x h => ?_, fun x o h n nt => ?_, fun x ps h => ?_⟩
  · rcases b.lv x h with q | q
    · exact a.lv x q
    · cases hx : H x with
      | none => exact .inr rfl
      | some o =>
        by_cases l : Live μ hd x
        · exact .inl l
        · by_cases ht : ∃ ps, o = .tbl ps
          · obtain ⟨ps, rfl⟩ := ht
            obtain ⟨o', e'⟩ := a.tk x ps hx
            rw [e'] at q
            cases q
          · have := a.kp x o hx l fun ps z => ht ⟨ps, z⟩
            rw [this] at q
            cases q
  · refine b.kp x o (a.kp x o h n nt) (fun l => ?_) nt
    rcases a.lv x l with q | q
    · exact n q
    · rw [h] at q
      cases q
  · obtain ⟨ps', h'⟩ := a.tk x ps h
    exact b.tk x ps' h'
theorem HS.notlive {a : Addr} (hs : HS T μ hd H) (l : Live μ hd a) : (∃ xs, H a = some (.lst xs)) ∨ ∃ C dx vs, H a = some (.ins C dx vs) := by
  obtain ⟨n, o, e, m, ea⟩ := l
  have q := hs.obj n o a e ea
  cases o with
  | lst ds => obtain ⟨xs, h, _⟩ := q; exact .inl ⟨xs, h⟩
  | rol ds => cases m
  | dic kvs => exact q.elim
  | ins c fs => obtain ⟨C, dx, vs, _, h, _⟩ := q; exact .inr ⟨C, dx, vs, h⟩
  | dead => cases m
theorem HS.live_ne {a : Addr} {o : HO} (hs : HS T μ hd H) (h : H a = some o) (n1 : ∀ xs, o ≠ .lst xs) (n2 : ∀ C dx vs, o ≠ .ins C dx vs) : ¬ Live μ hd a := fun l => by
  rcases hs.notlive l with ⟨xs, e⟩ | ⟨C, dx, vs, e⟩
  · rw [h] at e; exact n1 xs (Option.some.inj e)
  · rw [h] at e; exact n2 _ _ _ (Option.some.inj e)
theorem SqT.stp {a : Addr} {xs : List V} {K : PySem.W.Frag} (hs : HS T μ hd H) (s : Stp μ hd H μ' hd' H') (h : SqT K H a xs) : SqT K H' a xs := by
  rcases h with (h | ⟨o, h⟩) | h
  · exact .inl (.inl (s.kp a _ h (hs.live_ne h (fun _ z => by cases z) (fun _ _ _ z => by cases z)) fun _ z => by cases z))
  · exact .inl (.inr ⟨o, s.kp a _ h (hs.live_ne h (fun _ z => by cases z) (fun _ _ _ z => by cases z)) fun _ z => by cases z⟩)
  · exact .inr h
theorem Stp.lv_keep {a : Addr} {o : HO} (s : Stp μ hd H μ' hd' H') (h : H a = some o) (n : ¬ Live μ hd a) : ¬ Live μ' hd' a := fun l => by
  rcases s.lv a l with q | q
  · exact n q
  · rw [h] at q; cases q
mutual
theorem R.stp (hs : HS T μ hd H) (s : Stp μ hd H μ' hd' H') : ∀ (d : D) (v : V), R T μ (Live μ hd) H d v → R T μ' (Live μ' hd') H' d v
  | .non, _, h => h
  | .bl _, _, h => h
  | .int _, _, h => h
  | .str _, _, h => h
  | .tup ds, _, h => by
    obtain ⟨p, xs, e, h1, h2⟩ := h
    exact ⟨p, xs, e, SqT.stp hs s h1, Rs.stp hs s ds xs h2⟩
  | .lst ds, _, h => by
    obtain ⟨p, xs, e, h1, n, h2⟩ := h
    exact ⟨p, xs, e, s.kp p _ h1 n.1 (fun _ z => by cases z), ⟨s.lv_keep h1 n.1, n.2⟩, Rs.stp hs s ds xs h2⟩
  | .ref n, _, h => by
    obtain ⟨a, e, e2⟩ := h
    obtain ⟨t, et⟩ := s.ext
    refine ⟨a, ?_, e2⟩
    rw [et, List.getElem?_append_left (List.getElem?_eq_some_iff.mp e).1]
    exact e
  | .glo _, _, h => h
  | .clo _ _, _, h => h
  | .exn _ _, _, h => h
theorem Rs.stp (hs : HS T μ hd H) (s : Stp μ hd H μ' hd' H') : ∀ (ds : List D) (vs : List V), Rs T μ (Live μ hd) H ds vs → Rs T μ' (Live μ' hd') H' ds vs
  | [], _, h => h
  | d :: ds, _, h => by
    obtain ⟨x, xs, e, h1, h2⟩ := h
    exact ⟨x, xs, e, R.stp hs s d x h1, Rs.stp hs s ds xs h2⟩
end
mutual
/-- .. more is hidden, that was not there yet -/
theorem R.stpH (hs : HS T μ hd H) (s : Stp μ hd H μ' hd' H') {hi : List Addr} (hh : ∀ a ∈ hi, a ∈ T.hid ∨ H a = none) : ∀ (d : D) (v : V), R T μ (Live μ hd) H d v → R (T.hide hi) μ' (Live μ' hd') H' d v
  | .non, _, h => h
  | .bl _, _, h => h
  | .int _, _, h => h
  | .str _, _, h => h
  | .tup ds, _, h => by
    obtain ⟨p, xs, e, h1, h2⟩ := h
    exact ⟨p, xs, e, SqT.stp hs s h1, Rs.stpH hs s hh ds xs h2⟩
  | .lst ds, _, h => by
    obtain ⟨p, xs, e, h1, n, h2⟩ := h
    refine ⟨p, xs, e, s.kp p _ h1 n.1 (fun _ z => by cases z), ⟨s.lv_keep h1 n.1, fun hp => ?_⟩, Rs.stpH hs s hh ds xs h2⟩
    rcases hh p hp with q | q
    · exact n.2 q
    · rw [h1] at q; cases q
  | .ref n, _, h => by
    obtain ⟨a, e, e2⟩ := h
    obtain ⟨t, et⟩ := s.ext
    refine ⟨a, ?_, e2⟩
    rw [et, List.getElem?_append_left (List.getElem?_eq_some_iff.mp e).1]
    exact e
  | .glo _, _, h => h
  | .clo _ _, _, h => h
  | .exn _ _, _, h => h
theorem Rs.stpH (hs : HS T μ hd H) (s : Stp μ hd H μ' hd' H') {hi : List Addr} (hh : ∀ a ∈ hi, a ∈ T.hid ∨ H a = none) : ∀ (ds : List D) (vs : List V), Rs T μ (Live μ hd) H ds vs → Rs (T.hide hi) μ' (Live μ' hd') H' ds vs
  | [], _, h => h
  | d :: ds, _, h => by
    obtain ⟨x, xs, e, h1, h2⟩ := h
    exact ⟨x, xs, e, R.stpH hs s hh d x h1, Rs.stpH hs s hh ds xs h2⟩
end
theorem RF.stp (hs : HS T μ hd H) (s : Stp μ hd H μ' hd' H') : ∀ (fs : List (Nat × D)) (vs : List (Str × V)), RF T μ (Live μ hd) H fs vs → RF T μ' (Live μ' hd') H' fs vs
  | [], _, h => h
  | (f, d) :: r, _, h => by
    obtain ⟨v, rr, e, h1, h2⟩ := h
    exact ⟨v, rr, e, R.stp hs s d v h1, RF.stp hs s r rr h2⟩
theorem Rs.length : ∀ {ds : List D} {vs : List V}, Rs T μ (Live μ hd) H ds vs → vs.length = ds.length
  | [], _, h => by rw [show _ = [] from h]; rfl
  | d :: ds, _, h => by
    obtain ⟨x, xs, rfl, _, h2⟩ := h
    rw [List.length_cons, List.length_cons, Rs.length h2]
theorem Rs.get {Lv : Addr → Prop} : ∀ {ds : List D} {vs : List V} {i : Nat} {d : D}, Rs T μ Lv H ds vs → ds[i]? = some d → ∃ v, vs[i]? = some v ∧ R T μ Lv H d v
  | [], _, _, _, _, e => by simp at e
  | d :: ds, _, 0, _, h, e => by
    obtain ⟨x, xs, rfl, h1, _⟩ := h
    simp at e; subst e
    exact ⟨x, rfl, h1⟩
  | d :: ds, _, i + 1, _, h, e => by
    obtain ⟨x, xs, rfl, _, h2⟩ := h
    obtain ⟨v, e1, e2⟩ := Rs.get (i := i) h2 (by simpa using e)
    exact ⟨v, by simpa using e1, e2⟩
theorem Rs.append {Lv : Addr → Prop} : ∀ {ds es : List D} {vs ws : List V}, Rs T μ Lv H ds vs → Rs T μ Lv H es ws → Rs T μ Lv H (ds ++ es) (vs ++ ws)
  | [], _, _, _, h, h' => by rw [show _ = [] from h]; exact h'
  | d :: ds, es, _, ws, h, h' => by
    obtain ⟨x, xs, rfl, h1, h2⟩ := h
    exact ⟨x, xs ++ ws, rfl, h1, Rs.append h2 h'⟩
theorem Rs.set {Lv : Addr → Prop} {e : D} {y : V} (r : R T μ Lv H e y) : ∀ {ds : List D} {vs : List V} (i : Nat), Rs T μ Lv H ds vs → Rs T μ Lv H (ds.set i e) (vs.set i y)
  | [], _, i, h => by rw [show _ = [] from h]; exact rfl
  | d :: ds, _, 0, h => by
    obtain ⟨x, xs, rfl, h1, h2⟩ := h
    exact ⟨y, xs, rfl, r, h2⟩
  | d :: ds, _, i + 1, h => by
    obtain ⟨x, xs, rfl, h1, h2⟩ := h
    exact ⟨x, xs.set i y, rfl, h1, Rs.set r i h2⟩
theorem Rs.drop {Lv : Addr → Prop} : ∀ {ds : List D} {vs : List V} (n : Nat), Rs T μ Lv H ds vs → Rs T μ Lv H (ds.drop n) (vs.drop n)
  | _, _, 0, h => h
  | [], _, n + 1, h => by rw [show _ = [] from h]; exact rfl
  | d :: ds, _, n + 1, h => by
    obtain ⟨x, xs, rfl, _, h2⟩ := h
    exact Rs.drop n h2
theorem Rs.take {Lv : Addr → Prop} : ∀ {ds : List D} {vs : List V} (n : Nat), Rs T μ Lv H ds vs → Rs T μ Lv H (ds.take n) (vs.take n)
  | _, _, 0, h => rfl
  | [], _, n + 1, h => by rw [show _ = [] from h]; exact rfl
  | d :: ds, _, n + 1, h => by
    obtain ⟨x, xs, rfl, h1, h2⟩ := h
    exact ⟨x, xs.take n, rfl, h1, Rs.take n h2⟩
theorem Rs.rep {Lv : Addr → Prop} {ds : List D} {vs : List V} (h : Rs T μ Lv H ds vs) : ∀ k : Nat, Rs T μ Lv H (repL ds k) (List.replicate k vs).flatten
  | 0 => rfl
  | k + 1 => by
    unfold repL
    rw [List.replicate_succ, List.replicate_succ, List.flatten_cons, List.flatten_cons]
    exact Rs.append h (Rs.rep h k)
/-- fresh things may be laid -/
theorem Live.snoc {a p : Addr} {o : O} (hl : μ.length = hd.length) (l : Live (μ ++ [p]) (hd ++ [o]) a) : Live μ hd a ∨ (isMut o = true ∧ a = p) := by
  obtain ⟨n, u, e, m, ea⟩ := l
  by_cases h : n < hd.length
  · rw [List.getElem?_append_left h] at e
    rw [List.getElem?_append_left (by omega)] at ea
    exact .inl ⟨n, u, e, m, ea⟩
  · have hn : n = hd.length := by
      have := (List.getElem?_eq_some_iff.mp e).1
      rw [List.length_append, List.length_singleton] at this
      omega
    subst hn
    rw [List.getElem?_append_right (Nat.le_refl _), Nat.sub_self] at e
    rw [List.getElem?_append_right (by omega), hl, Nat.sub_self] at ea
    have e1 : o = u := by simpa using e
    have e2 : p = a := by simpa using ea
    subst e1; subst e2
    exact .inr ⟨m, rfl⟩
/-- a new object of the layer that is no thing of the small heap: a tuple, a list of one's own -/
theorem Stp.new {p : Addr} {o : HO} (hn : H p = none) : Stp μ hd H μ hd (upd H p o) :=
  ⟨⟨[], by simp⟩, fun _ h => .inl h, fun a u e _ _ => by rw [upd_ne (ne_of_none e hn)]; exact e, fun a ps e => ⟨ps, by rw [upd_ne (ne_of_none e hn)]; exact e⟩⟩
theorem Live.notnew {p : Addr} (hs : HS T μ hd H) (hn : H p = none) : ¬ Live μ hd p := fun l => by
  rcases hs.notlive l with ⟨xs, e⟩ | ⟨C, dx, vs, e⟩ <;> rw [hn] at e <;> cases e
theorem RF.stpH (hs : HS T μ hd H) (s : Stp μ hd H μ' hd' H') {hi : List Addr} (hh : ∀ a ∈ hi, a ∈ T.hid ∨ H a = none) : ∀ (fs : List (Nat × D)) (vs : List (Str × V)), RF T μ (Live μ hd) H fs vs → RF (T.hide hi) μ' (Live μ' hd') H' fs vs
  | [], _, h => h
  | (f, d) :: r, _, h => by
    obtain ⟨v, rr, e, h1, h2⟩ := h
    exact ⟨v, rr, e, R.stpH hs s hh d v h1, RF.stpH hs s hh r rr h2⟩
theorem RO.stpH (hs : HS T μ hd H) (s : Stp μ hd H μ' hd' H') {hi : List Addr} (hh : ∀ a ∈ hi, a ∈ T.hid ∨ H a = none) {o : O} {a : Addr} (h : RO T μ (Live μ hd) H o a) (hm : isMut o = true → H' a = H a) : RO (T.hide hi) μ' (Live μ' hd') H' o a := by
  cases o with
  | lst ds =>
    obtain ⟨xs, e, r⟩ := h
    exact ⟨xs, (hm rfl).trans e, Rs.stpH hs s hh _ _ r⟩
  | rol ds =>
    obtain ⟨xs, e, r⟩ := h
    rcases e with ⟨e, n⟩ | e
    · have nh : ∀ o, H a = some o → a ∉ hi := fun o ho ha => by
        rcases hh a ha with q | q
        · exact n.2 q
        · rw [ho] at q; cases q
      rcases e with e | ⟨ob, e⟩
      · exact ⟨xs, .inl ⟨.inl (s.kp a _ e n.1 fun _ z => by cases z), ⟨s.lv_keep e n.1, nh _ e⟩⟩, Rs.stpH hs s hh _ _ r⟩
      · exact ⟨xs, .inl ⟨.inr ⟨ob, s.kp a _ e n.1 fun _ z => by cases z⟩, ⟨s.lv_keep e n.1, nh _ e⟩⟩, Rs.stpH hs s hh _ _ r⟩
    · exact ⟨xs, .inr e, Rs.stpH hs s hh _ _ r⟩
  | dic kvs => exact h.elim
  | ins c fs =>
    obtain ⟨C, dx, vs, e1, e2, r⟩ := h
    exact ⟨C, dx, vs, e1, (hm rfl).trans e2, RF.stpH hs s hh _ _ r⟩
  | dead => exact True.intro
theorem RO.stp (hs : HS T μ hd H) (s : Stp μ hd H μ' hd' H') {o : O} {a : Addr} (h : RO T μ (Live μ hd) H o a) (hm : isMut o = true → H' a = H a) : RO T μ' (Live μ' hd') H' o a := by
  cases o with
  | lst ds =>
    obtain ⟨xs, e, r⟩ := h
    exact ⟨xs, (hm rfl).trans e, Rs.stp hs s _ _ r⟩
  | rol ds =>
    obtain ⟨xs, e, r⟩ := h
    rcases e with ⟨e, n⟩ | e
    · rcases e with e | ⟨ob, e⟩
      · exact ⟨xs, .inl ⟨.inl (s.kp a _ e n.1 fun _ z => by cases z), ⟨s.lv_keep e n.1, n.2⟩⟩, Rs.stp hs s _ _ r⟩
      · exact ⟨xs, .inl ⟨.inr ⟨ob, s.kp a _ e n.1 fun _ z => by cases z⟩, ⟨s.lv_keep e n.1, n.2⟩⟩, Rs.stp hs s _ _ r⟩
    · exact ⟨xs, .inr e, Rs.stp hs s _ _ r⟩
  | dic kvs => exact h.elim
  | ins c fs =>
    obtain ⟨C, dx, vs, e1, e2, r⟩ := h
    exact ⟨C, dx, vs, e1, (hm rfl).trans e2, RF.stp hs s _ _ r⟩
  | dead => exact True.intro
theorem HS.new {p : Addr} {o : HO} (hs : HS T μ hd H) (hn : H p = none) : HS T μ hd (upd H p o) := by
  have s : Stp μ hd H μ hd (upd H p o) := Stp.new hn
  refine ⟨hs.len, hs.inj, fun n u a e ea => RO.stp hs s (hs.obj n u a e ea) fun m => ?_, hs.tabs.ext fun b u e => by rw [upd_ne (ne_of_none e hn)]; exact e, fun b hb => ?_⟩
  rotate_left
  · obtain ⟨⟨xs, e⟩, n⟩ := hs.hidp b hb
    exact ⟨⟨xs, by rw [upd_ne (ne_of_none e hn)]; exact e⟩, n⟩
  refine upd_ne fun z => ?_
  subst z
  exact Live.notnew hs hn ⟨n, u, e, m, ea⟩
theorem HS.nothid {p : Addr} (hs : HS T μ hd H) (hn : H p = none) : p ∉ T.hid := fun hb => by
  obtain ⟨⟨xs, e⟩, _⟩ := hs.hidp p hb
  rw [hn] at e
  cases e
theorem HS.hidStp (hs : HS T μ hd H) (s : Stp μ hd H μ' hd' H') : ∀ a ∈ T.hid, (∃ xs, H' a = some (.lst xs)) ∧ ¬ Live μ' hd' a := fun a ha => by
  obtain ⟨⟨xs, e⟩, n⟩ := hs.hidp a ha
  exact ⟨⟨xs, s.kp a _ e n fun _ z => by cases z⟩, s.lv_keep e n⟩
theorem HS.tbl {x : Addr} (hs : HS T μ hd H) {ps : Array Value} (h : H x = some (.tbl ps)) : ¬ Live μ hd x := hs.live_ne h (fun _ z => by cases z) (fun _ _ _ z => by cases z)
end
end Mi
set_option linter.all false
set_option maxRecDepth 100000
set_option maxHeartbeats 1000000
/-! Mi: the operations are the layer's. -/
namespace Mi
open PySem L2

def Nx (T : Tb) (μ : List Addr) (hd : Hd) (H : Hp) (Q : VK) : KD := fun d hd' => ∀ μ' H' v, Stp μ hd H μ' hd' H' → HS T μ' hd' H' → R T μ' (Live μ' hd') H' d v → Q v H'
section
variable {T : Tb} {μ μ' μ2 : List Addr} {hd hd' hd2 : Hd} {H H' H2 : Hp} {Q : VK}
theorem Nx.stp (s : Stp μ hd H μ' hd' H') {d : D} {hd2 : Hd} (n : Nx T μ hd H Q d hd2) : Nx T μ' hd' H' Q d hd2 := fun μ2 H2 v s2 hs r => n μ2 H2 v (s.trans s2) hs r
/-- at once -/
theorem Nx.now {d : D} {v : V} (n : Nx T μ hd H Q d hd) (hs : HS T μ hd H) (r : R T μ (Live μ hd) H d v) : Q v H := n μ H v Stp.refl hs r
/-- a new tuple -/
theorem Nx.tup {ds : List D} {xs : List V} (n : Nx T μ hd H Q (.tup ds) hd) (hs : HS T μ hd H) (r : Rs T μ (Live μ hd) H ds xs) {p : Addr} (hp : H p = none) : Q (.ref p) (upd H p (.tup xs)) :=
  n μ _ _ (Stp.new hp) (hs.new hp) ⟨p, xs, rfl, .inl (.inl upd_same), Rs.stp hs (Stp.new hp) _ _ r⟩
/-- a new list -/
theorem Nx.lst {ds : List D} {xs : List V} (n : Nx T μ hd H Q (.lst ds) hd) (hs : HS T μ hd H) (r : Rs T μ (Live μ hd) H ds xs) {p : Addr} (hp : H p = none) : Q (.ref p) (upd H p (.lst xs)) :=
  n μ _ _ (Stp.new hp) (hs.new hp) ⟨p, xs, rfl, upd_same, ⟨Live.notnew hs hp, hs.nothid hp⟩, Rs.stp hs (Stp.new hp) _ _ r⟩
/-- what may be read as a row -/
theorem seqOf_ok {x : V} {d : D} {ds : List D} (hs : HS T μ hd H) (r : R T μ (Live μ hd) H d x) (e : seqOf hd d = some ds) : ∃ p xs, x = .ref p ∧ (SqL T.K H p xs ∨ SqT T.K H p xs) ∧ Rs T μ (Live μ hd) H ds xs := by
  cases d with
  | lst es =>
    obtain ⟨p, xs, ex, h1, n, h2⟩ := r
    have e : some es = some ds := e
    cases e
    exact ⟨p, xs, ex, .inl (.inl (.inl h1)), h2⟩
  | tup es =>
    obtain ⟨p, xs, ex, h1, h2⟩ := r
    have e : some es = some ds := e
    cases e
    exact ⟨p, xs, ex, .inr h1, h2⟩
  | ref n =>
    obtain ⟨a, ea, ex⟩ := r
    simp only [seqOf] at e
    cases ho : hd[n]? with
    | none => rw [ho] at e; cases e
    | some o =>
      rw [ho] at e
      have q := hs.obj n o a ho ea
      cases o with
      | lst es =>
        have e : some es = some ds := e
        cases e
        obtain ⟨xs, h1, h2⟩ := q
        exact ⟨a, xs, ex, .inl (.inl (.inl h1)), h2⟩
      | rol es =>
        have e : some es = some ds := e
        cases e
        obtain ⟨xs, h1, h2⟩ := q
        exact ⟨a, xs, ex, .inl h1.sql, h2⟩
      | _ => cases e
  | _ => cases e
end
theorem sz_eq : sizeLine = sizeMax := sizeLine_eq
theorem str_len (l : List Nat) : Str.length ⟨l.toArray⟩ = l.length := by unfold Str.length; simp
theorem str_app (a b : List Nat) : (⟨a.toArray⟩ : Str) ++ (⟨b.toArray⟩ : Str) = ⟨(a ++ b).toArray⟩ := by
  show (⟨a.toArray ++ b.toArray⟩ : Str) = _
  simp
def bo : Bi → Operator
  | .add => .Add
  | .sub => .Sub
  | .mul => .Mult
  | .div => .FloorDiv
  | .mod => .Mod
  | .pow => .Pow
def rB0 (T : Tb) (o : Bi) : R2 := fun x y H Q => ∃ μ hd d e, HS T μ hd H ∧ R T μ (Live μ hd) H d x ∧ R T μ (Live μ hd) H e y ∧ opt (opB hd o d e) fun z => Nx T μ hd H Q z hd
theorem mulOk_ok {i j : Int} (h : mulOk i j = true) : PySem.IntMulOk i j := by
  unfold mulOk at h
  simp only [Bool.or_eq_true, decide_eq_true_eq] at h
  rcases h with (h | h) | h
  · exact CMul.ok (.inl ⟨by omega, by omega⟩)
  · exact CMul.ok (.inr ⟨by omega, by omega⟩)
  · exact CMulW.ok h
section
variable {X : Cx} {T : Tb}
theorem rep_arr (l : List Nat) : ∀ (k : Nat) (acc : List Nat), (List.replicate k l.toArray).foldl (· ++ ·) acc.toArray = (acc ++ repL l k).toArray
  | 0, acc => by simp [repL]
  | k + 1, acc => by
    rw [List.replicate_succ, List.foldl_cons]
    have e : acc.toArray ++ l.toArray = (acc ++ l).toArray := by simp
    rw [e, rep_arr l k (acc ++ l)]
    unfold repL
    rw [List.replicate_succ, List.flatten_cons, List.append_assoc]
theorem rep_len {α : Type} (l : List α) (k : Nat) : (repL l k).length = k * l.length := PyProof.Rows.lm_len_rep_flat l k
theorem strRep {l : List Nat} {k : Int} {t u : Tok} {s : Shared} {A : Around} {E : Value → Shared → Prop} {Q : Value → Shared → Prop} {M : Program} {w : World} (h0 : 0 ≤ k) (hbig : k < 9223372036854775808) (hz : l.length * k.toNat ≤ sizeMax)
    (h : ∀ (z : Tok) (n : Nat), Q (.str ⟨(repL l k.toNat).toArray⟩ z) { s with toks := n }) : wpAny (model M w) A (binaryOp .Mult (.str ⟨l.toArray⟩ t) (.int k u)) Q E s := by
  by_cases h1 : k < 1
  · have e : k = 0 := by omega
    subst e
    refine PySem.P.mul_str_none (by omega) (by omega) ?_
    have := h s.toks (s.toks + 1)
    exact this
  have hb : l ≠ [] → ¬ (((⟨l.toArray⟩ : Str).length : Int) > (2 ^ 63 - 1) / k) := fun hl0 => by
    have hlen : 0 < l.length := List.length_pos_iff.mpr hl0
    have hlk : (l.length : Int) * k ≤ 16777216 := by
      have : ((l.length * k.toNat : Nat) : Int) ≤ ((16777216 : Nat) : Int) := Int.ofNat_le.mpr hz
      rw [Int.natCast_mul, Int.toNat_of_nonneg h0] at this
      exact this
    rw [str_len]
    have : (l.length : Int) ≤ (2 ^ 63 - 1) / k := (Int.le_ediv_iff_mul_le (by omega)).mpr (by omega)
    omega
  have ne : ((k == 1 || (⟨l.toArray⟩ : Str).length == 0) = false) → l ≠ [] := fun c e => by
    subst e
    simp [Str.length] at c
  refine PySem.P.mul_str (by rw [decide_eq_false (show ¬ k < -(2 ^ 63 : Int) by omega), decide_eq_false (show ¬ k ≥ 2 ^ 63 by omega)]; rfl) (fun _ c => hb (ne c)) (fun _ c => ?_) ?_
  · rw [str_len]
    unfold Builtin.Str.tooLong
    rw [sz_eq]
    exact decide_eq_false (by omega)
  · rw [if_neg h1]
    by_cases c : (k == 1 || (⟨l.toArray⟩ : Str).length == 0) = true
    · rw [if_pos c]
      have e : repL l k.toNat = l := by
        simp only [Bool.or_eq_true, beq_iff_eq] at c
        rcases c with c | c
        · subst c
          show (List.replicate 1 l).flatten = l
          simp
        · have : l = [] := by
            rw [str_len] at c
            exact List.eq_nil_of_length_eq_zero c
          subst this
          unfold repL
          simp
      have := h t s.toks
      rw [e] at this
      exact this
    · rw [if_neg c]
      have e := rep_arr l k.toNat []
      rw [List.nil_append] at e
      rw [show (List.replicate k.toNat (⟨l.toArray⟩ : Str).cps).foldl (· ++ ·) #[] = (repL l k.toNat).toArray from e]
      refine ⟨?_, h _ _⟩
      show (repL l k.toNat).toArray.size ≤ sizeLine
      rw [List.size_toArray, rep_len, sz_eq, Nat.mul_comm]
      exact hz
theorem nil_of {T : Tb} {μ : List Addr} {hd : Hd} {H : Hp} {ds : List D} {xs : List V} (r : Rs T μ (Live μ hd) H ds xs) : xs = [] ↔ ds = [] := by
  have := Rs.length r
  constructor
  · intro e; rw [e] at this; exact List.eq_nil_of_length_eq_zero this.symm
  · intro e; rw [e] at this; exact List.eq_nil_of_length_eq_zero this
theorem opB_ok0 (hK : X.K = T.K) (o : Bi) : OpR X (binaryOp (bo o)) (rB0 T o) := by
  intro pins s σ H x y v u Q I rx ry h
  obtain ⟨μ, hd, d, e, hs, r1, r2, w⟩ := h
  unfold opB at w
  split at w
  · cases r1; cases r2
    exact op_add pins s σ H _ _ v u Q I rx ry ⟨_, _, rfl, rfl, w.now hs rfl⟩
  · cases r1; cases r2
    split at w
    · rename_i hz
      refine op_add_str pins s σ H _ _ v u Q I rx ry ⟨_, _, rfl, rfl, by rw [str_len, str_len, sz_eq]; exact hz, ?_⟩
      rw [str_app]
      exact w.now hs rfl
    · exact w.elim
  · split at w
    · rename_i ds es hz
      obtain ⟨p, xs, rfl, h1, h2⟩ := r1
      obtain ⟨q, ys, rfl, h3, h4⟩ := r2
      refine op_catA pins s σ H _ _ v u Q I rx ry ⟨p, q, xs, ys, rfl, rfl, hK ▸ h1, hK ▸ h3, by rw [Rs.length h2, Rs.length h4, sz_eq]; exact hz, fun e => ?_, fun _ e => ?_, fun _ _ a ha => ?_⟩
      · rw [(nil_of h2).mp e] at w
        exact w.now hs ⟨q, ys, rfl, h3, h4⟩
      · rw [(nil_of h4).mp e, List.append_nil] at w
        exact w.now hs ⟨p, xs, rfl, h1, h2⟩
      · exact w.tup hs (Rs.append h2 h4) ha
    · exact w.elim
  · split at w
    · rename_i ds es hz
      obtain ⟨p, xs, rfl, h1, _, h2⟩ := r1
      obtain ⟨q, ys, rfl, h3, _, h4⟩ := r2
      exact op_cat pins s σ H _ _ v u Q I rx ry ⟨p, q, xs, ys, rfl, rfl, h1, h3, by rw [Rs.length h2, Rs.length h4, sz_eq]; exact hz, fun a ha => w.lst hs (Rs.append h2 h4) ha⟩
    · exact w.elim
  · cases r1; cases r2
    exact op_sub pins s σ H _ _ v u Q I rx ry ⟨_, _, rfl, rfl, w.now hs rfl⟩
  · cases r1; cases r2
    split at w
    · rename_i hm
      obtain ⟨t, rfl⟩ := rx
      obtain ⟨t', rfl⟩ := ry
      exact PyProof.Rows.mul_int ⟨.int _, H, I.tok _, ⟨_, rfl⟩, w.now hs rfl⟩ (mulOk_ok hm)
    · exact w.elim
  · cases r1; cases r2
    split at w
    · rename_i hm
      obtain ⟨t, rfl⟩ := rx
      obtain ⟨t', rfl⟩ := ry
      exact strRep hm.1 hm.2.1 hm.2.2 fun z n => ⟨.str _, H, I.tok _, ⟨_, rfl⟩, w.now hs rfl⟩
    · exact w.elim
  · split at w
    · rename_i ds k hm
      obtain ⟨p, xs, rfl, h1, _, h2⟩ := r1
      cases r2
      exact op_rep pins s σ H _ _ v u Q I rx ry ⟨p, k, xs, rfl, rfl, h1, by omega, by omega, by rw [Rs.length h2, sz_eq]; exact hm.2.2, fun a ha => w.lst hs (Rs.rep h2 _) ha⟩
    · exact w.elim
  · split at w
    · rename_i ds k hm
      obtain ⟨p, xs, rfl, h1, h2⟩ := r1
      cases r2
      exact op_repT pins s σ H _ _ v u Q I rx ry ⟨p, k, xs, rfl, rfl, hK ▸ h1, fun e => hm.2.2.1 ((nil_of h2).mp e), hm.1, hm.2.1, by rw [Rs.length h2]; exact hm.2.2.2, fun a ha => w.tup hs (Rs.rep h2 _) ha⟩
    · exact w.elim
  · cases r1; cases r2
    split at w
    · rename_i i j hm
      unfold divOk at hm
      simp only [Bool.or_eq_true, Bool.and_eq_true, decide_eq_true_eq] at hm
      rcases hm with hm | hm
      · exact op_fdivN pins s σ H _ _ v u Q I rx ry ⟨_, _, rfl, rfl, hm, w.now hs rfl⟩
      · refine op_fdivW pins s σ H _ _ v u Q I rx ry ⟨_, _, rfl, rfl, hm, ?_⟩
        show Q (.int (i / j)) H
        rw [show i / j = i.fdiv j from (Int.fdiv_eq_ediv_of_nonneg i (by omega)).symm]
        exact w.now hs rfl
    · exact w.elim
  · cases r1; cases r2
    split at w
    · rename_i hm
      exact op_modN pins s σ H _ _ v u Q I rx ry ⟨_, _, rfl, rfl, hm, w.now hs rfl⟩
    · exact w.elim
  · cases r1; cases r2
    split at w
    · rename_i hm
      exact op_pow pins s σ H _ _ v u Q I rx ry ⟨_, _, rfl, rfl, ⟨hm.1, hm.2.1, by omega⟩, w.now hs rfl⟩
    · exact w.elim
  · exact w.elim
def rB (T : Tb) (o : Bi) : R2 := fun x y H Q => ∃ hi, rB0 (T.hide hi) o x y H Q
theorem opB_ok (hK : X.K = T.K) (o : Bi) : OpR X (binaryOp (bo o)) (rB T o) := fun pins s σ H x y v u Q I rx ry ⟨hi, h⟩ => opB_ok0 (T := T.hide hi) hK o pins s σ H x y v u Q I rx ry h
end

/-! ### comparisons -/
mutual
def toPy : D → PyData
  | .bl b => .bool b
  | .int i => .int i
  | .str s => .str ⟨s.toArray⟩
  | .tup ds => .tuple (toPys ds)
  | .lst ds => .list (toPys ds)
  | _ => .none
def toPys : List D → List PyData
  | [] => []
  | d :: ds => toPy d :: toPys ds
end
section
variable {T : Tb} {μ : List Addr} {hd : Hd} {H : Hp} {Lv : Addr → Prop}
mutual
theorem R.dp : ∀ (d : D) (v : V), plain d = true → R T μ Lv H d v → Dp T.K H v (toPy d)
  | .non, _, _, r => by cases r; exact .non
  | .bl b, _, _, r => by cases r; exact .bl b
  | .int i, _, _, r => by cases r; exact .int i
  | .str s, _, _, r => by cases r; exact .str _
  | .tup ds, _, p, r => by
    obtain ⟨a, xs, rfl, h1, h2⟩ := r
    exact .tup h1 (Rs.dp ds xs p h2)
  | .lst ds, _, p, r => by
    obtain ⟨a, xs, rfl, h1, _, h2⟩ := r
    exact .lst (.inl (.inl h1)) (Rs.dp ds xs p h2)
  | .ref _, _, p, _ => by cases p
  | .glo _, _, p, _ => by cases p
  | .clo _ _, _, p, _ => by cases p
  | .exn _ _, _, p, _ => by cases p
theorem Rs.dp : ∀ (ds : List D) (vs : List V), plains ds = true → Rs T μ Lv H ds vs → DpAll T.K H vs (toPys ds)
  | [], _, _, r => by rw [show _ = [] from r]; exact .nil
  | d :: ds, _, p, r => by
    obtain ⟨x, xs, rfl, h1, h2⟩ := r
    have p' : (plain d && plains ds) = true := p
    rw [Bool.and_eq_true] at p'
    exact .cons (R.dp d x p'.1 h1) (Rs.dp ds xs p'.2 h2)
end
end
mutual
theorem toPy_lay : ∀ d : D, plain d = true → (toPy d).canLay0 = true
  | .non, _ => rfl
  | .bl _, _ => rfl
  | .int _, _ => rfl
  | .str s, p => by
    have p : (s.all fun c => decide (c < 1114112)) = true := p
    show (s.toArray.all fun c => decide (c < 1114112)) = true
    simpa using p
  | .tup ds, p => toPys_lay ds p
  | .lst ds, p => toPys_lay ds p
  | .ref _, p => by cases p
  | .glo _, p => by cases p
  | .clo _ _, p => by cases p
  | .exn _ _, p => by cases p
theorem toPys_lay : ∀ ds : List D, plains ds = true → PyData.canLayAll0 (toPys ds) = true
  | [], _ => rfl
  | d :: ds, p => by
    have p' : (plain d && plains ds) = true := p
    rw [Bool.and_eq_true] at p'
    show ((toPy d).canLay0 && PyData.canLayAll0 (toPys ds)) = true
    rw [toPy_lay d p'.1, toPys_lay ds p'.2]
    rfl
end
mutual
theorem toPy_depth : ∀ d : D, (toPy d).depth = depth d
  | .non => rfl
  | .bl _ => rfl
  | .int _ => rfl
  | .str _ => rfl
  | .tup ds => by show PyData.depthAll (toPys ds) + 1 = 1 + depths ds; rw [toPys_depth ds, Nat.add_comm]
  | .lst ds => by show PyData.depthAll (toPys ds) + 1 = 1 + depths ds; rw [toPys_depth ds, Nat.add_comm]
  | .ref _ => rfl
  | .glo _ => rfl
  | .clo _ _ => rfl
  | .exn _ _ => rfl
theorem toPys_depth : ∀ ds : List D, PyData.depthAll (toPys ds) = depths ds
  | [] => rfl
  | d :: ds => by show max (toPy d).depth (PyData.depthAll (toPys ds)) = max (depth d) (depths ds); rw [toPy_depth d, toPys_depth ds]
end
theorem str_beq (s t : List Nat) : ((⟨s.toArray⟩ : Str) == ⟨t.toArray⟩) = (s == t) := by
  rw [Bool.eq_iff_iff, beq_iff_eq, beq_iff_eq, Str.mk.injEq]
  constructor
  · intro h
    have := congrArg Array.toList h
    simpa using this
  · intro h; rw [h]
mutual
theorem toPy_eqv : ∀ d e : D, plain d = true → plain e = true → PyData.eqv (toPy d) (toPy e) = eqD d e
  | .non, e, _, q => by cases e <;> first | rfl | cases q
  | .bl b, e, _, q => by cases e <;> first | rfl | cases q
  | .int i, e, _, q => by cases e <;> first | rfl | cases q
  | .str s, e, _, q => by cases e <;> first | exact str_beq _ _ | rfl | cases q
  | .tup ds, e, p, q => by cases e <;> first | exact toPys_eqv _ _ p q | rfl | cases q
  | .lst ds, e, p, q => by cases e <;> first | exact toPys_eqv _ _ p q | rfl | cases q
  | .ref _, _, p, _ => by cases p
  | .glo _, _, p, _ => by cases p
  | .clo _ _, _, p, _ => by cases p
  | .exn _ _, _, p, _ => by cases p
theorem toPys_eqv : ∀ ds es : List D, plains ds = true → plains es = true → PyData.eqvAll (toPys ds) (toPys es) = eqDs ds es
  | [], [], _, _ => rfl
  | [], _ :: _, _, _ => rfl
  | _ :: _, [], _, _ => rfl
  | d :: ds, e :: es, p, q => by
    have p' : (plain d && plains ds) = true := p
    have q' : (plain e && plains es) = true := q
    rw [Bool.and_eq_true] at p' q'
    show ((toPy d).eqv (toPy e) && PyData.eqvAll (toPys ds) (toPys es)) = (eqD d e && eqDs ds es)
    rw [toPy_eqv d e p'.1 q'.1, toPys_eqv ds es p'.2 q'.2]
end
def co : Co → CmpOp
  | .eq => .Eq
  | .ne => .NotEq
  | .lt => .Lt
  | .le => .LtE
  | .gt => .Gt
  | .ge => .GtE
  | .is => .Is
  | .isnot => .IsNot
  | .isin => .In
  | .notin => .NotIn
def rC0 (T : Tb) (o : Co) : R2 := fun x y H Q => ∃ μ hd d e, HS T μ hd H ∧ R T μ (Live μ hd) H d x ∧ R T μ (Live μ hd) H e y ∧ opt (opC hd o d e) fun z => Q (.bl z) H
theorem opt_map {α β : Type} {o : Option α} {f : α → β} {P : β → Prop} (h : opt (o.map f) P) : opt o fun a => P (f a) := by
  cases o with
  | none => exact h
  | some a => exact h
theorem eqC_eq {d e : D} {b : Bool} (h : eqC d e = some b) : ((deepOk d && deepOk e) || strSide d e) = true ∧ b = eqD d e := by
  unfold eqC at h
  split at h
  · rename_i c
    exact ⟨c, (Option.some.inj h).symm⟩
  · cases h
section
variable {X : Cx} {T : Tb} {μ : List Addr} {hd : Hd} {H : Hp}
theorem shaped_of {d : D} (h : deepOk d = true) : plain d = true ∧ SeqAt.shaped (toPy d) = true := by
  unfold deepOk at h
  rw [Bool.and_eq_true, decide_eq_true_eq] at h
  refine ⟨h.1, ?_⟩
  unfold SeqAt.shaped
  rw [toPy_lay d h.1, toPy_depth]
  simp
  omega
theorem dec_V {d e : D} {x y : V} (hs : strSide d e = true) (r1 : R T μ (Live μ hd) H d x) (r2 : R T μ (Live μ hd) H e y) : scal x y = true ∧ decide (x = y) = eqD d e := by
  cases d <;> cases e <;> first | (cases hs; done) | (cases r1; cases r2; exact ⟨rfl, decide_eq_false (by intro z; cases z)⟩) | (cases r1; cases r2; exact ⟨rfl, dec_str.trans (str_beq _ _)⟩)
theorem eq_ok (hK : X.K = T.K) (hu : X.A.units + 64 < cLine) {pins s σ x y v u} {Q : VK} (I : L2.Inv X pins σ H s) (rx : RelV x v) (ry : RelV y u) {d e : D} (r1 : R T μ (Live μ hd) H d x) (r2 : R T μ (Live μ hd) H e y)
    (c : ((deepOk d && deepOk e) || strSide d e) = true) (q : Q (.bl (eqD d e)) H) : wpAny (model X.prog X.w) X.A (compareOp .Eq v u) (EP X pins σ Q) X.xe s := by
  rw [Bool.or_eq_true, Bool.and_eq_true] at c
  rcases c with ⟨c1, c2⟩ | c
  · obtain ⟨p1, s1⟩ := shaped_of c1
    obtain ⟨p2, s2⟩ := shaped_of c2
    exact op_eqD hu pins s σ H x y v u Q I rx ry ⟨_, _, hK ▸ R.dp d x p1 r1, hK ▸ R.dp e y p2 r2, s1, s2, by rw [toPy_eqv d e p1 p2]; exact q⟩
  · obtain ⟨h1, h2⟩ := dec_V c r1 r2
    exact op_eq pins s σ H x y v u Q I rx ry ⟨h1, by rw [h2]; exact q⟩
theorem ne_ok (hK : X.K = T.K) (hu : X.A.units + 64 < cLine) {pins s σ x y v u} {Q : VK} (I : L2.Inv X pins σ H s) (rx : RelV x v) (ry : RelV y u) {d e : D} (r1 : R T μ (Live μ hd) H d x) (r2 : R T μ (Live μ hd) H e y)
    (c : ((deepOk d && deepOk e) || strSide d e) = true) (q : Q (.bl (!eqD d e)) H) : wpAny (model X.prog X.w) X.A (compareOp .NotEq v u) (EP X pins σ Q) X.xe s := by
  rw [Bool.or_eq_true, Bool.and_eq_true] at c
  rcases c with ⟨c1, c2⟩ | c
  · obtain ⟨p1, s1⟩ := shaped_of c1
    obtain ⟨p2, s2⟩ := shaped_of c2
    exact op_neD hu pins s σ H x y v u Q I rx ry ⟨_, _, hK ▸ R.dp d x p1 r1, hK ▸ R.dp e y p2 r2, s1, s2, by rw [toPy_eqv d e p1 p2]; exact q⟩
  · obtain ⟨h1, h2⟩ := dec_V c r1 r2
    exact op_ne pins s σ H x y v u Q I rx ry ⟨h1, by rw [h2]; exact q⟩
theorem isNon_V {d : D} {x : V} {b : Bool} (r : R T μ (Live μ hd) H d x) (h : isNon d = some b) : decide (x = .non) = b := by
  cases d <;> first
    | (cases r; cases h; rfl)
    | (obtain ⟨p, xs, rfl, _⟩ := r; cases h; exact decide_eq_false (by intro z; cases z))
    | (obtain ⟨p, _, rfl⟩ := r; cases h; exact decide_eq_false (by intro z; cases z))
    | cases h
theorem isBl_V {d : D} {x : V} {u : Value} {b c : Bool} (r : R T μ (Live μ hd) H d x) (rx : RelV x u) (h : isBl b d = some c) : plainIs u (.bool b) = true ∧ (u == Value.bool b) = c := by
  cases d <;> first
    | (cases h; done)
    | (rename_i a; cases r; cases rx; cases h; exact ⟨rfl, by cases a <;> cases b <;> rfl⟩)
    | (cases r; cases rx; cases h; exact ⟨rfl, rfl⟩)
    | (cases r; obtain ⟨t, rfl⟩ := rx; cases h; exact ⟨rfl, rfl⟩)
    | (obtain ⟨p, xs, rfl, _⟩ := r; cases rx; cases h; exact ⟨rfl, rfl⟩)
    | (obtain ⟨p, _, rfl⟩ := r; cases rx; cases h; exact ⟨rfl, rfl⟩)
theorem flat_V {d : D} {x : V} (r : R T μ (Live μ hd) H d x) (h : flatD d = true) : flatV x = true := by
  cases d <;> first | (cases h; done) | (cases r; rfl)
theorem flat_Vs : ∀ {ds : List D} {xs : List V}, Rs T μ (Live μ hd) H ds xs → ds.all flatD = true → xs.all flatV = true
  | [], _, r, _ => by rw [show _ = [] from r]; rfl
  | d :: ds, _, r, h => by
    obtain ⟨x, xs, rfl, h1, h2⟩ := r
    rw [List.all_cons, Bool.and_eq_true] at h ⊢
    exact ⟨flat_V h1 h.1, flat_Vs h2 h.2⟩
theorem eqV_D {d e : D} {x y : V} (r1 : R T μ (Live μ hd) H d x) (r2 : R T μ (Live μ hd) H e y) (h1 : flatD d = true) (h2 : flatD e = true) : eqV x y = eqD d e := by
  cases d <;> first | (cases h1; done) | skip
  all_goals (cases e <;> first | (cases h2; done) | skip)
  all_goals (cases r1; cases r2)
  all_goals first | rfl | exact str_beq _ _
theorem inV_D {e : D} {y : V} (r2 : R T μ (Live μ hd) H e y) (h2 : flatD e = true) : ∀ {ds : List D} {xs : List V}, Rs T μ (Live μ hd) H ds xs → ds.all flatD = true → inV y xs = ds.any fun d => eqD d e
  | [], _, r, _ => by rw [show _ = [] from r]; rfl
  | d :: ds, _, r, h => by
    obtain ⟨x, xs, rfl, r1, rr⟩ := r
    rw [List.all_cons, Bool.and_eq_true] at h
    unfold inV
    rw [List.any_cons, List.any_cons, eqV_D r1 r2 h.1 h2]
    congr 1
    exact inV_D r2 h2 rr h.2
theorem in_ok (hK : X.K = T.K) (neg : Bool) {pins s σ x y v u} {Q : VK} (I : L2.Inv X pins σ H s) (rx : RelV x v) (ry : RelV y u) (hs : HS T μ hd H) {d e : D} (r1 : R T μ (Live μ hd) H d x) (r2 : R T μ (Live μ hd) H e y)
    (w : opt (inC hd d e) fun z => Q (.bl (if neg then !z else z)) H) : wpAny (model X.prog X.w) X.A (compareOp (if neg then .NotIn else .In) v u) (EP X pins σ Q) X.xe s := by
  unfold inC at w
  split at w
  · rename_i c t
    cases r1; cases r2
    cases neg with
    | false => exact op_in_sign pins s σ H _ _ v u Q I rx ry ⟨c, _, rfl, rfl, by simpa [opt] using w⟩
    | true =>
      refine op_notIn_str pins s σ H _ _ v u Q I rx ry ⟨_, _, rfl, rfl, ?_⟩
      have e := PySem.StrLaws.found_one (⟨t.toArray⟩ : Str) c
      rw [show (!(Builtin.Str.occurrences ⟨t.toArray⟩ ⟨#[c]⟩ 0 (⟨t.toArray⟩ : Str).length 1).isEmpty) = decide (c ∈ t) from by rw [e]]
      exact w
  · cases hq : seqOf hd e with
    | none => rw [hq] at w; exact w.elim
    | some ds =>
      rw [hq] at w
      simp only at w
      split at w
      · rename_i c
        rw [Bool.and_eq_true] at c
        obtain ⟨p, xs, rfl, hp, rs⟩ := seqOf_ok hs r2 hq
        have e1 := inV_D r1 c.1 rs c.2
        cases neg with
        | false => exact op_in_seq pins s σ H _ _ v u Q I rx ry ⟨p, xs, rfl, hK ▸ hp, flat_V r1 c.1, flat_Vs rs c.2, by rw [if_neg (by decide), e1]; exact w⟩
        | true => exact op_notIn_seq pins s σ H _ _ v u Q I rx ry ⟨p, xs, rfl, hK ▸ hp, flat_V r1 c.1, flat_Vs rs c.2, by rw [if_pos rfl, e1]; exact w⟩
      · exact w.elim
theorem opC_ok0 (hK : X.K = T.K) (hu : X.A.units + 64 < cLine) (o : Co) : OpR X (compareOp (co o)) (rC0 T o) := by
  intro pins s σ H x y v u Q I rx ry h
  obtain ⟨μ, hd, d, e, hs, r1, r2, w⟩ := h
  cases o with
  | eq =>
    cases h : eqC d e with
    | none => rw [show opC hd .eq d e = eqC d e from rfl, h] at w; exact w.elim
    | some b =>
      rw [show opC hd .eq d e = eqC d e from rfl, h] at w
      obtain ⟨c, rfl⟩ := eqC_eq h
      exact eq_ok hK hu I rx ry r1 r2 c w
  | ne =>
    cases h : eqC d e with
    | none => rw [show opC hd .ne d e = (eqC d e).map not from rfl, h] at w; exact w.elim
    | some b =>
      rw [show opC hd .ne d e = (eqC d e).map not from rfl, h] at w
      obtain ⟨c, rfl⟩ := eqC_eq h
      exact ne_ok hK hu I rx ry r1 r2 c w
  | lt =>
    simp only [opC] at w
    split at w
    · cases r1; cases r2
      exact op_lt pins s σ H _ _ v u Q I rx ry ⟨_, _, rfl, rfl, w⟩
    · cases r1; cases r2
      exact op_lt_str pins s σ H _ _ v u Q I rx ry ⟨_, _, rfl, rfl, by simpa [opt] using w⟩
    · exact w.elim
  | le =>
    simp only [opC] at w
    split at w
    · cases r1; cases r2
      exact op_le pins s σ H _ _ v u Q I rx ry ⟨_, _, rfl, rfl, w⟩
    · cases r1; cases r2
      exact op_le_str pins s σ H _ _ v u Q I rx ry ⟨_, _, rfl, rfl, by simpa [opt] using w⟩
    · exact w.elim
  | gt =>
    cases d <;> first | exact (show False from w).elim | skip
    cases e <;> first | exact (show False from w).elim | skip
    cases r1; cases r2
    exact op_gt pins s σ H _ _ v u Q I rx ry ⟨_, _, rfl, rfl, w⟩
  | ge =>
    cases d <;> first | exact (show False from w).elim | skip
    cases e <;> first | exact (show False from w).elim | skip
    cases r1; cases r2
    exact op_ge pins s σ H _ _ v u Q I rx ry ⟨_, _, rfl, rfl, w⟩
  | is =>
    simp only [opC] at w
    split at w
    · cases r2
      cases h : isNon d with
      | none => rw [h] at w; exact w.elim
      | some b => rw [h] at w; exact op_isN pins s σ H _ _ v u Q I rx ry ⟨rfl, by rw [isNon_V r1 h]; exact w⟩
    · rename_i b
      cases r2
      cases ry
      cases h : isBl b d with
      | none => rw [h] at w; exact w.elim
      | some c =>
        rw [h] at w
        obtain ⟨e1, e2⟩ := isBl_V r1 rx h
        exact wpAny_is_plain e1 (by rw [e2]; exact ⟨.bl c, H, I, rfl, w⟩)
    · exact w.elim
  | isnot =>
    simp only [opC] at w
    split at w
    · cases r2
      cases h : isNon d with
      | none => rw [h] at w; exact w.elim
      | some b => rw [h] at w; exact op_notN pins s σ H _ _ v u Q I rx ry ⟨rfl, by rw [isNon_V r1 h]; exact w⟩
    · rename_i b
      cases r2
      cases ry
      cases h : isBl b d with
      | none => rw [h] at w; exact w.elim
      | some c =>
        rw [h] at w
        obtain ⟨e1, e2⟩ := isBl_V r1 rx h
        exact wpAny_isNot_plain e1 (by rw [e2]; exact ⟨.bl (!c), H, I, rfl, w⟩)
    · exact w.elim
  | isin => exact in_ok hK false I rx ry hs r1 r2 (opt_mono (fun z q => q) w)
  | notin => exact in_ok hK true I rx ry hs r1 r2 (opt_map w)
def rC (T : Tb) (o : Co) : R2 := fun x y H Q => ∃ hi, rC0 (T.hide hi) o x y H Q
theorem opC_ok (hK : X.K = T.K) (hu : X.A.units + 64 < cLine) (o : Co) : OpR X (compareOp (co o)) (rC T o) := fun pins s σ H x y v u Q I rx ry ⟨hi, h⟩ => opC_ok0 (T := T.hide hi) hK hu o pins s σ H x y v u Q I rx ry h
end
end Mi
set_option linter.all false
set_option maxRecDepth 100000
set_option maxHeartbeats 1000000
/-! Mi: readings of expressions. -/
namespace Mi
open PySem L2

theorem PE.wk {X : Cx} {e : Expr} {t t' : TE} (h : PE X e t) (w : ∀ σ H Q, t' σ H Q → t σ H Q) : PE X e t' := ⟨fun pins s σ H Q I q => h.run pins s σ H Q I (w σ H Q q)⟩
theorem PT.wk {X : Cx} {e : Expr} {t t' : TT} (h : PT X e t) (w : ∀ σ H Q, t' σ H Q → t σ H Q) : PT X e t' := ⟨fun pins s σ H Q I q => h.run pins s σ H Q I (w σ H Q q)⟩
theorem PW.wk {X : Cx} {e : Expr} {t t' : TT} (h : PW X e t) (w : ∀ σ H Q, t' σ H Q → t σ H Q) : PW X e t' := ⟨fun wh pins s σ H Q I q => h.run wh pins s σ H Q I (w σ H Q q)⟩
theorem PA.wk {X : Cx} {e : List Expr} {t t' : TA} (h : PA X e t) (w : ∀ σ H Q, t' σ H Q → t σ H Q) : PA X e t' := ⟨fun p pins s σ H Q I q => h.run p pins s σ H Q I (w σ H Q q)⟩

/-- the lambda L as it stands at f, with its cells and its code object -/
def LamO (f : Addr) (L : LaC) (cl : List (Str × Addr)) (c' : Addr) : HO := .ext fun h => ∃ pm ctv, h.get? f = some (PySem.W.kla_obj "<lambda>" L.q L.params L.body L.scope cl pm c' ctv)
/-- closures at hand: their cells, what they hold; errors at hand: their class, their dict -/
structure CLs where
  clo : Addr → Option (Nat × List (Str × Addr) × List V)
  exn : Addr → Option (Addr × Addr)
/-- more closures at hand, but not where something stood -/
structure CLs.Le (CL CL' : CLs) (H : Hp) : Prop where
  clo : ∀ a p φ, H a = some (.ext φ) → CL.clo a = some p → CL'.clo a = some p
  exn : ∀ a p, CL.exn a = some p → CL'.exn a = some p
mutual
def RA (T : Tb) (CL : CLs) (μ : List Addr) (Lv : Addr → Prop) (H : Hp) : D → V → Prop
  | .clo k ds, v => ∃ f c' cl ws, v = .ref f ∧ CL.clo f = some (k, cl, ws) ∧ H f = some (LamO f (T.la k) cl c') ∧ H c' = some (LamX.CodeO c' (T.la k).q) ∧ RAs T CL μ Lv H ds ws
  | .exn c ds, v => ∃ a d C ws, v = .ref a ∧ CL.exn a = some (C, d) ∧ T.ca c = some C ∧ H d = some (.xd ((T.cf c).zip ws).reverse) ∧ Rs T μ Lv H ds ws
  | .non, v => R T μ Lv H .non v
  | .bl b, v => R T μ Lv H (.bl b) v
  | .int i, v => R T μ Lv H (.int i) v
  | .str s, v => R T μ Lv H (.str s) v
  | .tup ds, v => R T μ Lv H (.tup ds) v
  | .lst ds, v => R T μ Lv H (.lst ds) v
  | .ref n, v => R T μ Lv H (.ref n) v
  | .glo f, v => R T μ Lv H (.glo f) v
def RAs (T : Tb) (CL : CLs) (μ : List Addr) (Lv : Addr → Prop) (H : Hp) : List D → List V → Prop
  | [], vs => vs = []
  | d :: ds, vs => ∃ x xs, vs = x :: xs ∧ RA T CL μ Lv H d x ∧ RAs T CL μ Lv H ds xs
end
section
variable {T : Tb} {CL CL' : CLs} {μ μ' μ2 : List Addr} {hd hd' hd2 : Hd} {H H' H2 : Hp} {Lv : Addr → Prop}
theorem ext_kp {φ : Heap → Prop} {a : Addr} (hs : HS T μ hd H) (s : Stp μ hd H μ' hd' H') (h : H a = some (.ext φ)) : H' a = some (.ext φ) := s.kp a _ h (hs.live_ne h (fun _ z => by cases z) (fun _ _ _ z => by cases z)) fun _ z => by cases z
theorem xd_kp {fs : List (Str × V)} {a : Addr} (hs : HS T μ hd H) (s : Stp μ hd H μ' hd' H') (h : H a = some (.xd fs)) : H' a = some (.xd fs) := s.kp a _ h (hs.live_ne h (fun _ z => by cases z) (fun _ _ _ z => by cases z)) fun _ z => by cases z
theorem RA.nc {d : D} {v : V} (h : RA T CL μ Lv H d v) (n : isClo d = false) : R T μ Lv H d v := by
  cases d <;> first | exact h | cases n
theorem RA.of {d : D} {v : V} (h : R T μ Lv H d v) : RA T CL μ Lv H d v := by
  cases d <;> first | exact h | exact h.elim
theorem RAs.of : ∀ {ds : List D} {vs : List V}, Rs T μ Lv H ds vs → RAs T CL μ Lv H ds vs
  | [], _, h => h
  | d :: ds, _, h => by
    obtain ⟨x, xs, e, h1, h2⟩ := h
    exact ⟨x, xs, e, RA.of h1, RAs.of h2⟩
mutual
theorem RA.stp (hs : HS T μ hd H) (s : Stp μ hd H μ' hd' H') : ∀ (d : D) (v : V), RA T CL μ (Live μ hd) H d v → RA T CL μ' (Live μ' hd') H' d v
  | .clo k ds, _, h => by
    obtain ⟨f, c', cl, ws, e, h1, h2, h3, h4⟩ := h
    exact ⟨f, c', cl, ws, e, h1, ext_kp hs s h2, ext_kp hs s h3, RAs.stp hs s ds ws h4⟩
  | .exn c ds, _, h => by
    obtain ⟨a, d, C, ws, e, h1, h2, h3, h4⟩ := h
    exact ⟨a, d, C, ws, e, h1, h2, xd_kp hs s h3, Rs.stp hs s ds ws h4⟩
  | .non, _, h => R.stp hs s .non _ h
  | .bl b, _, h => R.stp hs s (.bl b) _ h
  | .int b, _, h => R.stp hs s (.int b) _ h
  | .str b, _, h => R.stp hs s (.str b) _ h
  | .tup b, _, h => R.stp hs s (.tup b) _ h
  | .lst b, _, h => R.stp hs s (.lst b) _ h
  | .ref b, _, h => R.stp hs s (.ref b) _ h
  | .glo b, _, h => R.stp hs s (.glo b) _ h
theorem RAs.stp (hs : HS T μ hd H) (s : Stp μ hd H μ' hd' H') : ∀ (ds : List D) (vs : List V), RAs T CL μ (Live μ hd) H ds vs → RAs T CL μ' (Live μ' hd') H' ds vs
  | [], _, h => h
  | d :: ds, _, h => by
    obtain ⟨x, xs, e, h1, h2⟩ := h
    exact ⟨x, xs, e, RA.stp hs s d x h1, RAs.stp hs s ds xs h2⟩
end
mutual
/-- more closures at hand -/
theorem RA.more (m : CL.Le CL' H) : ∀ (d : D) (v : V), RA T CL μ Lv H d v → RA T CL' μ Lv H d v
  | .clo k ds, _, h => by
    obtain ⟨f, c', cl, ws, e, h1, h2, h3, h4⟩ := h
    exact ⟨f, c', cl, ws, e, m.clo _ _ _ h2 h1, h2, h3, RAs.more m ds ws h4⟩
  | .exn c ds, _, h => by
    obtain ⟨a, d, C, ws, e, h1, h2, h3, h4⟩ := h
    exact ⟨a, d, C, ws, e, m.exn _ _ h1, h2, h3, h4⟩
  | .non, _, h => h
  | .bl b, _, h => h
  | .int b, _, h => h
  | .str b, _, h => h
  | .tup b, _, h => h
  | .lst b, _, h => h
  | .ref b, _, h => h
  | .glo b, _, h => h
theorem RAs.more (m : CL.Le CL' H) : ∀ (ds : List D) (vs : List V), RAs T CL μ Lv H ds vs → RAs T CL' μ Lv H ds vs
  | [], _, h => h
  | d :: ds, _, h => by
    obtain ⟨x, xs, e, h1, h2⟩ := h
    exact ⟨x, xs, e, RA.more m d x h1, RAs.more m ds xs h2⟩
end
theorem RAs.length : ∀ {ds : List D} {vs : List V}, RAs T CL μ Lv H ds vs → vs.length = ds.length
  | [], _, h => by rw [show _ = [] from h]; rfl
  | d :: ds, _, h => by
    obtain ⟨x, xs, rfl, _, h2⟩ := h
    rw [List.length_cons, List.length_cons, RAs.length h2]
theorem RAs.append : ∀ {ds es : List D} {vs ws : List V}, RAs T CL μ Lv H ds vs → RAs T CL μ Lv H es ws → RAs T CL μ Lv H (ds ++ es) (vs ++ ws)
  | [], _, _, _, h, h' => by rw [show _ = [] from h]; exact h'
  | d :: ds, es, _, ws, h, h' => by
    obtain ⟨x, xs, rfl, h1, h2⟩ := h
    exact ⟨x, xs ++ ws, rfl, h1, RAs.append h2 h'⟩
theorem RAs.get : ∀ {ds : List D} {vs : List V} {i : Nat} {d : D}, RAs T CL μ Lv H ds vs → ds[i]? = some d → ∃ v, vs[i]? = some v ∧ RA T CL μ Lv H d v
  | [], _, _, _, _, e => by simp at e
  | d :: ds, _, 0, _, h, e => by
    obtain ⟨x, xs, rfl, h1, _⟩ := h
    simp at e; subst e
    exact ⟨x, rfl, h1⟩
  | d :: ds, _, i + 1, _, h, e => by
    obtain ⟨x, xs, rfl, _, h2⟩ := h
    obtain ⟨v, e1, e2⟩ := RAs.get (i := i) h2 (by simpa using e)
    exact ⟨v, by simpa using e1, e2⟩
end
/-- the locals -/
structure RL (T : Tb) (CL : CLs) (μ : List Addr) (hd : Hd) (H : Hp) (ρ : Mi.Loc) (σ : L2.St) : Prop where
  len : ρ.length = σ.length
  val : ∀ (i : Nat) (d : D), ρ[i]? = some (some d) → ∃ v, σ[i]? = some (some v) ∧ RA T CL μ (Live μ hd) H d v
section
variable {T : Tb} {CL CL' : CLs} {μ μ' μ2 : List Addr} {hd hd' hd2 : Hd} {H H' H2 : Hp} {ρ : Mi.Loc} {σ : L2.St}
theorem RL.stp (rl : RL T CL μ hd H ρ σ) (hs : HS T μ hd H) (s : Stp μ hd H μ' hd' H') : RL T CL μ' hd' H' ρ σ := ⟨rl.len, fun i d e => by
  obtain ⟨v, e1, r⟩ := rl.val i d e
  exact ⟨v, e1, RA.stp hs s d v r⟩⟩
theorem getL_some {i : Nat} {d : D} (h : getL ρ i = some d) : ρ[i]? = some (some d) := by
  unfold getL at h
  split at h
  · cases h; assumption
  · cases h
theorem RL.get {i : Nat} {d : D} (rl : RL T CL μ hd H ρ σ) (h : getL ρ i = some d) : ∃ v, σ[i]? = some (some v) ∧ RA T CL μ (Live μ hd) H d v := rl.val i d (getL_some h)
theorem RL.set {i : Nat} {d : D} {v : V} (rl : RL T CL μ hd H ρ σ) (r : RA T CL μ (Live μ hd) H d v) : RL T CL μ hd H (ρ.set i (some d)) (σ.set i (some v)) := ⟨by rw [List.length_set, List.length_set, rl.len], fun j e h => by
  by_cases hj : i = j
  · subst hj
    have hl := (List.getElem?_eq_some_iff.mp h).1
    rw [List.length_set] at hl
    rw [List.getElem?_set_self hl] at h
    cases h
    exact ⟨v, by rw [List.getElem?_set_self (by rw [← rl.len]; exact hl)], r⟩
  · rw [List.getElem?_set_ne hj] at h
    obtain ⟨w, e1, e2⟩ := rl.val j e h
    exact ⟨w, by rw [List.getElem?_set_ne hj]; exact e1, e2⟩⟩
theorem RL.wipeOne {i : Nat} {o : Option V} (rl : RL T CL μ hd H ρ σ) : RL T CL μ hd H (ρ.set i none) (σ.set i o) := ⟨by rw [List.length_set, List.length_set, rl.len], fun j e h => by
  by_cases hj : i = j
  · subst hj
    have hl := (List.getElem?_eq_some_iff.mp h).1
    rw [List.length_set] at hl
    rw [List.getElem?_set_self hl] at h
    cases h
  · rw [List.getElem?_set_ne hj] at h
    obtain ⟨w, e1, e2⟩ := rl.val j e h
    exact ⟨w, by rw [List.getElem?_set_ne hj]; exact e1, e2⟩⟩
end

/-! ### what is wanted, there and here -/
/-- an error: its class, its fields -/
def Xx (T : Tb) (μ : List Addr) (hd : Hd) (H : Hp) (E : XK) : KX := fun x hd' => ∀ μ' H' C a ws, Stp μ hd H μ' hd' H' → HS T μ' hd' H' → T.ca x.c = some C → H' a = some (.xd ((T.cf x.c).zip ws).reverse) → Rs T μ' (Live μ' hd') H' x.ds ws → E (.ref C) (some a) H'
def NxB (T : Tb) (μ : List Addr) (hd : Hd) (H : Hp) (Q : Bool → Hp → Prop) : Bool → Hd → Prop := fun b hd' => ∀ μ' H', Stp μ hd H μ' hd' H' → HS T μ' hd' H' → Q b H'
def NxL (T : Tb) (μ : List Addr) (hd : Hd) (H : Hp) (Q : List V → Hp → Prop) : List D → Hd → Prop := fun ds hd' => ∀ μ' H' vs, Stp μ hd H μ' hd' H' → HS T μ' hd' H' → Rs T μ' (Live μ' hd') H' ds vs → Q vs H'
def NxO (T : Tb) (μ : List Addr) (hd : Hd) (H : Hp) (Q : Option Int → Hp → Prop) : Option Int → Hd → Prop := fun o hd' => ∀ μ' H', Stp μ hd H μ' hd' H' → HS T μ' hd' H' → Q o H'
section
variable {T : Tb} {μ μ' : List Addr} {hd hd' hd2 : Hd} {H H' : Hp}
theorem Xx.stp {E : XK} {x : Ex} (s : Stp μ hd H μ' hd' H') (h : Xx T μ hd H E x hd2) : Xx T μ' hd' H' E x hd2 := fun μ2 H2 C a fs s2 hs => h μ2 H2 C a fs (s.trans s2) hs
theorem NxB.stp {Q : Bool → Hp → Prop} {b : Bool} (s : Stp μ hd H μ' hd' H') (h : NxB T μ hd H Q b hd2) : NxB T μ' hd' H' Q b hd2 := fun μ2 H2 s2 hs => h μ2 H2 (s.trans s2) hs
theorem NxL.stp {Q : List V → Hp → Prop} {b : List D} (s : Stp μ hd H μ' hd' H') (h : NxL T μ hd H Q b hd2) : NxL T μ' hd' H' Q b hd2 := fun μ2 H2 vs s2 hs => h μ2 H2 vs (s.trans s2) hs
theorem NxO.stp {Q : Option Int → Hp → Prop} {b : Option Int} (s : Stp μ hd H μ' hd' H') (h : NxO T μ hd H Q b hd2) : NxO T μ' hd' H' Q b hd2 := fun μ2 H2 s2 hs => h μ2 H2 (s.trans s2) hs
theorem NxB.now {Q : Bool → Hp → Prop} {b : Bool} (n : NxB T μ hd H Q b hd) (hs : HS T μ hd H) : Q b H := n μ H Stp.refl hs
theorem NxL.now {Q : List V → Hp → Prop} {ds : List D} {vs : List V} (n : NxL T μ hd H Q ds hd) (hs : HS T μ hd H) (r : Rs T μ (Live μ hd) H ds vs) : Q vs H := n μ H vs Stp.refl hs r
end
section
variable (T : Tb) (CL : CLs) (G : Gam) (W : WX)
def tI (m : ME) : TE := fun σ H Q => ∃ hi ρ μ hd, HS (T.hide hi) μ hd H ∧ RL (T.hide hi) CL μ hd H ρ σ ∧ wE G m ρ hd (Nx (T.hide hi) μ hd H Q) (Xx (T.hide hi) μ hd H fun c a => W c a σ)
def tT (m : ME) : TT := fun σ H Q => ∃ hi ρ μ hd, HS (T.hide hi) μ hd H ∧ RL (T.hide hi) CL μ hd H ρ σ ∧ wT G m ρ hd (NxB (T.hide hi) μ hd H Q) (Xx (T.hide hi) μ hd H fun c a => W c a σ)
def tL (m : ME) : TA := fun σ H Q => ∃ hi ρ μ hd, HS (T.hide hi) μ hd H ∧ RL (T.hide hi) CL μ hd H ρ σ ∧ wEs G m ρ hd (NxL (T.hide hi) μ hd H Q) (Xx (T.hide hi) μ hd H fun c a => W c a σ)
def tO (m : ME) : TO := fun σ H Q => ∃ hi ρ μ hd, HS (T.hide hi) μ hd H ∧ RL (T.hide hi) CL μ hd H ρ σ ∧ wO G m ρ hd (NxO (T.hide hi) μ hd H Q) (Xx (T.hide hi) μ hd H fun c a => W c a σ)
end
section
variable {T : Tb} {CL : CLs} {G : Gam} {W : WX} {m : ME} {σ : L2.St} {H : Hp} {ρ : Mi.Loc} {μ : List Addr} {hd : Hd} {hi : List Addr}
variable (hG : GMono G)
include hG
theorem tI.mk {Q : VK} {Qd : KD} {Xd : KX} (hs : HS (T.hide hi) μ hd H) (rl : RL (T.hide hi) CL μ hd H ρ σ) (w : wE G m ρ hd Qd Xd) (hx : ∀ x h, Xd x h → Xx (T.hide hi) μ hd H (fun c a => W c a σ) x h)
    (k : ∀ μ1 hd1 H1 d x, Stp μ hd H μ1 hd1 H1 → HS (T.hide hi) μ1 hd1 H1 → R (T.hide hi) μ1 (Live μ1 hd1) H1 d x → RL (T.hide hi) CL μ1 hd1 H1 ρ σ → Qd d hd1 → Q x H1) : tI T CL G W m σ H Q :=
  ⟨hi, ρ, μ, hd, hs, rl, (mo hG m).e ρ hd _ _ _ _ (fun d hd1 q μ1 H1 x st hs1 r => k μ1 hd1 H1 d x st hs1 r (rl.stp hs st) q) hx w⟩
theorem tT.mk {Q : Bool → Hp → Prop} {Qd : Bool → Hd → Prop} {Xd : KX} (hs : HS (T.hide hi) μ hd H) (rl : RL (T.hide hi) CL μ hd H ρ σ) (w : wT G m ρ hd Qd Xd) (hx : ∀ x h, Xd x h → Xx (T.hide hi) μ hd H (fun c a => W c a σ) x h)
    (k : ∀ μ1 hd1 H1 b, Stp μ hd H μ1 hd1 H1 → HS (T.hide hi) μ1 hd1 H1 → RL (T.hide hi) CL μ1 hd1 H1 ρ σ → Qd b hd1 → Q b H1) : tT T CL G W m σ H Q :=
  ⟨hi, ρ, μ, hd, hs, rl, (mo hG m).t ρ hd _ _ _ _ (fun b hd1 q μ1 H1 st hs1 => k μ1 hd1 H1 b st hs1 (rl.stp hs st) q) hx w⟩
theorem tL.mk {Q : List V → Hp → Prop} {Qd : List D → Hd → Prop} {Xd : KX} (hs : HS (T.hide hi) μ hd H) (rl : RL (T.hide hi) CL μ hd H ρ σ) (w : wEs G m ρ hd Qd Xd) (hx : ∀ x h, Xd x h → Xx (T.hide hi) μ hd H (fun c a => W c a σ) x h)
    (k : ∀ μ1 hd1 H1 ds xs, Stp μ hd H μ1 hd1 H1 → HS (T.hide hi) μ1 hd1 H1 → Rs (T.hide hi) μ1 (Live μ1 hd1) H1 ds xs → RL (T.hide hi) CL μ1 hd1 H1 ρ σ → Qd ds hd1 → Q xs H1) : tL T CL G W m σ H Q :=
  ⟨hi, ρ, μ, hd, hs, rl, (mo hG m).es ρ hd _ _ _ _ (fun d hd1 q μ1 H1 x st hs1 r => k μ1 hd1 H1 d x st hs1 r (rl.stp hs st) q) hx w⟩
theorem tO.mk {Q : Option Int → Hp → Prop} {Qd : Option Int → Hd → Prop} {Xd : KX} (hs : HS (T.hide hi) μ hd H) (rl : RL (T.hide hi) CL μ hd H ρ σ) (w : wO G m ρ hd Qd Xd) (hx : ∀ x h, Xd x h → Xx (T.hide hi) μ hd H (fun c a => W c a σ) x h)
    (k : ∀ μ1 hd1 H1 b, Stp μ hd H μ1 hd1 H1 → HS (T.hide hi) μ1 hd1 H1 → RL (T.hide hi) CL μ1 hd1 H1 ρ σ → Qd b hd1 → Q b H1) : tO T CL G W m σ H Q :=
  ⟨hi, ρ, μ, hd, hs, rl, (mo hG m).o ρ hd _ _ _ _ (fun b hd1 q μ1 H1 st hs1 => k μ1 hd1 H1 b st hs1 (rl.stp hs st) q) hx w⟩
end

/-! ### one rule for each construct -/
theorem opt_get {α : Type} {o : Option α} {P : α → Prop} (h : opt o P) : ∃ a, o = some a ∧ P a := by
  cases o with
  | none => exact h.elim
  | some a => exact ⟨a, rfl, h⟩
theorem tri_get {o : Option Bool} {A B : Prop} (h : tri o A B) : ∃ b, o = some b ∧ (if b = true then A else B) := by
  cases o with
  | none => exact h.elim
  | some a => cases a <;> exact ⟨_, rfl, h⟩
theorem Rs.emp {T : Tb} {μ : List Addr} {Lv : Addr → Prop} {H : Hp} {ds : List D} {xs : List V} (r : Rs T μ Lv H ds xs) : xs.isEmpty = ds.isEmpty := by
  cases ds with
  | nil =>
    rw [show xs = [] from r]
    rfl
  | cons d ds =>
    obtain ⟨x, xs, rfl, _⟩ := r
    rfl
theorem NxBl {T : Tb} {μ μ' : List Addr} {hd hd' : Hd} {H H' : Hp} {Q : VK} {z : Bool} (st : Stp μ hd H μ' hd' H') (hs : HS T μ' hd' H') (n : Nx T μ hd H Q (.bl z) hd') : Q (.bl z) H' := Nx.now (Nx.stp st n) hs rfl
theorem truth_ok {T : Tb} {μ : List Addr} {hd : Hd} {H : Hp} {d : D} {x : V} {b : Bool} (hs : HS T μ hd H) (r : R T μ (Live μ hd) H d x) (h : truth hd d = some b) : TruV T.K x H b := by
  cases d with
  | non => cases r; cases h; rfl
  | bl c => cases r; cases h; rfl
  | int i => cases r; cases h; rfl
  | str s =>
    cases r
    simp only [truth] at h
    split at h
    · rename_i hz
      cases h
      refine ⟨by rw [str_len, sz_eq]; exact hz, ?_⟩
      rw [str_len]
      cases s with
      | nil => rfl
      | cons a l =>
        rw [show (!(a :: l).isEmpty) = true from rfl]
        symm
        simp only [bne_iff_ne, ne_eq, List.length_cons]
        omega
    · cases h
  | tup ds =>
    obtain ⟨p, xs, rfl, h1, h2⟩ := r
    cases h
    exact .inr (.inl ⟨xs, h1, by rw [h2.emp]⟩)
  | lst ds =>
    obtain ⟨p, xs, rfl, h1, _, h2⟩ := r
    cases h
    exact .inl ⟨xs, .inl (.inl h1), by rw [h2.emp]⟩
  | ref n =>
    obtain ⟨a, ea, rfl⟩ := r
    simp only [truth] at h
    cases ho : hd[n]? with
    | none => rw [ho] at h; cases h
    | some o =>
      rw [ho] at h
      have q := hs.obj n o a ho ea
      cases o with
      | lst es =>
        cases h
        obtain ⟨xs, h1, h2⟩ := q
        exact .inl ⟨xs, .inl (.inl h1), by rw [h2.emp]⟩
      | rol es =>
        cases h
        obtain ⟨xs, h1, h2⟩ := q
        exact .inl ⟨xs, h1.sql, by rw [h2.emp]⟩
      | dic kvs => exact q.elim
      | ins c fs => cases h
      | dead => cases h
  | glo f => cases h
  | clo k ds => cases h
  | exn k ds => cases h
theorem truthK {K : PySem.W.Frag} {T : Tb} (hK : K = T.K) {hi : List Addr} {μ : List Addr} {hd : Hd} {H : Hp} {d : D} {x : V} {b : Bool} (hs : HS (T.hide hi) μ hd H) (r : R (T.hide hi) μ (Live μ hd) H d x) (h : truth hd d = some b) : TruV K x H b := by
  rw [hK]
  exact truth_ok (T := T.hide hi) hs r h
section
variable {X : Cx} {T : Tb} {CL : CLs} {G : Gam} {W : WX} {a b c e : Expr} {ma mb mc m : ME} {pos : Pos} {es : List Expr}
theorem id_X {T : Tb} {μ : List Addr} {hd : Hd} {H : Hp} {E : XK} : ∀ x h, Xx T μ hd H E x h → Xx T μ hd H E x h := fun _ _ q => q
theorem re_c_int {i : Int} {j : Nat} : PE X (.Constant (.int i) j pos) (tI T CL G W (.c (.int i))) := PE.wk pe_int fun σ H Q ⟨hi, ρ, μ, hd, hs, rl, w⟩ => Nx.now w hs rfl
theorem re_c_bl {i : Bool} {j : Nat} : PE X (.Constant (.bool i) j pos) (tI T CL G W (.c (.bl i))) := PE.wk pe_bl fun σ H Q ⟨hi, ρ, μ, hd, hs, rl, w⟩ => Nx.now w hs rfl
theorem re_c_non {j : Nat} : PE X (.Constant .none j pos) (tI T CL G W (.c .non)) := PE.wk pe_non fun σ H Q ⟨hi, ρ, μ, hd, hs, rl, w⟩ => Nx.now w hs rfl
theorem re_c_str {s : List Nat} {x : Str} {j : Nat} (h : x.cps.toList = s) : PE X (.Constant (.str x) j pos) (tI T CL G W (.c (.str s))) := PE.wk pe_str fun σ H Q ⟨hi, ρ, μ, hd, hs, rl, w⟩ => Nx.now w hs (by subst h; rfl)
theorem re_v {i : Nat} {x : Str} (hN : X.N[i]? = some x) (hv : Vis X.env.scope x) (hd : (x == ("__debug__" : Str)) = false) (hcd : (x == ("__classdict__" : Str)) = false) : PE X (.Name x pos) (tI T CL G W (.v i)) :=
  PE.wk (pe_var hN hv hd hcd) fun σ H Q ⟨hi, ρ, μ, hd, hs, rl, w⟩ => by
    obtain ⟨d, e, n, w⟩ := opt_get w
    obtain ⟨v, e1, r⟩ := rl.get e
    exact ⟨v, e1, Nx.now w hs (r.nc n)⟩
theorem re_g {k : Nat} {x : Str} {u : Value} {v : V} (hg : Gl X x) (hm : X.mg x = some u) (r : RelV v u) (hr : ∀ hi μ Lv H, R (T.hide hi) μ Lv H (G.gc k) v) (hd : (x == ("__debug__" : Str)) = false) : PE X (.Name x pos) (tI T CL G W (.g k)) :=
  PE.wk (pe_glob hg hm r hd) fun σ H Q ⟨hi, ρ, μ, hd, hs, rl, w⟩ => Nx.now w hs (hr _ _ _ _)
variable (hG : GMono G)
theorem re_nil : PA X [] (tL T CL G W .nl) := PA.wk pa_nil fun σ H Q ⟨hi, ρ, μ, hd, hs, rl, w⟩ => NxL.now w hs rfl
include hG
theorem re_cons (ha : PE X a (tI T CL G W ma)) (hb : PA X es (tL T CL G W mb)) (hst : starEach (a :: es) X.env = (false, eval a X.env) :: starEach es X.env) : PA X (a :: es) (tL T CL G W (.cn ma mb)) :=
  PA.wk (pa_cons ha hb hst) fun σ H Q ⟨hi, ρ, μ, hd, hs, rl, w⟩ => tI.mk hG hs rl w id_X fun μ1 hd1 H1 d x st hs1 r1 rl1 q => tL.mk hG hs1 rl1 q (fun _ _ => Xx.stp st) fun μ2 hd2 H2 ds xs st2 hs2 r2 rl2 q2 =>
    NxL.now (NxL.stp (st.trans st2) q2) hs2 ⟨x, xs, rfl, R.stp hs1 st2 d x r1, r2⟩
theorem re_tup {k : Nat} (h : PA X es (tL T CL G W m)) : PE X (.Tuple es k pos) (tI T CL G W (.tup m)) :=
  PE.wk (pe_tup h) fun σ H Q ⟨hi, ρ, μ, hd, hs, rl, w⟩ => tL.mk hG hs rl w id_X fun μ1 hd1 H1 ds xs st hs1 r1 rl1 q =>
    ⟨by rw [Rs.length r1, sz_eq]; exact q.1, fun p hp => Nx.tup (Nx.stp st q.2) hs1 r1 hp⟩
theorem re_lst (h : PA X es (tL T CL G W m)) : PE X (.List es pos) (tI T CL G W (.lst m)) :=
  PE.wk (pe_lst h) fun σ H Q ⟨hi, ρ, μ, hd, hs, rl, w⟩ => tL.mk hG hs rl w id_X fun μ1 hd1 H1 ds xs st hs1 r1 rl1 q =>
    ⟨by rw [Rs.length r1, sz_eq]; exact q.1, fun p hp => Nx.lst (Nx.stp st q.2) hs1 r1 hp⟩
theorem re_neg (ha : PE X a (tI T CL G W ma)) : PE X (.UnaryOp .USub a pos) (tI T CL G W (.neg ma)) :=
  PE.wk (pe_un un_neg ha) fun σ H Q ⟨hi, ρ, μ, hd, hs, rl, w⟩ => tI.mk hG hs rl w id_X fun μ1 hd1 H1 d x st hs1 r1 rl1 q => by
    cases d <;> first | exact (show False from q).elim | skip
    cases r1
    exact ⟨_, rfl, Nx.now (Nx.stp st q) hs1 rfl⟩
theorem re_bin (hK : X.K = T.K) (o : Bi) (ha : PE X a (tI T CL G W ma)) (hb : PE X b (tI T CL G W mb)) : PE X (.BinOp a (bo o) b pos) (tI T CL G W (.bin o ma mb)) :=
  PE.wk (pe_op (opB_ok hK o) ha hb) fun σ H Q ⟨hi, ρ, μ, hd, hs, rl, w⟩ => tI.mk hG hs rl w id_X fun μ1 hd1 H1 d x st hs1 r1 rl1 q => tI.mk hG hs1 rl1 q (fun _ _ => Xx.stp st) fun μ2 hd2 H2 e y st2 hs2 r2 rl2 q2 =>
    ⟨hi, μ2, hd2, d, e, hs2, R.stp hs1 st2 d x r1, r2, opt_mono (fun z => Nx.stp (st.trans st2)) q2⟩
theorem re_cmp (hK : X.K = T.K) (hu : X.A.units + 64 < cLine) (o : Co) (ha : PE X a (tI T CL G W ma)) (hb : PE X b (tI T CL G W mb)) (hm : behindInMarks (co o) b = false) : PE X (.Compare a [co o] [b] pos) (tI T CL G W (.cmp o ma mb)) :=
  PE.wk (pe_cmpR (opC_ok hK hu o) ha hb hm) fun σ H Q ⟨hi, ρ, μ, hd, hs, rl, w⟩ => tI.mk hG hs rl w id_X fun μ1 hd1 H1 d x st hs1 r1 rl1 q => tI.mk hG hs1 rl1 q (fun _ _ => Xx.stp st) fun μ2 hd2 H2 e y st2 hs2 r2 rl2 q2 =>
    ⟨hi, μ2, hd2, d, e, hs2, R.stp hs1 st2 d x r1, r2, opt_mono (fun z n => NxBl (st.trans st2) hs2 n) q2⟩
theorem rt_cmp (hK : X.K = T.K) (hu : X.A.units + 64 < cLine) (o : Co) (ha : PE X a (tI T CL G W ma)) (hb : PE X b (tI T CL G W mb)) (hm : behindInMarks (co o) b = false) : PT X (.Compare a [co o] [b] pos) (tT T CL G W (.cmp o ma mb)) :=
  PT.wk (pt_cmpR (opC_ok hK hu o) ha hb hm) fun σ H Q ⟨hi, ρ, μ, hd, hs, rl, w⟩ => tI.mk hG hs rl w id_X fun μ1 hd1 H1 d x st hs1 r1 rl1 q => tI.mk hG hs1 rl1 q (fun _ _ => Xx.stp st) fun μ2 hd2 H2 e y st2 hs2 r2 rl2 q2 =>
    ⟨hi, μ2, hd2, d, e, hs2, R.stp hs1 st2 d x r1, r2, opt_mono (fun z n => ⟨z, rfl, NxB.now (NxB.stp (st.trans st2) n) hs2⟩) q2⟩
theorem re_chn (hK : X.K = T.K) (hu : X.A.units + 64 < cLine) (o p : Co) (ha : PE X a (tI T CL G W ma)) (hb : PE X b (tI T CL G W mb)) (hc : PE X c (tI T CL G W mc)) (hm : lastMarks [co o, co p] [b, c] = false) : PE X (.Compare a [co o, co p] [b, c] pos) (tI T CL G W (.chn o p ma mb mc)) :=
  PE.wk (pe_chain (opC_ok hK hu o) (opC_ok hK hu p) ha hb hc hm) fun σ H Q ⟨hi, ρ, μ, hd, hs, rl, w⟩ => tI.mk hG hs rl w id_X fun μ1 hd1 H1 d x st hs1 r1 rl1 q => tI.mk hG hs1 rl1 q (fun _ _ => Xx.stp st) fun μ2 hd2 H2 e y st2 hs2 r2 rl2 q2 => by
    obtain ⟨z, e1, q2⟩ := tri_get q2
    refine ⟨hi, μ2, hd2, d, e, hs2, R.stp hs1 st2 d x r1, r2, ?_⟩
    rw [e1]
    refine ⟨z, rfl, ?_⟩
    cases z with
    | true => exact tI.mk hG hs2 rl2 q2 (fun _ _ => Xx.stp (st.trans st2)) fun μ3 hd3 H3 f z st3 hs3 r3 rl3 q3 =>
        ⟨hi, μ3, hd3, e, f, hs3, R.stp hs2 st3 e y r2, r3, opt_mono (fun z n => NxBl ((st.trans st2).trans st3) hs3 n) q3⟩
    | false => exact NxBl (st.trans st2) hs2 q2
theorem rt_chn (hK : X.K = T.K) (hu : X.A.units + 64 < cLine) (o p : Co) (ha : PE X a (tI T CL G W ma)) (hb : PE X b (tI T CL G W mb)) (hc : PE X c (tI T CL G W mc)) (hm : lastMarks [co o, co p] [b, c] = false) : PT X (.Compare a [co o, co p] [b, c] pos) (tT T CL G W (.chn o p ma mb mc)) :=
  PT.wk (pt_chain (opC_ok hK hu o) (opC_ok hK hu p) ha hb hc hm) fun σ H Q ⟨hi, ρ, μ, hd, hs, rl, w⟩ => tI.mk hG hs rl w id_X fun μ1 hd1 H1 d x st hs1 r1 rl1 q => tI.mk hG hs1 rl1 q (fun _ _ => Xx.stp st) fun μ2 hd2 H2 e y st2 hs2 r2 rl2 q2 => by
    obtain ⟨z, e1, q2⟩ := tri_get q2
    refine ⟨hi, μ2, hd2, d, e, hs2, R.stp hs1 st2 d x r1, r2, ?_⟩
    rw [e1]
    refine ⟨z, rfl, ?_⟩
    cases z with
    | true => exact tI.mk hG hs2 rl2 q2 (fun _ _ => Xx.stp (st.trans st2)) fun μ3 hd3 H3 f z st3 hs3 r3 rl3 q3 =>
        ⟨hi, μ3, hd3, e, f, hs3, R.stp hs2 st3 e y r2, r3, opt_mono (fun z n => ⟨z, rfl, NxB.now (NxB.stp ((st.trans st2).trans st3) n) hs3⟩) q3⟩
    | false => exact ⟨false, rfl, NxB.now (NxB.stp (st.trans st2) q2) hs2⟩
theorem re_and {rest : List Expr} (hK : X.K = T.K) (ha : PE X a (tI T CL G W ma)) (hb : PE X (.BoolOp .And (b :: rest) pos) (tI T CL G W mb)) : PE X (.BoolOp .And (a :: b :: rest) pos) (tI T CL G W (.and ma mb)) :=
  PE.wk (pe_andT ha hb) fun σ H Q ⟨hi, ρ, μ, hd, hs, rl, w⟩ => tI.mk hG hs rl w id_X fun μ1 hd1 H1 d x st hs1 r1 rl1 q => by
    obtain ⟨z, e1, q⟩ := tri_get q
    refine ⟨z, truthK hK hs1 r1 e1, ?_⟩
    cases z with
    | true => exact tI.mk hG hs1 rl1 q (fun _ _ => Xx.stp st) fun μ2 hd2 H2 e y st2 hs2 r2 rl2 q2 => Nx.now (Nx.stp (st.trans st2) q2) hs2 r2
    | false => exact Nx.now (Nx.stp st q) hs1 r1
theorem re_or {rest : List Expr} (hK : X.K = T.K) (ha : PE X a (tI T CL G W ma)) (hb : PE X (.BoolOp .Or (b :: rest) pos) (tI T CL G W mb)) : PE X (.BoolOp .Or (a :: b :: rest) pos) (tI T CL G W (.or ma mb)) :=
  PE.wk (pe_orT ha hb) fun σ H Q ⟨hi, ρ, μ, hd, hs, rl, w⟩ => tI.mk hG hs rl w id_X fun μ1 hd1 H1 d x st hs1 r1 rl1 q => by
    obtain ⟨z, e1, q⟩ := tri_get q
    refine ⟨z, truthK hK hs1 r1 e1, ?_⟩
    cases z with
    | false => exact tI.mk hG hs1 rl1 q (fun _ _ => Xx.stp st) fun μ2 hd2 H2 e y st2 hs2 r2 rl2 q2 => Nx.now (Nx.stp (st.trans st2) q2) hs2 r2
    | true => exact Nx.now (Nx.stp st q) hs1 r1
theorem re_not (hK : X.K = T.K) (ha : PE X a (tI T CL G W ma)) : PE X (.UnaryOp .Not a pos) (tI T CL G W (.not ma)) :=
  PE.wk (pe_notT ha) fun σ H Q ⟨hi, ρ, μ, hd, hs, rl, w⟩ => tI.mk hG hs rl w id_X fun μ1 hd1 H1 d x st hs1 r1 rl1 q => by
    obtain ⟨z, e1, q⟩ := opt_get q
    exact ⟨z, truthK hK hs1 r1 e1, NxBl st hs1 q⟩
theorem rt_tr (hK : X.K = T.K) (ha : PE X a (tI T CL G W ma)) (he : ∀ whole, isTrue a X.env whole = (do let v ← whole; standAt a.pos; holding [v] (truthy v))) : PT X a (tT T CL G W (.tr ma)) :=
  PT.wk (pt_truth ha he) fun σ H Q ⟨hi, ρ, μ, hd, hs, rl, w⟩ => tI.mk hG hs rl w id_X fun μ1 hd1 H1 d x st hs1 r1 rl1 q => by
    obtain ⟨z, e1, q⟩ := opt_get q
    exact ⟨z, truthK hK hs1 r1 e1, NxB.now (NxB.stp st q) hs1⟩
theorem rt_not (ha : PT X a (tT T CL G W ma)) : PT X (.UnaryOp .Not a pos) (tT T CL G W (.not ma)) :=
  PT.wk (pt_not ha) fun σ H Q ⟨hi, ρ, μ, hd, hs, rl, w⟩ => tT.mk hG hs rl w id_X fun μ1 hd1 H1 b st hs1 rl1 q => NxB.now (NxB.stp st q) hs1
theorem ra_and {rest : List Expr} (ha : PT X a (tT T CL G W ma)) (hb : PW X (.BoolOp .And (b :: rest) pos) (tT T CL G W mb)) : PW X (.BoolOp .And (a :: b :: rest) pos) (tT T CL G W (.and ma mb)) :=
  PW.wk (pw_and ha hb) fun σ H Q ⟨hi, ρ, μ, hd, hs, rl, w⟩ => tT.mk hG hs rl w id_X fun μ1 hd1 H1 z st hs1 rl1 q => by
    cases z with
    | true => exact tT.mk hG hs1 rl1 q (fun _ _ => Xx.stp st) fun μ2 hd2 H2 y st2 hs2 rl2 q2 => NxB.now (NxB.stp (st.trans st2) q2) hs2
    | false => exact NxB.now (NxB.stp st q) hs1
theorem ra_or {rest : List Expr} (ha : PT X a (tT T CL G W ma)) (hb : PW X (.BoolOp .Or (b :: rest) pos) (tT T CL G W mb)) : PW X (.BoolOp .Or (a :: b :: rest) pos) (tT T CL G W (.or ma mb)) :=
  PW.wk (pw_or ha hb) fun σ H Q ⟨hi, ρ, μ, hd, hs, rl, w⟩ => tT.mk hG hs rl w id_X fun μ1 hd1 H1 z st hs1 rl1 q => by
    cases z with
    | false => exact tT.mk hG hs1 rl1 q (fun _ _ => Xx.stp st) fun μ2 hd2 H2 y st2 hs2 rl2 q2 => NxB.now (NxB.stp (st.trans st2) q2) hs2
    | true => exact NxB.now (NxB.stp st q) hs1
theorem re_ite (hc : PT X c (tT T CL G W mc)) (ha : PE X a (tI T CL G W ma)) (hb : PE X b (tI T CL G W mb)) : PE X (.IfExp c a b pos) (tI T CL G W (.ite mc ma mb)) :=
  PE.wk (pe_ifExp hc ha hb) fun σ H Q ⟨hi, ρ, μ, hd, hs, rl, w⟩ => tT.mk hG hs rl w id_X fun μ1 hd1 H1 z st hs1 rl1 q => by
    cases z with
    | true => exact tI.mk hG hs1 rl1 q (fun _ _ => Xx.stp st) fun μ2 hd2 H2 e y st2 hs2 r2 rl2 q2 => Nx.now (Nx.stp (st.trans st2) q2) hs2 r2
    | false => exact tI.mk hG hs1 rl1 q (fun _ _ => Xx.stp st) fun μ2 hd2 H2 e y st2 hs2 r2 rl2 q2 => Nx.now (Nx.stp (st.trans st2) q2) hs2 r2
/-! parts of slices -/
theorem ro_none : PO X none (tO T CL G W .nl) := ⟨fun pins s σ H Q I ⟨hi, ρ, μ, hd, hs, rl, w⟩ => po_none.run pins s σ H Q I (w μ H Stp.refl hs)⟩
end
end Mi
set_option linter.all false
set_option maxRecDepth 100000
set_option maxHeartbeats 1000000
/-! Mi: the heap written; parts, slices, built-in functions, methods, isinstance. -/
namespace Mi
open PySem L2

section
variable {T : Tb} {μ μ' : List Addr} {hd hd' : Hd} {H H' : Hp}
def okW (o : HO) : Prop := (∀ xs, o ≠ .lst xs) ∧ ∀ C dx fs, o ≠ .ins C dx fs
theorem Tabs.wr {tb : List (Addr × Str)} (t : LamX.Tabs tb H) (e : ∀ b o, H b = some o → okW o → H' b = some o) : LamX.Tabs tb H' := fun p hp => by
  obtain ⟨ps, h1, h2, h3⟩ := t p hp
  refine ⟨ps, e _ _ h1 ⟨fun _ z => (by cases z), fun _ _ _ z => (by cases z)⟩, h2, fun pos cv hc => ?_⟩
  obtain ⟨c, e1, e2⟩ := h3 pos cv hc
  exact ⟨c, e1, e _ _ e2 ⟨fun _ z => (by cases z), fun _ _ _ z => (by cases z)⟩⟩
theorem Live.at {n : Nat} {o : O} {a : Addr} (e : hd[n]? = some o) (m : isMut o = true) (ea : μ[n]? = some a) : Live μ hd a := ⟨n, o, e, m, ea⟩
/-- another content, or none, at the place n -/
theorem Live.setD {n : Nat} {o o' : O} {a b : Addr} (e : hd[n]? = some o) (m : isMut o = true) (ea : μ[n]? = some a) (l : Live μ (hd.set n o') b) : Live μ hd b := by
  obtain ⟨k, u, e1, m1, ek⟩ := l
  by_cases hk : n = k
  · subst hk
    rw [ea] at ek
    cases ek
    exact ⟨n, o, e, m, ea⟩
  · rw [List.getElem?_set_ne hk] at e1
    exact ⟨k, u, e1, m1, ek⟩
theorem Stp.write {n : Nat} {o o' : O} {a : Addr} {u : HO} (hs : HS T μ hd H) (e : hd[n]? = some o) (m : isMut o = true) (ea : μ[n]? = some a) : Stp μ hd H μ (hd.set n o') (upd H a u) := by
  refine ⟨⟨[], by simp⟩, fun b l => .inl (Live.setD e m ea l), fun b v h nl nt => ?_, fun b ps h => ⟨ps, ?_⟩⟩
  · rw [upd_ne fun z => nl (by subst z; exact ⟨n, o, e, m, ea⟩)]
    exact h
  · rw [upd_ne fun z => hs.tbl h (by subst z; exact ⟨n, o, e, m, ea⟩)]
    exact h
theorem HS.write {n : Nat} {o o' : O} {a : Addr} {u : HO} (hs : HS T μ hd H) (e : hd[n]? = some o) (m : isMut o = true) (ea : μ[n]? = some a) (m' : isMut o' = true)
    (ro : RO T μ (Live μ (hd.set n o')) (upd H a u) o' a) : HS T μ (hd.set n o') (upd H a u) := by
  have st : Stp μ hd H μ (hd.set n o') (upd H a u) := Stp.write hs e m ea
  have hn : n < hd.length := (List.getElem?_eq_some_iff.mp e).1
  have back : ∀ (k : Nat) (w : O), (hd.set n o')[k]? = some w → isMut w = true → ∃ w', hd[k]? = some w' ∧ isMut w' = true := fun k w h1 h2 => by
    by_cases hk : n = k
    · subst hk; exact ⟨o, e, m⟩
    · rw [List.getElem?_set_ne hk] at h1; exact ⟨w, h1, h2⟩
  refine ⟨by rw [List.length_set]; exact hs.len, fun i j b oi oj h1 h2 h3 h4 h5 h6 => ?_, fun k w b h1 h2 => ?_, ?_, hs.hidStp st⟩
  · obtain ⟨wi, g1, g2⟩ := back i oi h1 h2
    obtain ⟨wj, g3, g4⟩ := back j oj h4 h5
    exact hs.inj i j b wi wj g1 g2 h3 g3 g4 h6
  · by_cases hk : n = k
    · subst hk
      rw [List.getElem?_set_self hn] at h1
      cases h1
      rw [ea] at h2
      cases h2
      exact ro
    · rw [List.getElem?_set_ne hk] at h1
      refine RO.stp hs st (hs.obj k w b h1 h2) fun mw => upd_ne fun z => ?_
      subst z
      exact hk (hs.inj n k b o w e m ea h1 mw h2)
  · refine Tabs.wr hs.tabs fun b w h ok => ?_
    rw [upd_ne fun z => ?_]
    · exact h
    · subst z
      rcases hs.notlive ⟨n, o, e, m, ea⟩ with ⟨xs, q⟩ | ⟨C, dx, vs, q⟩ <;> rw [h] at q <;> cases q
      · exact ok.1 _ rfl
      · exact ok.2 _ _ _ rfl
/-- a thing of the heap is let go -/
theorem Stp.dead {n : Nat} {o : O} {a : Addr} (e : hd[n]? = some o) (m : isMut o = true) (ea : μ[n]? = some a) : Stp μ hd H μ (hd.set n .dead) H :=
  ⟨⟨[], by simp⟩, fun b l => .inl (Live.setD e m ea l), fun b v h _ _ => h, fun b ps h => ⟨ps, h⟩⟩
theorem HS.dead {n : Nat} {o : O} {a : Addr} (hs : HS T μ hd H) (e : hd[n]? = some o) (m : isMut o = true) (ea : μ[n]? = some a) : HS T μ (hd.set n .dead) H ∧ ¬ Live μ (hd.set n .dead) a := by
  have st : Stp μ hd H μ (hd.set n .dead) H := Stp.dead e m ea
  have hn : n < hd.length := (List.getElem?_eq_some_iff.mp e).1
  have back : ∀ (k : Nat) (w : O), (hd.set n .dead)[k]? = some w → isMut w = true → hd[k]? = some w ∧ k ≠ n := fun k w h1 h2 => by
    by_cases hk : n = k
    · subst hk
      rw [List.getElem?_set_self hn] at h1
      cases h1
      cases h2
    · rw [List.getElem?_set_ne hk] at h1; exact ⟨h1, fun z => hk z.symm⟩
  refine ⟨⟨by rw [List.length_set]; exact hs.len, fun i j b oi oj h1 h2 h3 h4 h5 h6 => hs.inj i j b oi oj (back i oi h1 h2).1 h2 h3 (back j oj h4 h5).1 h5 h6, fun k w b h1 h2 => ?_, hs.tabs, hs.hidStp st⟩, fun l => ?_⟩
  · by_cases hk : n = k
    · subst hk
      rw [List.getElem?_set_self hn] at h1
      cases h1
      exact True.intro
    · rw [List.getElem?_set_ne hk] at h1
      exact RO.stp hs st (hs.obj k w b h1 h2) fun _ => rfl
  · obtain ⟨k, w, h1, h2, h3⟩ := l
    obtain ⟨g1, g2⟩ := back k w h1 h2
    exact g2 (hs.inj k n a w o g1 h2 h3 e m ea)
/-- a new thing of the heap -/
theorem Live.snocI {p : Addr} {o : O} {b : Addr} (l : Live μ hd b) : Live (μ ++ [p]) (hd ++ [o]) b := by
  obtain ⟨k, w, h1, h2, h3⟩ := l
  refine ⟨k, w, ?_, h2, ?_⟩
  · rw [List.getElem?_append_left (List.getElem?_eq_some_iff.mp h1).1]; exact h1
  · rw [List.getElem?_append_left (List.getElem?_eq_some_iff.mp h3).1]; exact h3
theorem Stp.newO {p : Addr} {o : O} {u : HO} (hs : HS T μ hd H) (hp : H p = none) : Stp μ hd H (μ ++ [p]) (hd ++ [o]) (upd H p u) := by
  refine ⟨⟨[p], rfl⟩, fun b l => ?_, fun b v h _ _ => by rw [upd_ne (ne_of_none h hp)]; exact h, fun b ps h => ⟨ps, by rw [upd_ne (ne_of_none h hp)]; exact h⟩⟩
  rcases Live.snoc hs.len l with q | ⟨_, q⟩
  · exact .inl q
  · subst q; exact .inr hp
theorem HS.newO {p : Addr} {o : O} {u : HO} (hs : HS T μ hd H) (hp : H p = none) (ro : RO T (μ ++ [p]) (Live (μ ++ [p]) (hd ++ [o])) (upd H p u) o p) : HS T (μ ++ [p]) (hd ++ [o]) (upd H p u) := by
  have st : Stp μ hd H (μ ++ [p]) (hd ++ [o]) (upd H p u) := Stp.newO hs hp
  have old : ∀ (k : Nat) (w : O) (b : Addr), (hd ++ [o])[k]? = some w → (μ ++ [p])[k]? = some b → (hd[k]? = some w ∧ μ[k]? = some b) ∨ (k = hd.length ∧ w = o ∧ b = p) := fun k w b h1 h2 => by
    by_cases hk : k < hd.length
    · rw [List.getElem?_append_left hk] at h1
      rw [List.getElem?_append_left (by rw [hs.len]; exact hk)] at h2
      exact .inl ⟨h1, h2⟩
    · have := (List.getElem?_eq_some_iff.mp h1).1
      rw [List.length_append, List.length_singleton] at this
      have hk' : k = hd.length := by omega
      subst hk'
      rw [List.getElem?_append_right (Nat.le_refl _), Nat.sub_self] at h1
      rw [List.getElem?_append_right (by rw [hs.len]; exact Nat.le_refl _), hs.len, Nat.sub_self] at h2
      exact .inr ⟨rfl, (Option.some.inj h1).symm, (Option.some.inj h2).symm⟩
  refine ⟨by rw [List.length_append, List.length_append, hs.len]; rfl, fun i j b oi oj h1 h2 h3 h4 h5 h6 => ?_, fun k w b h1 h2 => ?_, hs.tabs.ext fun b v h => (by rw [upd_ne (ne_of_none h hp)]; exact h), hs.hidStp st⟩
  · rcases old i oi b h1 h3 with ⟨g1, g2⟩ | ⟨g1, g2, g3⟩ <;> rcases old j oj b h4 h6 with ⟨k1, k2⟩ | ⟨k1, k2, k3⟩
    · exact hs.inj i j b oi oj g1 h2 g2 k1 h5 k2
    · subst k3; exact (Live.notnew hs hp ⟨i, oi, g1, h2, g2⟩).elim
    · subst g3; exact (Live.notnew hs hp ⟨j, oj, k1, h5, k2⟩).elim
    · rw [g1, k1]
  · rcases old k w b h1 h2 with ⟨g1, g2⟩ | ⟨_, g2, g3⟩
    · refine RO.stp hs st (hs.obj k w b g1 g2) fun mw => upd_ne fun z => ?_
      subst z
      exact Live.notnew hs hp ⟨k, w, g1, mw, g2⟩
    · subst g2; subst g3; exact ro
theorem HS.newAt {p : Addr} (hs : HS T μ hd H) : (μ ++ [p])[hd.length]? = some p := by
  rw [List.getElem?_append_right (by rw [hs.len]; exact Nat.le_refl _), hs.len, Nat.sub_self]
  rfl
/-- a list of the heap -/
theorem HS.lst {n : Nat} {ds : List D} {a : Addr} (hs : HS T μ hd H) (e : hd[n]? = some (.lst ds)) (ea : μ[n]? = some a) : ∃ xs, H a = some (.lst xs) ∧ Rs T μ (Live μ hd) H ds xs := hs.obj n _ a e ea
/-- .. is written -/
theorem HS.wrL {n : Nat} {ds es : List D} {a : Addr} {ys : List V} (hs : HS T μ hd H) (e : hd[n]? = some (.lst ds)) (ea : μ[n]? = some a) (r : Rs T μ (Live μ hd) H es ys) :
    HS T μ (hd.set n (.lst es)) (upd H a (.lst ys)) ∧ Stp μ hd H μ (hd.set n (.lst es)) (upd H a (.lst ys)) := by
  have st : Stp μ hd H μ (hd.set n (.lst es)) (upd H a (.lst ys)) := Stp.write hs e rfl ea
  exact ⟨hs.write e rfl ea rfl ⟨ys, upd_same, Rs.stp hs st _ _ r⟩, st⟩
theorem ref_lst {x : D} {P : List D → Nat → Prop} (h : onR x fun n => onL hd n fun xs => P xs n) : ∃ n xs, x = .ref n ∧ hd[n]? = some (.lst xs) ∧ P xs n := by
  cases x <;> first | exact (show False from h).elim | skip
  rename_i n
  have h : onL hd n fun xs => P xs n := h
  unfold onL at h
  split at h
  · exact ⟨n, _, rfl, by assumption, h⟩
  · exact h.elim
end

/-! ### no star, no lookups past plain bases -/
def noStar : List Expr → Bool
  | [] => true
  | .Starred _ _ :: _ => false
  | _ :: r => noStar r
theorem starEach_cons {a : Expr} {es : List Expr} {env : Env} (h : noStar (a :: es) = true) : starEach (a :: es) env = (false, eval a env) :: starEach es env ∧ noStar es = true := by
  cases a <;> first | exact ⟨rfl, h⟩ | cases h
theorem starEach_map {env : Env} : ∀ {es : List Expr}, noStar es = true → starEach es env = es.map fun e => (false, eval e env)
  | [], _ => rfl
  | a :: es, h => by
    obtain ⟨h1, h2⟩ := starEach_cons (env := env) h
    rw [h1, starEach_map h2]
    rfl
theorem noStar_any {env : Env} {pos : Pos} {es : List Expr} (h : noStar es = true) : (backTo pos (starEach es env)).any (·.1) = false := by
  rw [starEach_map h]
  unfold backTo
  rw [List.map_map, List.any_map]
  exact List.any_eq_false.mpr fun x hx => by simp
def baseOk : Expr → Bool
  | .Call _ [] [] _ => false
  | _ => true
theorem base_of {o : Expr} {f : Str} {env : Env} {wh : Sem Value} (h : baseOk o = true) : attributeBase o f env wh = wh := by
  cases o with
  | Call fn args kws pos =>
    cases args with
    | cons a r => unfold attributeBase; cases fn <;> rfl
    | nil =>
      cases kws with
      | nil => cases h
      | cons k r => unfold attributeBase; cases fn <;> rfl
  | _ => rfl

/-! ### parts of slices, slices, places -/
section
variable {X : Cx} {T : Tb} {CL : CLs} {G : Gam} {W : WX} {a b c e : Expr} {ma mb mc m : ME} {pos p2 : Pos} {es : List Expr} {lo hi : Option Expr}
variable (hG : GMono G)
include hG
theorem ro_some (ha : PE X a (tI T CL G W ma)) : PO X (some a) (tO T CL G W (.sm ma)) := ⟨fun pins s σ H Q I ⟨hi, ρ, μ, hd, hs, rl, w⟩ => (po_some ha).run pins s σ H Q I
  (tI.mk hG hs rl w id_X fun μ1 hd1 H1 d x st hs1 r1 rl1 q => by
    cases d <;> first | exact (show False from q).elim | skip
    cases r1
    exact ⟨_, rfl, NxO.stp st q μ1 H1 Stp.refl hs1⟩)⟩
omit hG in
theorem cutL_len {α : Type} (xs : List α) (lo hi : Option Int) : cutL xs lo hi = (xs.drop (HT.sIx xs.length 0 lo)).take (HT.sIx xs.length xs.length hi - HT.sIx xs.length 0 lo) := rfl
omit hG in
theorem Rs.cut {T : Tb} {μ : List Addr} {Lv : Addr → Prop} {H : Hp} {ds : List D} {xs : List V} (r : Rs T μ Lv H ds xs) (hl : xs.length = ds.length) (lo hi : Option Int) : Rs T μ Lv H (cutL ds lo hi) (cutV xs lo hi) := by
  unfold cutV cutL
  rw [hl]
  exact Rs.take _ (Rs.drop _ r)
omit hG in
theorem cut_all {α : Type} (xs : List α) (lo hi : Option Int) (h1 : HT.sIx xs.length 0 lo = 0) (h2 : HT.sIx xs.length xs.length hi = xs.length) : (xs.drop (HT.sIx xs.length 0 lo)).take (HT.sIx xs.length xs.length hi - HT.sIx xs.length 0 lo) = xs := by
  rw [h1, h2]
  simp
def rSl (K : PySem.W.Frag) : V → Option Int → Option Int → Hp → VK → Prop := fun x lo hi H Q => rSlL K x lo hi H Q ∨ (rSlA K x lo hi H Q ∨ rSlS x lo hi H Q)
omit hG in
theorem sl_any : SlR X (rSl X.K) := sl_list.or (sl_tupA.or sl_str)
theorem re_slc (hK : X.K = T.K) (ha : PE X a (tI T CL G W ma)) (hl : PO X lo (tO T CL G W mb)) (hh : PO X hi (tO T CL G W mc)) : PE X (.Subscript a (.Slice lo hi none p2) pos) (tI T CL G W (.slc ma mb mc)) :=
  PE.wk (pe_slice sl_any ha hl hh) fun σ H Q ⟨hi, ρ, μ, hd, hs, rl, w⟩ => tI.mk hG hs rl w id_X fun μ1 hd1 H1 d x st hs1 r1 rl1 q => tO.mk hG hs1 rl1 q (fun _ _ => Xx.stp st) fun μ2 hd2 H2 l st2 hs2 rl2 q2 =>
    tO.mk hG hs2 rl2 q2 (fun _ _ => Xx.stp (st.trans st2)) fun μ3 hd3 H3 u st3 hs3 rl3 q3 => by
      obtain ⟨z, e, q3⟩ := opt_get q3
      have q3 := Nx.stp ((st.trans st2).trans st3) q3
      have r3 := R.stp hs1 (st2.trans st3) d x r1
      rw [hK]
      cases d with
      | str s =>
        simp only [slD] at e
        split at e
        · rename_i hz
          cases e
          cases r3
          refine .inr (.inr ⟨_, rfl, by rw [str_len, sz_eq]; exact hz, ?_⟩)
          have : cutS ⟨s.toArray⟩ l u = ⟨(cutL s l u).toArray⟩ := by
            unfold cutS
            rw [str_len]
            rfl
          rw [this]
          exact Nx.now q3 hs3 rfl
        · cases e
      | tup ds =>
        cases e
        obtain ⟨p, xs, rfl, h1, h2⟩ := r3
        have hl := Rs.length h2
        have rc := Rs.cut h2 hl l u
        refine .inr (.inl ⟨p, xs, rfl, h1, fun hw => ?_, fun _ a ha => Nx.tup q3 hs3 rc ha⟩)
        refine Nx.now q3 hs3 ⟨p, xs, rfl, h1, ?_⟩
        have e2 : cutL ds l u = ds := by
          rw [cutL_len]
          exact cut_all ds l u (by rw [← hl]; exact hw.1) (by rw [← hl]; exact hw.2)
        rw [e2]
        exact h2
      | lst ds =>
        cases e
        obtain ⟨p, xs, rfl, h1, n1, h2⟩ := r3
        exact .inl ⟨p, xs, rfl, .inl (.inl h1), fun a ha => Nx.lst q3 hs3 (Rs.cut h2 (Rs.length h2) l u) ha⟩
      | ref n =>
        obtain ⟨p, ea, rfl⟩ := r3
        simp only [slD] at e
        cases ho : hd3[n]? with
        | none => rw [ho] at e; cases e
        | some o =>
          rw [ho] at e
          have qo := hs3.obj n o p ho ea
          cases o with
          | lst ds =>
            cases e
            obtain ⟨xs, h1, h2⟩ := qo
            exact .inl ⟨p, xs, rfl, .inl (.inl h1), fun a ha => Nx.lst q3 hs3 (Rs.cut h2 (Rs.length h2) l u) ha⟩
          | rol ds =>
            cases e
            obtain ⟨xs, h1, h2⟩ := qo
            exact .inl ⟨p, xs, rfl, h1.sql, fun a ha => Nx.lst q3 hs3 (Rs.cut h2 (Rs.length h2) l u) ha⟩
          | _ => cases e
      | _ => cases e
omit hG in
theorem ixAt_eq (n : Nat) (i : Int) : ixAt n i = ixN n i := rfl
omit hG in
theorem ix_ok {μ : List Addr} {hd : Hd} {H : Hp} {d i z : D} {x y : V} {Q : VK} (hs : HS T μ hd H) (r1 : R T μ (Live μ hd) H d x) (r2 : R T μ (Live μ hd) H i y) (e : ixD hd d i = some z) (n : Nx T μ hd H Q z hd) : rIx T.K x y H Q := by
  unfold ixD at e
  split at e
  · rename_i s k
    cases r1; cases r2
    split at e
    · rename_i hz
      obtain ⟨j, e1, e2⟩ := Option.bind_eq_some_iff.mp e
      obtain ⟨c, e3, e4⟩ := Option.map_eq_some_iff.mp e2
      cases e4
      refine .inr (.inr ⟨_, k, c, rfl, rfl, by rw [str_len, sz_eq]; exact hz, ?_, Nx.now n hs rfl⟩)
      unfold atI
      show (ixN (s.toArray.toList).length k).bind _ = _
      rw [List.toList_toArray, ← ixAt_eq, e1]
      exact e3
    · cases e
  · rename_i k _
    cases r2
    split at e
    · rename_i ds hq
      obtain ⟨j, e1, e2⟩ := Option.bind_eq_some_iff.mp e
      obtain ⟨p, xs, rfl, hp, rs⟩ := seqOf_ok hs r1 hq
      obtain ⟨v, e3, rv⟩ := Rs.get rs e2
      have ea : atI xs k = some v := by
        unfold atI
        rw [← ixAt_eq, Rs.length rs, e1]
        exact e3
      rcases hp with hp | hp
      · exact .inl ⟨p, xs, k, v, rfl, rfl, hp, ea, Nx.now n hs rv⟩
      · exact .inr (.inl ⟨p, xs, k, v, rfl, rfl, hp, ea, Nx.now n hs rv⟩)
    · cases e
  · cases e
def noSlice : Expr → Bool
  | .Slice _ _ _ _ => false
  | _ => true
omit hG in
theorem plainIx_of {b : Expr} (h : noSlice b = true) : PlainIx b := fun o i => by
  cases b <;> first | rfl | cases h
theorem re_ix (hK : X.K = T.K) (ha : PE X a (tI T CL G W ma)) (hb : PE X b (tI T CL G W mb)) (hn : noSlice b = true) : PE X (.Subscript a b pos) (tI T CL G W (.ix ma mb)) :=
  PE.wk (pe_ix ix_seq ha hb (plainIx_of hn)) fun σ H Q ⟨hi, ρ, μ, hd, hs, rl, w⟩ => tI.mk hG hs rl w id_X fun μ1 hd1 H1 d x st hs1 r1 rl1 q => tI.mk hG hs1 rl1 q (fun _ _ => Xx.stp st) fun μ2 hd2 H2 f y st2 hs2 r2 rl2 q2 => by
    obtain ⟨z, e, q2⟩ := opt_get q2
    rw [hK]
    exact ix_ok (T := T.hide hi) hs2 (R.stp hs1 st2 d x r1) r2 e (Nx.stp (st.trans st2) q2)
omit hG in
theorem allStr_ok {μ : List Addr} {Lv : Addr → Prop} {H : Hp} : ∀ {ds : List D} {xs : List (List Nat)} {vs : List V}, Rs T μ Lv H ds vs → allStr ds = some xs → vs = xs.map fun s => V.str ⟨s.toArray⟩
  | [], xs, vs, r, e => by
    cases e
    exact r
  | d :: ds, xs, vs, r, e => by
    obtain ⟨x, rr, rfl, r1, r2⟩ := r
    cases d <;> first | (cases e; done) | skip
    simp only [allStr] at e
    obtain ⟨ys, e1, e2⟩ := Option.map_eq_some_iff.mp e
    cases e2
    rw [allStr_ok r2 e1, show x = _ from r1]
    rfl
omit hG in
theorem allBl_ok {μ : List Addr} {Lv : Addr → Prop} {H : Hp} : ∀ {ds : List D} {xs : List Bool} {vs : List V}, Rs T μ Lv H ds vs → allBl ds = some xs → vs = xs.map V.bl
  | [], xs, vs, r, e => by
    cases e
    exact r
  | d :: ds, xs, vs, r, e => by
    obtain ⟨x, rr, rfl, r1, r2⟩ := r
    cases d <;> first | (cases e; done) | skip
    simp only [allBl] at e
    obtain ⟨ys, e1, e2⟩ := Option.map_eq_some_iff.mp e
    cases e2
    rw [allBl_ok r2 e1, show x = _ from r1]
    rfl
omit hG in
theorem allInt_ok {μ : List Addr} {Lv : Addr → Prop} {H : Hp} : ∀ {ds : List D} {xs : List Int} {vs : List V}, Rs T μ Lv H ds vs → allInt ds = some xs → vs = xs.map V.int
  | [], xs, vs, r, e => by
    cases e
    exact r
  | d :: ds, xs, vs, r, e => by
    obtain ⟨x, rr, rfl, r1, r2⟩ := r
    cases d <;> first | (cases e; done) | skip
    simp only [allInt] at e
    obtain ⟨ys, e1, e2⟩ := Option.map_eq_some_iff.mp e
    cases e2
    rw [allInt_ok r2 e1, show x = _ from r1]
    rfl
/-! ### built-in functions -/
def bfV : Bf → Value
  | .len => .builtin "len" | .abs => .builtin "abs" | .all => .builtin "all" | .any => .builtin "any" | .sum => .builtin "sum" | .min => .builtin "min" | .max => .builtin "max" | .sorted => .builtin "sorted" | .gcd => .builtin "math.gcd"
  | .int => .type "int" | .str => .type "str" | .tuple => .type "tuple" | .list => .type "list" | .bool => .type "bool"
def rF0 (T : Tb) (b : Bf) : List V → Hp → VK → Prop := fun xs H Q => ∃ μ hd ds z, HS T μ hd H ∧ Rs T μ (Live μ hd) H ds xs ∧ bfD hd b ds = some z ∧ Nx T μ hd H Q z hd
omit hG in
theorem Rs.one {μ : List Addr} {Lv : Addr → Prop} {H : Hp} {d : D} {vs : List V} (r : Rs T μ Lv H [d] vs) : ∃ x, vs = [x] ∧ R T μ Lv H d x := by
  obtain ⟨x, xs, rfl, r1, r2⟩ := r
  rw [show xs = [] from r2]
  exact ⟨x, rfl, r1⟩
omit hG in
theorem Rs.two {μ : List Addr} {Lv : Addr → Prop} {H : Hp} {d e : D} {vs : List V} (r : Rs T μ Lv H [d, e] vs) : ∃ x y, vs = [x, y] ∧ R T μ Lv H d x ∧ R T μ Lv H e y := by
  obtain ⟨x, xs, rfl, r1, r2⟩ := r
  obtain ⟨y, rfl, r3⟩ := Rs.one r2
  exact ⟨x, y, rfl, r1, r3⟩
omit hG in
theorem str_text (i : Int) : (⟨(textInt i).toArray⟩ : Str) = Str.ofString (toString i) := TL.ext_tl (by rw [TL.tl_mk, TL.tl_ofString]; rfl)
omit hG in
theorem len_ok {μ : List Addr} {hd : Hd} {H : Hp} {d : D} {x : V} {n : Nat} (hs : HS T μ hd H) (r : R T μ (Live μ hd) H d x) (e : lenD hd d = some n) : LenV T.K x H n := by
  unfold lenD at e
  split at e
  · cases r
    split at e
    · rename_i hz
      cases e
      exact ⟨by rw [str_len, sz_eq]; exact hz, (str_len _).symm⟩
    · cases e
  · obtain ⟨ds, e1, e2⟩ := Option.map_eq_some_iff.mp e
    obtain ⟨p, xs, rfl, hp, rs⟩ := seqOf_ok hs r e1
    cases e2
    rcases hp with hp | hp
    · exact .inl ⟨xs, hp, (Rs.length rs).symm⟩
    · exact .inr ⟨xs, hp, (Rs.length rs).symm⟩
omit hG in
theorem mxI_eq : ∀ (m : Int) (l : List Int) (k : Int), k ∈ m :: l → (∀ y ∈ m :: l, y ≤ k) → mxI m l = k
  | m, [], k, h, _ => (List.mem_singleton.mp h).symm
  | m, n :: r, k, h, u => by
    unfold mxI
    split
    · rename_i c
      refine mxI_eq n r k ?_ fun y hy => u y (List.mem_cons_of_mem _ hy)
      rcases List.mem_cons.mp h with rfl | h
      · exact absurd (u n (by simp)) (by omega)
      · exact h
    · rename_i c
      refine mxI_eq m r k ?_ fun y hy => u y (by rcases List.mem_cons.mp hy with rfl | hy <;> simp [*])
      rcases List.mem_cons.mp h with rfl | h
      · exact List.mem_cons_self
      · rcases List.mem_cons.mp h with rfl | h
        · have := u m (by simp)
          have e : m = k := by omega
          rw [e]; exact List.mem_cons_self
        · exact List.mem_cons_of_mem _ h
omit hG in
theorem mnI_eq : ∀ (m : Int) (l : List Int) (k : Int), k ∈ m :: l → (∀ y ∈ m :: l, k ≤ y) → mnI m l = k
  | m, [], k, h, _ => (List.mem_singleton.mp h).symm
  | m, n :: r, k, h, u => by
    unfold mnI
    split
    · rename_i c
      refine mnI_eq n r k ?_ fun y hy => u y (List.mem_cons_of_mem _ hy)
      rcases List.mem_cons.mp h with rfl | h
      · exact absurd (u n (by simp)) (by omega)
      · exact h
    · rename_i c
      refine mnI_eq m r k ?_ fun y hy => u y (by rcases List.mem_cons.mp hy with rfl | hy <;> simp [*])
      rcases List.mem_cons.mp h with rfl | h
      · exact List.mem_cons_self
      · rcases List.mem_cons.mp h with rfl | h
        · have := u m (by simp)
          have e : m = k := by omega
          rw [e]; exact List.mem_cons_self
        · exact List.mem_cons_of_mem _ h
omit hG in
theorem insI_perm (n : Int) : ∀ l : List Int, (insI n l).Perm (n :: l)
  | [] => .refl _
  | m :: r => by
    unfold insI
    split
    · exact .refl _
    · exact ((insI_perm n r).cons m).trans (.swap n m r)
omit hG in
theorem insI_pw (n : Int) : ∀ {l : List Int}, l.Pairwise (· ≤ ·) → (insI n l).Pairwise (· ≤ ·)
  | [], _ => by simp [insI]
  | m :: r, h => by
    obtain ⟨h1, h2⟩ := List.pairwise_cons.mp h
    unfold insI
    split
    · rename_i c
      exact List.pairwise_cons.mpr ⟨fun y hy => by
        rcases List.mem_cons.mp hy with rfl | hy
        · exact c
        · have := h1 y hy; omega, h⟩
    · rename_i c
      exact List.pairwise_cons.mpr ⟨fun y hy => by
        rcases List.mem_cons.mp ((insI_perm n r).mem_iff.mp hy) with rfl | hy
        · omega
        · exact h1 y hy, insI_pw n h2⟩
omit hG in
theorem sortI_perm : ∀ l : List Int, (sortI l).Perm l
  | [] => .refl _
  | n :: r => (insI_perm n _).trans ((sortI_perm r).cons n)
omit hG in
theorem sortI_pw : ∀ l : List Int, (sortI l).Pairwise (· ≤ ·)
  | [] => .nil
  | n :: r => insI_pw n (sortI_pw r)
omit hG in
theorem sortI_eq {l l' : List Int} (hp : l'.Perm l) (hw : l'.Pairwise (· ≤ ·)) : l' = sortI l :=
  List.Perm.eq_of_pairwise (fun a b _ _ h1 h2 => Int.le_antisymm h1 h2) hw (sortI_pw l) (hp.trans (sortI_perm l).symm)
omit hG in
theorem Rs_ints {T : Tb} {μ : List Addr} {Lv : Addr → Prop} {H : Hp} : ∀ ns : List Int, Rs T μ Lv H (ns.map .int) (ns.map V.int)
  | [] => rfl
  | n :: r => ⟨_, _, rfl, rfl, Rs_ints r⟩
omit hG in
theorem depth_ints : ∀ ns : List Int, PyData.depthAll (ns.map PyData.int) ≤ 1
  | [] => by simp [PyData.depthAll]
  | n :: r => by
    have := depth_ints r
    simp only [List.map_cons, PyData.depthAll, PyData.depth]
    omega
omit hG in
theorem max_tupI {prog : Program} {w : World} {A : Around} {E : Value → Shared → Prop} {s : Shared} {l : Addr} {vs : Array Value} {n : Int} {ns : List Int} {Q : Value → Shared → Prop} (hh : A.handled = none) (hl : s.heap.IsTuple l vs) (hi : PyProof.Rows.IntsAre vs.toList (n :: ns)) (hu : A.units + 64 < cLine)
    (h : ∀ h' tk t', (∀ b o, s.heap.get? b = some o → h'.get? b = some o) → Q (.int (ns.foldl max n) t') { s with heap := h', toks := tk }) : wpAny (model prog w) A (call (.builtin "max") [.ref l]) Q E s := by
  refine PySem.W.max_tuple_data hh hl (x := .int n) (xs := ns.map .int) (as := []) (PyProof.Rows.ints_readAll s.heap hi) ⟨fun x hx y hy => ?_, fun x hx => ?_⟩ ?_ fun i v h' tk bs hv r k => ?_
  · obtain ⟨a, _, rfl⟩ := List.mem_map.mp (show x ∈ (n :: ns).map PyData.int from hx)
    obtain ⟨b, _, rfl⟩ := List.mem_map.mp (show y ∈ (n :: ns).map PyData.int from hy)
    rfl
  · obtain ⟨a, _, rfl⟩ := List.mem_map.mp (show x ∈ (n :: ns).map PyData.int from hx)
    intro z
    cases z
  · have := depth_ints (n :: ns)
    have e : PyData.depthAll (PyData.int n :: ns.map PyData.int) ≤ 1 := this
    omega
  · rw [PySem.W.maxD_ints] at r
    cases r
    exact h h' tk _ k
omit hG in
theorem mxI_fold : ∀ (l : List Int) (m : Int), l.foldl max m = mxI m l
  | [], m => rfl
  | n :: r, m => by
    unfold mxI
    show r.foldl max (max m n) = _
    rw [mxI_fold r]
    split
    · rename_i c; rw [Int.max_eq_right (by omega)]
    · rename_i c; rw [Int.max_eq_left (by omega)]
omit hG in
theorem min_tupI {prog : Program} {w : World} {A : Around} {E : Value → Shared → Prop} {s : Shared} {l : Addr} {vs : Array Value} {n : Int} {ns : List Int} {Q : Value → Shared → Prop} (hh : A.handled = none) (hl : s.heap.IsTuple l vs) (hi : PyProof.Rows.IntsAre vs.toList (n :: ns)) (hu : A.units + 64 < cLine)
    (h : ∀ h' tk t', (∀ b o, s.heap.get? b = some o → h'.get? b = some o) → Q (.int (ns.foldl min n) t') { s with heap := h', toks := tk }) : wpAny (model prog w) A (call (.builtin "min") [.ref l]) Q E s := by
  refine PySem.W.min_tuple_data hh hl (x := .int n) (xs := ns.map .int) (as := []) (PyProof.Rows.ints_readAll s.heap hi) ⟨fun x hx y hy => ?_, fun x hx => ?_⟩ ?_ fun i v h' tk bs hv r k => ?_
  · obtain ⟨a, _, rfl⟩ := List.mem_map.mp (show x ∈ (n :: ns).map PyData.int from hx)
    obtain ⟨b, _, rfl⟩ := List.mem_map.mp (show y ∈ (n :: ns).map PyData.int from hy)
    rfl
  · obtain ⟨a, _, rfl⟩ := List.mem_map.mp (show x ∈ (n :: ns).map PyData.int from hx)
    intro z
    cases z
  · have := depth_ints (n :: ns)
    have e : PyData.depthAll (PyData.int n :: ns.map PyData.int) ≤ 1 := this
    omega
  · rw [PySem.W.minD_ints] at r
    cases r
    exact h h' tk _ k
omit hG in
theorem mnI_fold : ∀ (l : List Int) (m : Int), l.foldl min m = mnI m l
  | [], m => rfl
  | n :: r, m => by
    unfold mnI
    show r.foldl min (min m n) = _
    rw [mnI_fold r]
    split
    · rename_i c; rw [Int.min_eq_right (by omega)]
    · rename_i c; rw [Int.min_eq_left (by omega)]
omit hG in
theorem bf_ok0 (hK : X.K = T.K) (hc : X.calm = true) (hu : X.A.units + 64 < cLine) (b : Bf) : CallR X (bfV b) (rF0 T b) := by
  intro pins s σ H xs us Q I rv h
  obtain ⟨μ, hd, ds, z, hs, r, e, n⟩ := h
  unfold bfD at e
  split at e
  · obtain ⟨x, rfl, r1⟩ := Rs.one r
    obtain ⟨k, e1, e2⟩ := Option.map_eq_some_iff.mp e
    cases e2
    exact call_len pins s σ H _ us Q I rv ⟨x, k, rfl, hK ▸ len_ok hs r1 e1, Nx.now n hs rfl⟩
  · obtain ⟨x, rfl, r1⟩ := Rs.one r
    cases r1; cases e
    exact call_abs pins s σ H _ us Q I rv ⟨_, rfl, Nx.now n hs rfl⟩
  · obtain ⟨x, rfl, r1⟩ := Rs.one r
    cases r1; cases e
    exact call_int1 pins s σ H _ us Q I rv (.inl ⟨_, rfl, Nx.now n hs rfl⟩)
  · obtain ⟨x, rfl, r1⟩ := Rs.one r
    cases r1; cases e
    exact call_int1 pins s σ H _ us Q I rv (.inr ⟨_, rfl, Nx.now n hs rfl⟩)
  · obtain ⟨x, rfl, r1⟩ := Rs.one r
    cases r1; cases e
    exact call_bool1 pins s σ H _ us Q I rv (.inr ⟨_, rfl, Nx.now n hs rfl⟩)
  · obtain ⟨x, rfl, r1⟩ := Rs.one r
    cases r1
    split at e
    · rename_i hz
      cases e
      refine call_str_int pins s σ H _ us Q I rv ⟨_, rfl, hz, ?_⟩
      have := Nx.now n hs rfl
      rw [str_text] at this
      exact this
    · cases e
  · obtain ⟨x, rfl, r1⟩ := Rs.one r
    obtain ⟨es, e1, e2⟩ := Option.map_eq_some_iff.mp e
    cases e2
    obtain ⟨p, ys, rfl, hp, rs⟩ := seqOf_ok hs r1 e1
    rcases hp with hp | hp
    · exact call_tuple_of pins s σ H _ us Q I rv ⟨p, ys, rfl, .inl ⟨hK ▸ hp, fun l hl => Nx.tup n hs rs hl⟩⟩
    · exact call_tuple_of pins s σ H _ us Q I rv ⟨p, ys, rfl, .inr ⟨hK ▸ hp, Nx.now n hs ⟨p, ys, rfl, hp, rs⟩⟩⟩
  · obtain ⟨x, rfl, r1⟩ := Rs.one r
    obtain ⟨es, e1, e2⟩ := Option.map_eq_some_iff.mp e
    cases e2
    obtain ⟨p, ys, rfl, hp, rs⟩ := seqOf_ok hs r1 e1
    exact call_list_of pins s σ H _ us Q I rv ⟨p, ys, rfl, hK ▸ hp, fun l hl => Nx.lst n hs rs hl⟩
  · obtain ⟨x, rfl, r1⟩ := Rs.one r
    obtain ⟨bs, e1, e2⟩ := Option.map_eq_some_iff.mp e
    cases e2
    obtain ⟨p, ys, rfl, hp, _, rs⟩ := r1
    have := allBl_ok rs e1
    subst this
    exact cr_all hc pins s σ H _ us Q I rv ⟨p, bs, rfl, .inl (.inl hp), Nx.now n hs rfl⟩
  · obtain ⟨x, rfl, r1⟩ := Rs.one r
    obtain ⟨bs, e1, e2⟩ := Option.map_eq_some_iff.mp e
    cases e2
    obtain ⟨p, ys, rfl, hp, _, rs⟩ := r1
    have := allBl_ok rs e1
    subst this
    exact cr_any hc pins s σ H _ us Q I rv ⟨p, bs, rfl, .inl (.inl hp), Nx.now n hs rfl⟩
  · obtain ⟨x, rfl, r1⟩ := Rs.one r
    obtain ⟨bs, e1, e2⟩ := Option.map_eq_some_iff.mp e
    cases e2
    obtain ⟨p, ys, rfl, hp, _, rs⟩ := r1
    have := allInt_ok rs e1
    subst this
    exact cr_sum hc pins s σ H _ us Q I rv ⟨p, bs, rfl, .inl (.inl hp), Nx.now n hs rfl⟩
  · obtain ⟨x, y, rfl, r1, r2⟩ := Rs.two r
    cases r1; cases r2; cases e
    exact cr_gcd pins s σ H _ us Q I rv ⟨_, _, rfl, Nx.now n hs rfl⟩
  · obtain ⟨x, y, rfl, r1, r2⟩ := Rs.two r
    cases r1; cases r2; cases e
    exact call_max2 hc pins s σ H _ us Q I rv ⟨_, _, rfl, Nx.now n hs rfl⟩
  · obtain ⟨x, y, rfl, r1, r2⟩ := Rs.two r
    cases r1; cases r2; cases e
    exact call_min2 hc pins s σ H _ us Q I rv ⟨_, _, rfl, Nx.now n hs rfl⟩
  · obtain ⟨x, rfl, r1⟩ := Rs.one r
    obtain ⟨ns, e1, e2⟩ := Option.bind_eq_some_iff.mp e
    obtain ⟨p, ys, rfl, hp, _, rs⟩ := r1
    have := allInt_ok rs e1
    subst this
    cases ns with
    | nil => cases e2
    | cons m l =>
      cases e2
      refine cr_max hc pins s σ H _ us Q I rv ⟨p, m :: l, rfl, hK ▸ .inl (.inl hp), by simp, fun k hk hu => ?_⟩
      have := mxI_eq m l k hk hu
      subst this
      exact Nx.now n hs rfl
  · obtain ⟨x, rfl, r1⟩ := Rs.one r
    obtain ⟨ns, e1, e2⟩ := Option.bind_eq_some_iff.mp e
    obtain ⟨p, ys, rfl, hp, _, rs⟩ := r1
    have := allInt_ok rs e1
    subst this
    cases ns with
    | nil => cases e2
    | cons m l =>
      cases e2
      refine cr_min hc pins s σ H _ us Q I rv ⟨p, m :: l, rfl, hK ▸ .inl (.inl hp), by simp, fun k hk hu => ?_⟩
      have := mnI_eq m l k hk hu
      subst this
      exact Nx.now n hs rfl
  · obtain ⟨x, rfl, r1⟩ := Rs.one r
    obtain ⟨ns, e1, e2⟩ := Option.bind_eq_some_iff.mp e
    obtain ⟨p, ys, rfl, hp, rs⟩ := r1
    have := allInt_ok rs e1
    subst this
    cases ns with
    | nil => cases e2
    | cons m l =>
      cases e2
      obtain ⟨its, rv', hT, _⟩ := I.tuple (show SqT X.K H p _ from hK ▸ hp)
      rw [Vals.ref1 rv]
      refine max_tupI (n := m) (ns := l) (I.ok.hd hc) (show s.heap.IsTuple p its.toArray from hT) (by simpa using rv'.ints) hu fun h' tk t' k => ⟨.int _, H, I.kept k, ⟨_, rfl⟩, ?_⟩
      rw [mxI_fold]
      exact Nx.now n hs rfl
  · obtain ⟨x, rfl, r1⟩ := Rs.one r
    obtain ⟨ns, e1, e2⟩ := Option.bind_eq_some_iff.mp e
    obtain ⟨p, ys, rfl, hp, rs⟩ := r1
    have := allInt_ok rs e1
    subst this
    cases ns with
    | nil => cases e2
    | cons m l =>
      cases e2
      obtain ⟨its, rv', hT, _⟩ := I.tuple (show SqT X.K H p _ from hK ▸ hp)
      rw [Vals.ref1 rv]
      refine min_tupI (n := m) (ns := l) (I.ok.hd hc) (show s.heap.IsTuple p its.toArray from hT) (by simpa using rv'.ints) hu fun h' tk t' k => ⟨.int _, H, I.kept k, ⟨_, rfl⟩, ?_⟩
      rw [mnI_fold]
      exact Nx.now n hs rfl
  · obtain ⟨x, rfl, r1⟩ := Rs.one r
    obtain ⟨ns, e1, e2⟩ := Option.map_eq_some_iff.mp e
    cases e2
    obtain ⟨p, ys, rfl, hp, _, rs⟩ := r1
    have := allInt_ok rs e1
    subst this
    refine cr_sortedI pins s σ H _ us Q I rv ⟨p, ns, rfl, hK ▸ .inl (.inl hp), fun ns' l hperm hpw hl => ?_⟩
    have := sortI_eq hperm hpw
    subst this
    exact Nx.lst n hs (Rs_ints _) hl
  · cases e
def rF (T : Tb) (b : Bf) : List V → Hp → VK → Prop := fun xs H Q => ∃ hi, rF0 (T.hide hi) b xs H Q
omit hG in
theorem bf_ok (hK : X.K = T.K) (hc : X.calm = true) (hu : X.A.units + 64 < cLine) (b : Bf) : CallR X (bfV b) (rF T b) := fun pins s σ H xs us Q I rv ⟨hi, h⟩ => bf_ok0 (T := T.hide hi) hK hc hu b pins s σ H xs us Q I rv h
/-- a built-in function's name: as it stands in the module -/
def bfN : Bf → Str
  | .len => "len" | .abs => "abs" | .all => "all" | .any => "any" | .sum => "sum" | .min => "min" | .max => "max" | .sorted => "sorted" | .gcd => "gcd"
  | .int => "int" | .str => "str" | .tuple => "tuple" | .list => "list" | .bool => "bool"
theorem re_bf (hK : X.K = T.K) (hc : X.calm = true) (hu : X.A.units + 64 < cLine) (o : Bf) {p : Pos} (hg : Gl X (bfN o)) (hm : if o = .gcd then X.mg (bfN o) = some (.builtin "math.gcd") else X.mg (bfN o) = none) (hn : noStar (a :: es) = true) (h : PA X (a :: es) (tL T CL G W m)) :
    PE X (.Call (.Name (bfN o) p) (a :: es) [] pos) (tI T CL G W (.bf o m)) := by
  obtain ⟨h1, h2⟩ := starEach_cons (env := X.env) hn
  refine PE.wk (t := tCB (rF T o) (tL T CL G W m)) ?_ fun σ H Q ⟨hi, ρ, μ, hd, hs, rl, w⟩ => tL.mk hG hs rl w id_X fun μ1 hd1 H1 ds xs st hs1 r1 rl1 q => by
    obtain ⟨z, e, q⟩ := opt_get q
    exact ⟨hi, μ1, hd1, ds, z, hs1, r1, e, Nx.stp st q⟩
  cases o with
  | gcd => exact pe_callBfun (bf_ok hK hc hu .gcd) hg (by simpa using hm) h (by decide) h1 (noStar_any h2)
  | len => exact pe_callB (bf_ok hK hc hu .len) hg hm rfl h (by decide) (by decide) h1 (noStar_any h2)
  | abs => exact pe_callB (bf_ok hK hc hu .abs) hg hm rfl h (by decide) (by decide) h1 (noStar_any h2)
  | all => exact pe_callB (bf_ok hK hc hu .all) hg hm rfl h (by decide) (by decide) h1 (noStar_any h2)
  | any => exact pe_callB (bf_ok hK hc hu .any) hg hm rfl h (by decide) (by decide) h1 (noStar_any h2)
  | sum => exact pe_callB (bf_ok hK hc hu .sum) hg hm rfl h (by decide) (by decide) h1 (noStar_any h2)
  | min => exact pe_callB (bf_ok hK hc hu .min) hg hm rfl h (by decide) (by decide) h1 (noStar_any h2)
  | max => exact pe_callB (bf_ok hK hc hu .max) hg hm rfl h (by decide) (by decide) h1 (noStar_any h2)
  | sorted => exact pe_callB (bf_ok hK hc hu .sorted) hg hm rfl h (by decide) (by decide) h1 (noStar_any h2)
  | int => exact pe_callTy (bf_ok hK hc hu .int) hg hm rfl h (by decide) (by decide) h1 (noStar_any h2)
  | str => exact pe_callTy (bf_ok hK hc hu .str) hg hm rfl h (by decide) (by decide) h1 (noStar_any h2)
  | tuple => exact pe_callTy (bf_ok hK hc hu .tuple) hg hm rfl h (by decide) (by decide) h1 (noStar_any h2)
  | list => exact pe_callTy (bf_ok hK hc hu .list) hg hm rfl h (by decide) (by decide) h1 (noStar_any h2)
  | bool => exact pe_callTy (bf_ok hK hc hu .bool) hg hm rfl h (by decide) (by decide) h1 (noStar_any h2)
/-! ### methods -/
omit hG in
theorem joinS_tl : ∀ (sep : List Nat) (xs : List (List Nat)), joinS sep xs = TL.joinL sep xs
  | _, [] => rfl
  | _, [x] => rfl
  | sep, x :: y :: r => by
    show x ++ sep ++ joinS sep (y :: r) = _
    rw [joinS_tl sep (y :: r)]
    show x ++ sep ++ TL.joinL sep (y :: r) = x ++ (sep ++ TL.joinL sep (y :: r))
    rw [List.append_assoc]
omit hG in
theorem map_tl_id (xs : List (List Nat)) : (xs.map fun s => (⟨s.toArray⟩ : Str)).map TL.tl = xs := by
  rw [List.map_map]
  exact (List.map_congr_left fun a _ => rfl).trans (List.map_id xs)
omit hG in
theorem join_str (s : List Nat) (xs : List (List Nat)) : Txt.join ⟨s.toArray⟩ (xs.map fun s => (⟨s.toArray⟩ : Str)) = ⟨(joinS s xs).toArray⟩ := TL.ext_tl (by
  rw [TL.join_eq, TL.tl_join, map_tl_id, TL.tl_mk, TL.tl_mk, joinS_tl])
def mtTyS : Mt → String
  | .append => "list"
  | _ => "str"
def mtId : Mt → String
  | .join => "str.join"
  | .append => "list.append"
  | _ => ""
def mtN : Mt → Str
  | .join => "join"
  | .append => "append"
  | _ => ""
def mtDone : Mt → Bool
  | .join | .append => true
  | _ => false
def rM0 (T : Tb) (m : Mt) : V → List V → Hp → VK → Prop := fun x xs H Q => ∃ μ hd d ds, HS T μ hd H ∧ R T μ (Live μ hd) H d x ∧ Rs T μ (Live μ hd) H ds xs ∧ mtW hd m d ds (Nx T μ hd H Q)
omit hG in
theorem mtTy_ok {μ : List Addr} {hd : Hd} {H : Hp} {m : Mt} {d : D} {x : V} (hs : HS T μ hd H) (r : R T μ (Live μ hd) H d x) (e : mtTy hd m d = true) : tyV T.K (mtTyS m) x H := by
  have str : ∀ {m : Mt}, mtTyS m = "str" → (∃ s, d = .str s) → tyV T.K (mtTyS m) x H := fun {m} h ⟨s, z⟩ => by
    subst z
    cases r
    exact h
  cases m with
  | append =>
    cases d <;> first | (cases e; done) | skip
    rename_i n
    simp only [mtTy] at e
    split at e
    · rename_i ds ho
      obtain ⟨a, ea, rfl⟩ := r
      obtain ⟨xs, h1, _⟩ := hs.lst ho ea
      exact .inl ⟨rfl, xs, .inl (.inl h1)⟩
    · cases e
  | _ => cases d <;> first | (cases e; done) | exact str rfl ⟨_, rfl⟩
omit hG in
theorem mt_ok0 (hK : X.K = T.K) (m : Mt) (hd : mtDone m = true) : MtR X (mtId m) (rM0 T m) := by
  cases m <;> first | (cases hd; done) | skip
  · intro pins s σ H x xs v us Q I rx rv h
    obtain ⟨μ, hd, d, ds, hs, r1, r2, w⟩ := h
    obtain ⟨z, e, n⟩ := opt_get (show opt (mtD hd .join d ds) fun z => Nx T μ hd H Q z hd from w)
    unfold mtD at e
    split at e
    · cases r1
      obtain ⟨x, rfl, r3⟩ := Rs.one r2
      obtain ⟨p, ys, rfl, hp, _, rs⟩ := r3
      obtain ⟨zs, e1, e2⟩ := Option.bind_eq_some_iff.mp e
      split at e2
      · rename_i hz
        cases e2
        have := allStr_ok rs e1
        subst this
        refine mt_join pins s σ H _ _ v us Q I rx rv ⟨_, p, zs.map fun s => ⟨s.toArray⟩, rfl, rfl, .inl (.inl (.inl ?_)), ?_, ?_⟩
        · rw [List.map_map]
          exact hp
        · rw [List.map_map, str_len, List.length_map]
          have : (zs.map ((fun x : Str => x.length) ∘ fun s => (⟨s.toArray⟩ : Str))) = zs.map List.length := List.map_congr_left fun a _ => str_len a
          rw [this]
          exact hz
        · rw [join_str]
          exact Nx.now n hs rfl
      · cases e2
    · cases e
  · intro pins s σ H x xs v us Q I rx rv h
    obtain ⟨μ, hd, d, ds, hs, r1, r2, w⟩ := h
    unfold mtW at w
    split at w
    · obtain ⟨n, zs, rfl, ho, hz, nx⟩ := ref_lst (P := fun xs n => xs.length < sizeMax ∧ Nx T μ hd H Q .non (hd.set n (.lst (xs ++ [_])))) w
      obtain ⟨a, ea, rfl⟩ := r1
      obtain ⟨ys, h1, h2⟩ := hs.lst ho ea
      obtain ⟨y, rfl, ry⟩ := Rs.one r2
      obtain ⟨hs', st⟩ := hs.wrL ho ea (Rs.append h2 (show Rs T μ (Live μ hd) H [_] [y] from ⟨y, [], rfl, ry, rfl⟩))
      exact mt_append pins s σ H _ _ v us Q I rx rv ⟨a, ys, y, rfl, rfl, h1, by rw [Rs.length h2, sz_eq]; exact hz, nx μ _ _ st hs' rfl⟩
    · rename_i h
      exact (show False from w).elim
def rM (T : Tb) (m : Mt) : V → List V → Hp → VK → Prop := fun x xs H Q => ∃ hi, rM0 (T.hide hi) m x xs H Q
omit hG in
theorem mt_ok (hK : X.K = T.K) (m : Mt) (hd : mtDone m = true) : MtR X (mtId m) (rM T m) := fun pins s σ H x xs v us Q I rx rv ⟨hi, h⟩ => mt_ok0 (T := T.hide hi) hK m hd pins s σ H x xs v us Q I rx rv h
theorem re_mt (hK : X.K = T.K) (o : Mt) (hd : mtDone o = true) {r : Expr} {mr : ME} {apos : Pos} (hr : PE X r (tI T CL G W mr)) (hb : baseOk r = true) (hn : noStar (a :: es) = true) (hl : (a :: es).length < 30) (hp : (apos.endLine == pos.line) = true) (h : PA X (a :: es) (tL T CL G W m)) :
    PE X (.Call (.Attribute r (mtN o) apos) (a :: es) [] pos) (tI T CL G W (.mt o mr m)) := by
  obtain ⟨h1, h2⟩ := starEach_cons (env := X.env) hn
  have few : ((backTo pos (starEach (a :: es) X.env)).all (fun x => !x.1) && (backToKw pos (keywordEach [] X.env)).all (fun x => x.1.isSome) && decide ((a :: es).length + ([] : List Keyword).length + (if ([] : List Keyword).isEmpty then 0 else 1) < 30)) = true := by
    rw [starEach_map hn, Bool.and_eq_true, Bool.and_eq_true, decide_eq_true_eq]
    refine ⟨⟨?_, rfl⟩, ?_⟩
    · unfold backTo
      rw [List.map_map, List.all_map]
      exact List.all_eq_true.mpr fun x hx => by simp
    · simpa using hl
  refine PE.wk (t := tBM X.K (mtTyS o) (rM T o) (tI T CL G W mr) (tL T CL G W m)) ?_ fun σ H Q ⟨hi, ρ, μ, hd, hs, rl, w⟩ => tI.mk hG hs rl w id_X fun μ1 hd1 H1 d x st hs1 r1 rl1 q =>
    ⟨hK ▸ mtTy_ok (T := T.hide hi) hs1 r1 q.1, tL.mk hG hs1 rl1 q.2 (fun _ _ => Xx.stp st) fun μ2 hd2 H2 ds xs st2 hs2 r2 rl2 q2 => ⟨hi, μ2, hd2, d, ds, hs2, R.stp hs1 st2 d x r1, r2, mtW_mono (fun _ _ => Nx.stp (st.trans st2)) q2⟩⟩
  cases o <;> first | (cases hd; done) | skip
  · exact pe_bm PySem.F.plainAttrs_str PySem.F.slot_str_join PySem.F.type_str_join (mt_ok hK .join rfl) hr h (base_of hb) few hp h1 (noStar_any h2)
  · exact pe_bm PySem.F.plainAttrs_list PySem.F.slot_list_append PySem.F.type_list_append (mt_ok hK .append rfl) hr h (base_of hb) few hp h1 (noStar_any h2)
/-- a list that is written later -/
theorem re_lsh (h : PA X es (tL T CL G W m)) : PE X (.List es pos) (tI T CL G W (.lsh m)) :=
  PE.wk (pe_lst h) fun σ H Q ⟨hi, ρ, μ, hd, hs, rl, w⟩ => tL.mk hG hs rl w id_X fun μ1 hd1 H1 ds xs st hs1 r1 rl1 q =>
    ⟨by rw [Rs.length r1, sz_eq]; exact q.1, fun p hp => by
      have st2 : Stp μ1 hd1 H1 (μ1 ++ [p]) (hd1 ++ [.lst ds]) (upd H1 p (.lst xs)) := Stp.newO hs1 hp
      have hs2 : HS (T.hide hi) (μ1 ++ [p]) (hd1 ++ [.lst ds]) (upd H1 p (.lst xs)) := HS.newO hs1 hp ⟨xs, upd_same, Rs.stp hs1 st2 _ _ r1⟩
      exact q.2 _ _ _ (st.trans st2) hs2 ⟨p, hs1.newAt, rfl⟩⟩
/-! ### isinstance -/
def tvD (hd : Hd) : D → Option String
  | .non => some "NoneType"
  | .bl _ => some "bool"
  | .int _ => some "int"
  | .str _ => some "str"
  | .tup _ => some "tuple"
  | .lst _ => some "list"
  | .ref n => match hd[n]? with | some (.lst _) => some "list" | _ => none
  | _ => none
def tyN : Ty → Str
  | .int => "int" | .bool => "bool" | .str => "str" | .tup => "tuple" | .lst => "list" | .cls _ => ""
def tyS : Ty → String
  | .int => "int" | .bool => "bool" | .str => "str" | .tup => "tuple" | .lst => "list" | .cls _ => ""
omit hG in
theorem tv_ok {μ : List Addr} {hd : Hd} {H : Hp} {d : D} {x : V} {t : String} (hs : HS T μ hd H) (r : R T μ (Live μ hd) H d x) (e : tvD hd d = some t) : TyX T.K H x (.type t) := by
  cases d with
  | non => cases r; cases e; exact .base .non
  | bl b => cases r; cases e; exact .base (.bl b)
  | int i => cases r; cases e; exact .base (.int i)
  | str s => cases r; cases e; exact .base (.str _)
  | tup ds =>
    cases e
    obtain ⟨p, xs, rfl, h1, _⟩ := r
    rcases h1 with (h1 | ⟨o, h1⟩) | ⟨o, its, n, h1, h2, _⟩
    · exact .base (.tup h1)
    · exact .fTuple h1
    · exact .kTuple h1 h2
  | lst ds =>
    cases e
    obtain ⟨p, xs, rfl, h1, _⟩ := r
    exact .base (.lst h1)
  | ref n =>
    obtain ⟨a, ea, rfl⟩ := r
    simp only [tvD] at e
    split at e
    · rename_i ds ho
      cases e
      obtain ⟨xs, h1, _⟩ := hs.lst ho ea
      exact .base (.lst h1)
    · cases e
  | _ => cases e
def tyB (s : String) : Ty → Bool
  | .int => s == "int" || s == "bool"
  | .bool => s == "bool"
  | .str => s == "str"
  | .tup => s == "tuple"
  | .lst => s == "list"
  | .cls _ => false
/-- an own class: no value of a built-in type is of it -/
def clsNot (K : PySem.W.Frag) (C : Addr) : Prop := ∀ s ∈ ["NoneType", "bool", "int", "str", "tuple", "list"], PySem.W.kitOne K (.type s) (.ref C) = some false
def tyVal (T : Tb) : Ty → V → Value → Prop
  | .cls c, v, u => ∃ C, T.ca c = some C ∧ v = .ref C ∧ u = .ref C ∧ clsNot T.K C
  | t, v, u => v = .ty (tyS t) ∧ u = .type (tyS t)
omit hG in
theorem isTy_tv {hd : Hd} {d : D} {t : Ty} {b : Bool} (e : isTy hd d t = some b) : ∃ s, tvD hd d = some s ∧ s ∈ ["NoneType", "bool", "int", "str", "tuple", "list"] ∧ b = tyB s t := by
  cases d with
  | ref n =>
    simp only [isTy] at e
    cases ho : hd[n]? with
    | none => rw [ho] at e; cases e
    | some o =>
      rw [ho] at e
      cases o <;> first | (cases e; done) | skip
      refine ⟨"list", by simp [tvD, ho], by decide, ?_⟩
      cases t <;> cases e <;> rfl
  | glo f => cases t <;> cases e
  | clo k ds => cases t <;> cases e
  | exn k ds => cases t <;> cases e
  | non => cases t <;> cases e <;> exact ⟨_, rfl, by decide, rfl⟩
  | bl c => cases t <;> cases e <;> exact ⟨_, rfl, by decide, rfl⟩
  | int c => cases t <;> cases e <;> exact ⟨_, rfl, by decide, rfl⟩
  | str c => cases t <;> cases e <;> exact ⟨_, rfl, by decide, rfl⟩
  | tup c => cases t <;> cases e <;> exact ⟨_, rfl, by decide, rfl⟩
  | lst c => cases t <;> cases e <;> exact ⟨_, rfl, by decide, rfl⟩
omit hG in
theorem kit_all (K : PySem.W.Frag) {s : String} (h : s ∈ ["NoneType", "bool", "int", "str", "tuple", "list"]) (t : Ty) (nt : ∀ c, t ≠ .cls c) : PySem.W.kitOne K (.type s) (.type (tyS t)) = some (tyB s t) := by
  simp only [List.mem_cons, List.not_mem_nil, or_false] at h
  rcases h with h | h | h | h | h | h <;> subst h <;> cases t <;> first | exact kit_ty (by decide +kernel) | exact (nt _ rfl).elim
omit hG in
theorem kit_one {v : V} {u : Value} {s : String} {t : Ty} (hm : s ∈ ["NoneType", "bool", "int", "str", "tuple", "list"]) (h : tyVal T t v u) : PySem.W.kitOne T.K (.type s) u = some (tyB s t) ∧ ClsV v u := by
  cases t with
  | cls c =>
    obtain ⟨C, _, rfl, rfl, hc⟩ := h
    exact ⟨hc s hm, .own C⟩
  | int => obtain ⟨rfl, rfl⟩ := h; exact ⟨kit_all _ hm .int (fun _ z => by cases z), .ty _⟩
  | bool => obtain ⟨rfl, rfl⟩ := h; exact ⟨kit_all _ hm .bool (fun _ z => by cases z), .ty _⟩
  | str => obtain ⟨rfl, rfl⟩ := h; exact ⟨kit_all _ hm .str (fun _ z => by cases z), .ty _⟩
  | tup => obtain ⟨rfl, rfl⟩ := h; exact ⟨kit_all _ hm .tup (fun _ z => by cases z), .ty _⟩
  | lst => obtain ⟨rfl, rfl⟩ := h; exact ⟨kit_all _ hm .lst (fun _ z => by cases z), .ty _⟩
/-- isinstance(a, t) -/
theorem re_isa1 (hK : X.K = T.K) {p : Pos} {t : Ty} {v : V} {u : Value} {et : Expr} (hg : Gl X "isinstance") (hm : X.mg "isinstance" = none) (hv : tyVal T t v u) (ht : PE X et (tC v)) (hn : noStar [a, et] = true) (ha : PE X a (tI T CL G W ma)) :
    PE X (.Call (.Name "isinstance" p) [a, et] [] pos) (tI T CL G W (.isa ma [t])) := by
  obtain ⟨h1, h2⟩ := starEach_cons (env := X.env) hn
  obtain ⟨h3, _⟩ := starEach_cons (env := X.env) h2
  refine PE.wk (pe_callB call_isi hg hm rfl (pa_cons ha (pa_cons ht pa_nil h3) h1) (by decide) (by decide) h1 (noStar_any h2)) fun σ H Q ⟨hi, ρ, μ, hd, hs, rl, w⟩ => tI.mk hG hs rl w id_X fun μ1 hd1 H1 d x st hs1 r1 rl1 q => ?_
  obtain ⟨b, e, q⟩ := opt_get q
  have e' : isTy hd1 d t = some b := by
    simp only [isAny] at e
    cases hq : isTy hd1 d t with
    | none => rw [hq] at e; cases e
    | some c => rw [hq] at e; cases c <;> exact e
  obtain ⟨s, e1, e2, rfl⟩ := isTy_tv e'
  obtain ⟨k1, k2⟩ := kit_one e2 hv
  rw [hK]
  exact ⟨x, v, .type s, u, _, rfl, k2, tv_ok (T := T.hide hi) hs1 r1 e1, k1, NxBl st hs1 q⟩
end
end Mi
set_option linter.all false
set_option maxRecDepth 100000
set_option maxHeartbeats 1000000
/-! Mi: what is walked. -/
namespace Mi
open PySem L2 PySem.Spec PyProof.Rows

/-! ### enumerate(text) -/
def Ites (x : Str) : It :=
  ⟨fun i _ => i < x.cps.size, fun i H v H' => ∃ T c, v = .ref T ∧ H T = none ∧ H' = upd H T (.tup [.int (i : Nat), .str ⟨#[c]⟩]) ∧ x.cps[i]? = some c, fun i _ => i = x.cps.size⟩
theorem turn_enumS {P : Program} {w : World} {K : PySem.W.Frag} {elts : List Expr} {kk : Nat} {tpos : Pos} (x : Str) (t : Tok) (e it : Addr) (ty : String) (hty : ty = "str_ascii_iterator" ∨ ty = "str_iterator") :
    Turn P w K (.Tuple elts kk tpos) (Ites x) [e, it] e (fun i h => (∃ old, IsEnum h e it ((i : Nat) : Int) old) ∧ h.IsStrIter it ty x t i ∧ e ≠ it) where
  mem := by simp
  obj := fun i h st b hb => by
    obtain ⟨⟨old, he⟩, ⟨o, ho, hc, hd⟩, _⟩ := st
    have e' : b = e ∨ b = it := by simpa using hb
    rcases e' with z | z
    · rw [z]; exact ⟨_, he, fun v q => nomatch q⟩
    · rw [z]; exact ⟨o, ho, fun v q => by rw [hd] at q; cases q⟩
  keep := fun i h h' st k => let ⟨⟨old, he⟩, ⟨o, ho, r⟩, hne⟩ := st; ⟨⟨old, k e (by simp) _ he⟩, ⟨o, k it (by simp) o ho, r⟩, hne⟩
  item := by
    intro X hP hw hK hc i pins s σ H E I hf st hg
    subst hP hw hK
    obtain ⟨⟨old, he⟩, hit, hne⟩ := st
    have hel : e < s.heap.objs.size := Heap.lt_size he
    have hil : it < s.heap.objs.size := by obtain ⟨_, q, _⟩ := hit; exact Heap.lt_size q
    have D : Draws X.prog X.w X.A.in1 it [it] x.cps.size (fun i v => ∃ c u, x.cps[i]? = some c ∧ v = .str ⟨#[c]⟩ u) (fun i h => h.IsStrIter it ty x t i) := by
      rcases hty with q | q
      · rw [q]; exact Draws.strAscii (A := X.A.in1) (I.ok.hd hc) it x t
      · rw [q]; exact Draws.strWide (A := X.A.in1) (I.ok.hd hc) it x t
    refine wpAny_pyNext_enum_itemD D he hit hg hne (by simpa using hne) fun v h' tk hv ho hit' hT hsz hk => ?_
    obtain ⟨c, u, hcx, rfl⟩ := hv
    refine ⟨_, rfl, wpAny_letOwnedTupleGo_enum (s := { s with heap := h', toks := tk + 1 }) ho fun h'' he' sb => ?_⟩
    have hT2 : h''.get? s.heap.objs.size = some { cls := .type "tuple", data := .seq #[.int i tk, .str ⟨#[c]⟩ u] } := (sb.2 _ (Nat.ne_of_gt hel)).trans hT
    have new : ObjOk X.prog X.w (upd H s.heap.objs.size (.tup [.int (i : Nat), .str ⟨#[c]⟩])) h'' s.heap.objs.size (.tup [.int (i : Nat), .str ⟨#[c]⟩]) :=
      ⟨by show 2 ≤ sizeLine; decide, [.int i tk, .str ⟨#[c]⟩ u], .cons ⟨_, rfl⟩ (.cons ⟨_, rfl⟩ .nil), ⟨_, hT2, rfl, _, rfl⟩⟩
    have I1 : Inv X pins σ (upd H s.heap.objs.size (.tup [.int (i : Nat), .str ⟨#[c]⟩])) { s with heap := h'', toks := tk + 1 } :=
      I.turnedNew (ch := [e, it]) (fun b ob hb q => (sb.2 b (fun z => hb (by simp [z]))).trans (hk b ob (fun z => hb (by simp [z])) (fun z => hb (by simp [z])) q)) hf (Nat.le_refl _) new
    refine ⟨.ref s.heap.objs.size, _, I1, rfl, ⟨_, c, rfl, I.hok.fresh (Nat.le_refl _), rfl, hcx⟩, ⟨⟨.str ⟨#[c]⟩ u, ?_⟩, ?_, hne⟩, fun b hb => ?_⟩
    · have e1 : ((i + 1 : Nat) : Int) = (i : Int) + 1 := by omega
      rw [e1]; exact he'
    · obtain ⟨o, ho, r⟩ := hit'
      exact ⟨o, (sb.2 it (Ne.symm hne)).trans ho, r⟩
    · have hb' : b < s.heap.objs.size := by
        have e' : b = e ∨ b = it := by simpa using hb
        rcases e' with z | z
        · rw [z]; exact hel
        · rw [z]; exact hil
      rw [upd_ne (Nat.ne_of_lt hb')]
      exact (hf b hb).1
  done := by
    intro X hP hw hK hc i pins s σ H E I hf st hg
    subst hP hw hK
    obtain ⟨⟨old, he⟩, hit, hne⟩ := st
    have D : Draws X.prog X.w X.A.in1 it [it] x.cps.size (fun i v => ∃ c u, x.cps[i]? = some c ∧ v = .str ⟨#[c]⟩ u) (fun i h => h.IsStrIter it ty x t i) := by
      rcases hty with q | q
      · rw [q]; exact Draws.strAscii (A := X.A.in1) (I.ok.hd hc) it x t
      · rw [q]; exact Draws.strWide (A := X.A.in1) (I.ok.hd hc) it x t
    obtain ⟨f0, f1, f2, f3, f4, f5⟩ := hf it (by simp)
    have hg : i = x.cps.size := hg
    refine wpAny_pyNext_enum_endD D he (hg ▸ hit) fun h' eb => ⟨rfl, I.turned (t' := s.toks) (fun b o hb q => eb b o hb q) f0 f1 f3 f4 f5⟩
  self := fun A i s Q E st h => let ⟨⟨_, he⟩, _⟩ := st; wpAny_pyIter_enum he h
def iEnumS (ta : TA) : TI := fun σ H R => ta σ H fun vs H1 => ∃ x, vs = [.str x] ∧ R (Ites x) H1
theorem pi_enumS {X : Cx} {e : Expr} {ta : TA} {p pos tpos : Pos} {elts : List Expr} {kk : Nat} (hg : Gl X "enumerate") (hm : X.mg "enumerate" = none) (ha : PA X [e] ta) (hs : starEach [e] X.env = [(false, eval e X.env)]) :
    PI X (.Tuple elts kk tpos) (.Call (.Name "enumerate" p) [e] [] pos) (iEnumS ta) := by
  refine ⟨fun pins s σ H R I h => ?_⟩
  refine Call_ (ld_blt I hg hm boot_enumerate (PyProof.Rows.callWith_type1 (thn (ha.run pos pins s σ H _ I h) fun us s1 ⟨vs, H1, I1, r1, q1⟩ => ?_) hs rfl))
  obtain ⟨x, ex, q⟩ := q1
  subst ex
  obtain ⟨u, rfl, t, rfl⟩ := vals1 r1
  refine call_enumerate_str fun h' he hit hsz hk => wpAny_pyIter_enum he ?_
  have I2 : Inv X pins σ H1 { s1 with heap := h' } := I1.kept (t' := s1.toks) hk
  have hty : strIterType x = "str_ascii_iterator" ∨ strIterType x = "str_iterator" := by
    unfold strIterType
    split
    · exact .inl rfl
    · exact .inr rfl
  refine ⟨s1.heap.objs.size + 1, [s1.heap.objs.size + 1, s1.heap.objs.size], _, _, H1, rfl, I2, turn_enumS x t (s1.heap.objs.size + 1) s1.heap.objs.size _ hty, ⟨⟨.none, he⟩, hit, Nat.succ_ne_self _⟩, fun b hb => ?_, q⟩
  have e' : b = s1.heap.objs.size + 1 ∨ b = s1.heap.objs.size := by simpa using hb
  have hle : s1.heap.objs.size ≤ b := by
    rcases e' with z | z
    · rw [z]; exact Nat.le_add_right _ _
    · rw [z]; exact Nat.le_refl _
  exact I1.fpOk hle (I1.hok.fresh hle)

/-! ### enumerate(tuple) -/
def Itet (K : PySem.W.Frag) (a : Addr) : It :=
  ⟨fun i H => ∃ (xs : List V) (x : V), SqT K H a xs ∧ xs[i]? = some x, fun i H v H' => ∃ T x, v = .ref T ∧ H T = none ∧ H' = upd H T (.tup [.int (i : Nat), x]) ∧ ∀ xs, SqT K H a xs → xs[i]? = some x, fun i H => ∃ xs : List V, SqT K H a xs ∧ xs.length = i⟩
theorem turn_enumT {P : Program} {w : World} {K : PySem.W.Frag} {elts : List Expr} {kk : Nat} {tpos : Pos} (a e it : Addr) :
    Turn P w K (.Tuple elts kk tpos) (Itet K a) [e, it] e (fun i h => (∃ old, IsEnum h e it ((i : Nat) : Int) old) ∧ h.IsTupleIter it a i ∧ e ≠ it) where
  mem := by simp
  obj := fun i h st b hb => by
    obtain ⟨⟨old, he⟩, ⟨o, ho, hc, hd⟩, _⟩ := st
    have e' : b = e ∨ b = it := by simpa using hb
    rcases e' with z | z
    · rw [z]; exact ⟨_, he, fun v q => nomatch q⟩
    · rw [z]; exact ⟨o, ho, fun v q => by rw [hd] at q; cases q⟩
  keep := fun i h h' st k => let ⟨⟨old, he⟩, hi, hne⟩ := st; ⟨⟨old, k e (by simp) _ he⟩, hi.at fun o q => k it (by simp) o q, hne⟩
  item := by
    intro X hP hw hK hc i pins s σ H E I hf st hg
    subst hP hw hK
    obtain ⟨⟨old, he⟩, hit, hne⟩ := st
    obtain ⟨xs, x, hq, hx⟩ := hg
    obtain ⟨its, rv, p, hz⟩ := I.tuple hq
    have p : s.heap.IsTuple a its.toArray := p
    obtain ⟨u, hu, ru⟩ := rv.get hx
    have hel : e < s.heap.objs.size := Heap.lt_size he
    have hil : it < s.heap.objs.size := by obtain ⟨_, q, _⟩ := hit; exact Heap.lt_size q
    have hai : a ≠ it := by
      rintro rfl
      obtain ⟨o1, q1, c1, _⟩ := p
      obtain ⟨o2, q2, c2, _⟩ := hit
      rw [q1] at q2
      cases q2
      rw [c1] at c2
      exact absurd (Value.type.inj c2) (by decide)
    have hae : a ≠ e := by
      rintro rfl
      obtain ⟨o1, q1, c1, _⟩ := p
      rw [he] at q1
      cases q1
      exact absurd (Value.type.inj c1) (by decide)
    have D := Draws.tuple (prog := X.prog) (w := X.w) (A := X.A.in1) (I.ok.hd hc) it a hai its.toArray
    refine wpAny_pyNext_enum_itemD D he ⟨hit, p⟩ (show i < its.toArray.size from by simpa using (List.getElem?_eq_some_iff.mp hu).1) hne (by simp [hne, Ne.symm hae]) fun v h' tk hv ho hit' hT hsz hk => ?_
    obtain rfl : v = u := by
      have hv : its[i]? = some v := by simpa using hv
      rw [hu] at hv
      exact (Option.some.inj hv).symm
    refine ⟨_, rfl, wpAny_letOwnedTupleGo_enum (s := { s with heap := h', toks := tk + 1 }) ho fun h'' he' sb => ?_⟩
    have hT2 : h''.get? s.heap.objs.size = some { cls := .type "tuple", data := .seq #[.int i tk, v] } := (sb.2 _ (Nat.ne_of_gt hel)).trans hT
    have new : ObjOk X.prog X.w (upd H s.heap.objs.size (.tup [.int (i : Nat), x])) h'' s.heap.objs.size (.tup [.int (i : Nat), x]) :=
      ⟨by show 2 ≤ sizeLine; decide, [.int i tk, v], .cons ⟨_, rfl⟩ (.cons ru .nil), ⟨_, hT2, rfl, _, rfl⟩⟩
    have I1 : Inv X pins σ (upd H s.heap.objs.size (.tup [.int (i : Nat), x])) { s with heap := h'', toks := tk + 1 } :=
      I.turnedNew (ch := [e, it]) (fun b ob hb q => (sb.2 b (fun z => hb (by simp [z]))).trans (hk b ob (fun z => hb (by simp [z])) (fun z => hb (by simp [z])) q)) hf (Nat.le_refl _) new
    refine ⟨.ref s.heap.objs.size, _, I1, rfl, ⟨_, x, rfl, I.hok.fresh (Nat.le_refl _), rfl, fun ys hy => by rw [I.tuple_inj hy hq]; exact hx⟩, ⟨⟨v, ?_⟩, hit'.1.at fun o q => (sb.2 it (Ne.symm hne)).trans q, hne⟩, fun b hb => ?_⟩
    · have e1 : ((i + 1 : Nat) : Int) = (i : Int) + 1 := by omega
      rw [e1]; exact he'
    · have hb' : b < s.heap.objs.size := by
        have e' : b = e ∨ b = it := by simpa using hb
        rcases e' with z | z
        · rw [z]; exact hel
        · rw [z]; exact hil
      rw [upd_ne (Nat.ne_of_lt hb')]
      exact (hf b hb).1
  done := by
    intro X hP hw hK hc i pins s σ H E I hf st hg
    subst hP hw hK
    obtain ⟨⟨old, he⟩, hit, hne⟩ := st
    obtain ⟨xs, hq, hx⟩ := hg
    obtain ⟨its, rv, p, hz⟩ := I.tuple hq
    obtain ⟨f0, f1, f2, f3, f4, f5⟩ := hf it (by simp)
    have hl := rv.length
    have p : s.heap.IsTuple a its.toArray := p
    have hai : a ≠ it := by
      rintro rfl
      obtain ⟨o1, q1, c1, _⟩ := p
      obtain ⟨o2, q2, c2, _⟩ := hit
      rw [q1] at q2
      cases q2
      rw [c1] at c2
      exact absurd (Value.type.inj c2) (by decide)
    have D := Draws.tuple (prog := X.prog) (w := X.w) (A := X.A.in1) (I.ok.hd hc) it a hai its.toArray
    have en : i = its.toArray.size := by simp; omega
    exact wpAny_pyNext_enum_endD D he (en ▸ ⟨hit, p⟩) fun h' eb => ⟨rfl, I.turned (t' := s.toks) (fun b o hb q => eb b o hb q) f0 f1 f3 f4 f5⟩
  self := fun A i s Q E st h => let ⟨⟨_, he⟩, _⟩ := st; wpAny_pyIter_enum he h

set_option maxHeartbeats 1000000 in
theorem meets_enumerate_new1B {v : Value} {o : Obj} {H : Heap → Prop} (B : Begins v o H) :
    Meets (Builtin.«enumerate.__new__» ⟨[.type "enumerate", v], []⟩) (fun _ R s => H s.heap ∧
      R (.ok (.ret (.ref (s.heap.push o).objs.size))) { s with heap := (s.heap.push o).push { cls := .type "enumerate", data := .fields #[.none, .bool false, .ref s.heap.objs.size, rawInt 0, .none, .none] } }) :=
  .of_wp fun prog w A R s h => by
    obtain ⟨hp, g, d, tk, os⟩ := s; obtain ⟨h1, h⟩ := h
    have hsub := sub_enumerate
    have q1 : ∀ {A' : Around} {E : Value → Shared → Prop} {Q : Value → Shared → Prop}, Q (.ref hp.objs.size) ⟨hp.push o, g, d, tk, os⟩ → wpAny (model prog w) A' (pyIter v) Q E ⟨hp, g, d, tk, os⟩ :=
      fun q => B.iter prog w _ _ ⟨hp, g, d, tk, os⟩ _ h1 q
    wp_walk using q1
    refine wpAny_stack_any fun st => wpAny_pure ?_
    split
    · rename_i c _ _ _ _ _
      cases (c == Value.type "enumerate")
      · wp_walk using q1
        exact ⟨_, rfl, h⟩
      · wp_walk using q1
        exact ⟨_, rfl, h⟩
    · wp_walk using q1
      exact ⟨_, rfl, h⟩
theorem call_enumerate_tup {prog : Program} {w : World} {A : Around} {E : Value → Shared → Prop} {s : Shared} {a : Addr} {items : Array Value} {Q : Value → Shared → Prop} (hT : s.heap.IsTuple a items)
    (h : ∀ h', IsEnum h' (s.heap.objs.size + 1) s.heap.objs.size 0 .none → h'.IsTupleIter s.heap.objs.size a 0 → h'.objs.size = s.heap.objs.size + 2 →
      (∀ b o, s.heap.get? b = some o → h'.get? b = some o) → Q (.ref (s.heap.objs.size + 1)) { s with heap := h' }) :
    wpAny (model prog w) A (call (.type "enumerate") [.ref a]) Q E s := by
  refine callType_new F.called_enumerate (by decide) (F.typeCall_enumerate_1 _) (F.newCall_enumerate_1 _) (fun obj => F.args_object_init_2 obj _) F.entry_enumerate_new
    (meets_enumerate_new1B (begins_tuple a items)) ⟨hT, ?_⟩
  have hz : (s.heap.push { cls := .type "tuple_iterator", data := .fields #[.ref a, .int 0 0] }).objs.size = s.heap.objs.size + 1 := Heap.size_push ..
  show _ ∧ _
  rw [hz]
  have he : IsEnum ((s.heap.push { cls := .type "tuple_iterator", data := .fields #[.ref a, .int 0 0] }).push
      { cls := .type "enumerate", data := .fields #[.none, .bool false, .ref s.heap.objs.size, rawInt 0, .none, .none] }) (s.heap.objs.size + 1) s.heap.objs.size 0 .none := by
    have := Heap.get?_push_size (s.heap.push { cls := .type "tuple_iterator", data := .fields #[.ref a, .int 0 0] })
      (o := { cls := .type "enumerate", data := .fields #[.none, .bool false, .ref s.heap.objs.size, rawInt 0, .none, .none] }) rfl
    rw [hz] at this; exact this
  refine ⟨⟨_, he, rfl⟩, h _ he ⟨_, Heap.get?_push_of_some _ (Heap.get?_push_size _ rfl), rfl, rfl⟩ (by rw [Heap.size_push, hz]) fun b o x => Heap.get?_push_of_some _ (Heap.get?_push_of_some _ x)⟩

/-! ### walks of data -/
/-- J gives the items, one after the other, while st holds of the small heap; μ0, hd0, H0: as the walk began -/
def HidOk (T : Tb) (H0 : Hp) (hi : List Addr) : Prop := ∀ a ∈ hi, a ∈ T.hid ∨ H0 a = none
structure WalkD (T : Tb) (J : It) (items : List D) (st : Hd → Prop) (μ0 : List Addr) (hd0 : Hd) (H0 : Hp) : Prop where
  goes : ∀ i μ hd H hi, HidOk T H0 hi → i < items.length → Stp μ0 hd0 H0 μ hd H → HS (T.hide hi) μ hd H → st hd → J.go i H
  stops : ∀ i μ hd H hi, HidOk T H0 hi → i = items.length → Stp μ0 hd0 H0 μ hd H → HS (T.hide hi) μ hd H → st hd → J.stop i H
  yields : ∀ i d μ hd H x H' hi, HidOk T H0 hi → items[i]? = some d → Stp μ0 hd0 H0 μ hd H → HS (T.hide hi) μ hd H → st hd → J.yld i H x H' → Stp μ hd H μ hd H' ∧ HS (T.hide hi) μ hd H' ∧ R (T.hide hi) μ (Live μ hd) H' d x
def NxI (T : Tb) (μ : List Addr) (hd : Hd) (H : Hp) (R : It → Hp → Prop) : List D → (Hd → Prop) → Hd → Prop := fun items st hd' => ∀ μ' H' J, Stp μ hd H μ' hd' H' → HS T μ' hd' H' → WalkD T J items st μ' hd' H' → R J H'
theorem NxI.stp {T : Tb} {μ μ' : List Addr} {hd hd' hd2 : Hd} {H H' : Hp} {R : It → Hp → Prop} {items : List D} {st : Hd → Prop} (s : Stp μ hd H μ' hd' H') (h : NxI T μ hd H R items st hd2) : NxI T μ' hd' H' R items st hd2 := fun μ2 H2 J s2 hs => h μ2 H2 J (s.trans s2) hs
section
variable (T : Tb) (CL : CLs) (G : Gam) (W : WX)
def tJ (m : ME) : TI := fun σ H R => ∃ hi ρ μ hd, HS (T.hide hi) μ hd H ∧ RL (T.hide hi) CL μ hd H ρ σ ∧ wI G m ρ hd (NxI (T.hide hi) μ hd H R) (Xx (T.hide hi) μ hd H fun c a => W c a σ)
end
theorem PI.wk {X : Cx} {tg e : Expr} {t t' : TI} (h : PI X tg e t) (w : ∀ σ H Q, t' σ H Q → t σ H Q) : PI X tg e t' := ⟨fun pins s σ H Q I q => h.run pins s σ H Q I (w σ H Q q)⟩
section
variable {T : Tb} {μ μ' : List Addr} {hd hd' : Hd} {H H' : Hp} {d : D} {ds items : List D} {st : Hd → Prop}
def isTup : D → Bool
  | .tup _ => true
  | _ => false
/-- the row x is walked: what stays of it -/
theorem row_stays {x : V} (hs : HS T μ hd H) (r : R T μ (Live μ hd) H d x) (e : seqOf hd d = some ds) : ∃ p xs, x = .ref p ∧ Rs T μ (Live μ hd) H ds xs ∧
    ((isTup d = false ∧ SqL T.K H p xs ∧ ∀ μ' hd' H' hi, HidOk T H hi → Stp μ hd H μ' hd' H' → HS (T.hide hi) μ' hd' H' → stays hd [d] hd' → ∃ ys, SqL T.K H' p ys ∧ Rs (T.hide hi) μ' (Live μ' hd') H' ds ys) ∨
     (isTup d = true ∧ SqT T.K H p xs ∧ ∀ μ' hd' H' hi, HidOk T H hi → Stp μ hd H μ' hd' H' → HS (T.hide hi) μ' hd' H' → stays hd [d] hd' → ∃ ys, SqT T.K H' p ys ∧ Rs (T.hide hi) μ' (Live μ' hd') H' ds ys)) := by
  cases d with
  | lst es =>
    obtain ⟨p, xs, ex, h1, n, h2⟩ := r
    have e : some es = some ds := e
    cases e
    exact ⟨p, xs, ex, h2, .inl ⟨rfl, .inl (.inl h1), fun μ' hd' H' hi hh st hs' _ => ⟨xs, .inl (.inl (st.kp p _ h1 n.1 fun _ z => (by cases z))), Rs.stpH hs st hh _ _ h2⟩⟩⟩
  | tup es =>
    obtain ⟨p, xs, ex, h1, h2⟩ := r
    have e : some es = some ds := e
    cases e
    exact ⟨p, xs, ex, h2, .inr ⟨rfl, h1, fun μ' hd' H' hi hh st hs' _ => ⟨xs, SqT.stp hs st h1, Rs.stpH hs st hh _ _ h2⟩⟩⟩
  | ref n =>
    obtain ⟨a, ea, ex⟩ := r
    simp only [seqOf] at e
    cases ho : hd[n]? with
    | none => rw [ho] at e; cases e
    | some o =>
      rw [ho] at e
      have q := hs.obj n o a ho ea
      have go : ∀ {o' : O} {μ' hd' H' hi}, hd[n]? = some o' → Stp μ hd H μ' hd' H' → HS (T.hide hi) μ' hd' H' → stays hd [.ref n] hd' → RO (T.hide hi) μ' (Live μ' hd') H' o' a := fun {o' μ' hd' H' hi} h0 st hs' sy => by
        obtain ⟨t, et⟩ := st.ext
        refine hs'.obj n o' a (sy.1.trans h0) ?_
        rw [et, List.getElem?_append_left (List.getElem?_eq_some_iff.mp ea).1]
        exact ea
      cases o with
      | lst es =>
        have e : some es = some ds := e
        cases e
        obtain ⟨xs, h1, h2⟩ := q
        refine ⟨a, xs, ex, h2, .inl ⟨rfl, .inl (.inl h1), fun μ' hd' H' hi hh st hs' sy => ?_⟩⟩
        obtain ⟨ys, k1, k2⟩ := go ho st hs' sy
        exact ⟨ys, .inl (.inl k1), k2⟩
      | rol es =>
        have e : some es = some ds := e
        cases e
        obtain ⟨xs, h1, h2⟩ := q
        refine ⟨a, xs, ex, h2, .inl ⟨rfl, h1.sql, fun μ' hd' H' hi hh st hs' sy => ?_⟩⟩
        obtain ⟨ys, k1, k2⟩ := go ho st hs' sy
        exact ⟨ys, k1.sql, k2⟩
      | _ => cases e
  | _ => cases e
theorem Rs.at {Lv : Addr → Prop} {i : Nat} {ys : List V} {x : V} (rs : Rs T μ Lv H ds ys) (e : ds[i]? = some d) (h : ys[i]? = some x) : R T μ Lv H d x := by
  obtain ⟨v, e1, r⟩ := Rs.get rs e
  rw [h] at e1
  cases e1
  exact r
theorem get_lt {α : Type} {xs : List α} {i : Nat} (h : i < xs.length) : ∃ x, xs[i]? = some x := ⟨xs[i], List.getElem?_eq_getElem h⟩
theorem walkD_list {p : Addr} (h : ∀ μ' hd' H' hi, HidOk T H hi → Stp μ hd H μ' hd' H' → HS (T.hide hi) μ' hd' H' → st hd' → ∃ ys, SqL T.K H' p ys ∧ Rs (T.hide hi) μ' (Live μ' hd') H' ds ys) : WalkD T (Itl T.K p) ds st μ hd H where
  goes := fun i μ' hd' H' hii hh hi sp hs sy => by
    obtain ⟨ys, k1, k2⟩ := h μ' hd' H' hii hh sp hs sy
    obtain ⟨x, hx⟩ := get_lt (xs := ys) (i := i) (by rw [Rs.length k2]; exact hi)
    exact ⟨ys, x, k1, hx⟩
  stops := fun i μ' hd' H' hii hh hi sp hs sy => by
    obtain ⟨ys, k1, k2⟩ := h μ' hd' H' hii hh sp hs sy
    exact ⟨ys, k1, by rw [Rs.length k2]; omega⟩
  yields := fun i d μ' hd' H' x H2 hii hh hd sp hs sy y => by
    obtain ⟨ys, k1, k2⟩ := h μ' hd' H' hii hh sp hs sy
    obtain ⟨e, y⟩ := y
    subst e
    exact ⟨Stp.refl, hs, Rs.at k2 hd (y ys k1)⟩
theorem walkD_tup {p : Addr} (h : ∀ μ' hd' H' hi, HidOk T H hi → Stp μ hd H μ' hd' H' → HS (T.hide hi) μ' hd' H' → st hd' → ∃ ys, SqT T.K H' p ys ∧ Rs (T.hide hi) μ' (Live μ' hd') H' ds ys) : WalkD T (Itt T.K p) ds st μ hd H where
  goes := fun i μ' hd' H' hii hh hi sp hs sy => by
    obtain ⟨ys, k1, k2⟩ := h μ' hd' H' hii hh sp hs sy
    obtain ⟨x, hx⟩ := get_lt (xs := ys) (i := i) (by rw [Rs.length k2]; exact hi)
    exact ⟨ys, x, k1, hx⟩
  stops := fun i μ' hd' H' hii hh hi sp hs sy => by
    obtain ⟨ys, k1, k2⟩ := h μ' hd' H' hii hh sp hs sy
    exact ⟨ys, k1, by rw [Rs.length k2]; omega⟩
  yields := fun i d μ' hd' H' x H2 hii hh hd sp hs sy y => by
    obtain ⟨ys, k1, k2⟩ := h μ' hd' H' hii hh sp hs sy
    obtain ⟨e, y⟩ := y
    subst e
    exact ⟨Stp.refl, hs, Rs.at k2 hd (y ys k1)⟩
theorem enumD_len : ∀ (ds : List D) (k : Int), (enumD k ds).length = ds.length
  | [], _ => rfl
  | d :: ds, k => by
    show (enumD (k + 1) ds).length + 1 = ds.length + 1
    rw [enumD_len ds]
theorem enumD_at : ∀ (ds : List D) (k : Int) (i : Nat) (e : D), (enumD k ds)[i]? = some e → ∃ d, ds[i]? = some d ∧ e = .tup [.int (k + i), d]
  | [], _, _, _, h => by cases h
  | d :: ds, k, 0, e, h => by
    have h : some (D.tup [.int k, d]) = some e := h
    cases h
    exact ⟨d, rfl, by simp⟩
  | d :: ds, k, i + 1, e, h => by
    obtain ⟨d', h1, h2⟩ := enumD_at ds (k + 1) i e h
    refine ⟨d', h1, ?_⟩
    rw [h2]
    have : k + 1 + (i : Int) = k + ((i + 1 : Nat) : Int) := by omega
    rw [this]
theorem pair_new {T2 : Addr} {a b : V} {da db : D} (hs : HS T μ hd H) (hn : H T2 = none) (ra : R T μ (Live μ hd) H da a) (rb : R T μ (Live μ hd) H db b) :
    Stp μ hd H μ hd (upd H T2 (.tup [a, b])) ∧ HS T μ hd (upd H T2 (.tup [a, b])) ∧ R T μ (Live μ hd) (upd H T2 (.tup [a, b])) (.tup [da, db]) (.ref T2) := by
  have sp : Stp μ hd H μ hd (upd H T2 (.tup [a, b])) := Stp.new hn
  exact ⟨sp, hs.new hn, T2, [a, b], rfl, .inl (.inl upd_same), a, [b], rfl, R.stp hs sp _ _ ra, b, [], rfl, R.stp hs sp _ _ rb, rfl⟩
theorem walkD_enum {p : Addr} (h : ∀ μ' hd' H' hi, HidOk T H hi → Stp μ hd H μ' hd' H' → HS (T.hide hi) μ' hd' H' → st hd' → ∃ ys, SqL T.K H' p ys ∧ Rs (T.hide hi) μ' (Live μ' hd') H' ds ys) : WalkD T (Ite T.K p) (enumD 0 ds) st μ hd H where
  goes := fun i μ' hd' H' hii hh hi sp hs sy => by
    obtain ⟨ys, k1, k2⟩ := h μ' hd' H' hii hh sp hs sy
    rw [enumD_len] at hi
    obtain ⟨x, hx⟩ := get_lt (xs := ys) (i := i) (by rw [Rs.length k2]; exact hi)
    exact ⟨ys, x, k1, hx⟩
  stops := fun i μ' hd' H' hii hh hi sp hs sy => by
    obtain ⟨ys, k1, k2⟩ := h μ' hd' H' hii hh sp hs sy
    rw [enumD_len] at hi
    exact ⟨ys, k1, by rw [Rs.length k2]; omega⟩
  yields := fun i d μ' hd' H' x H2 hii hh hd sp hs sy y => by
    obtain ⟨ys, k1, k2⟩ := h μ' hd' H' hii hh sp hs sy
    obtain ⟨T2, z, rfl, hn, rfl, y⟩ := y
    obtain ⟨d', e1, rfl⟩ := enumD_at ds 0 i d hd
    have e0 : (0 : Int) + (i : Int) = ((i : Nat) : Int) := by omega
    rw [e0]
    exact pair_new hs hn rfl (Rs.at k2 e1 (y ys k1))
theorem walkD_enumT {p : Addr} (h : ∀ μ' hd' H' hi, HidOk T H hi → Stp μ hd H μ' hd' H' → HS (T.hide hi) μ' hd' H' → st hd' → ∃ ys, SqT T.K H' p ys ∧ Rs (T.hide hi) μ' (Live μ' hd') H' ds ys) : WalkD T (Itet T.K p) (enumD 0 ds) st μ hd H where
  goes := fun i μ' hd' H' hii hh hi sp hs sy => by
    obtain ⟨ys, k1, k2⟩ := h μ' hd' H' hii hh sp hs sy
    rw [enumD_len] at hi
    obtain ⟨x, hx⟩ := get_lt (xs := ys) (i := i) (by rw [Rs.length k2]; exact hi)
    exact ⟨ys, x, k1, hx⟩
  stops := fun i μ' hd' H' hii hh hi sp hs sy => by
    obtain ⟨ys, k1, k2⟩ := h μ' hd' H' hii hh sp hs sy
    rw [enumD_len] at hi
    exact ⟨ys, k1, by rw [Rs.length k2]; omega⟩
  yields := fun i d μ' hd' H' x H2 hii hh hd sp hs sy y => by
    obtain ⟨ys, k1, k2⟩ := h μ' hd' H' hii hh sp hs sy
    obtain ⟨T2, z, rfl, hn, rfl, y⟩ := y
    obtain ⟨d', e1, rfl⟩ := enumD_at ds 0 i d hd
    have e0 : (0 : Int) + (i : Int) = ((i : Nat) : Int) := by omega
    rw [e0]
    exact pair_new hs hn rfl (Rs.at k2 e1 (y ys k1))
theorem walkD_str {s : List Nat} : WalkD T (Its ⟨s.toArray⟩) (s.map fun c => .str [c]) st μ hd H where
  goes := fun i μ' hd' H' hii hh hi sp hs sy => by
    show i < s.toArray.size
    simpa using hi
  stops := fun i μ' hd' H' hii hh hi sp hs sy => by
    show s.toArray.size ≤ i
    rw [hi]
    simp
  yields := fun i d μ' hd' H' x H2 hii hh hd sp hs sy y => by
    obtain ⟨rfl, c, hc, rfl⟩ := y
    refine ⟨Stp.refl, hs, ?_⟩
    have hc : s[i]? = some c := by simpa using hc
    rw [List.getElem?_map, hc] at hd
    cases hd
    rfl
theorem walkD_enumS {s : List Nat} : WalkD T (Ites ⟨s.toArray⟩) (enumD 0 (s.map fun c => .str [c])) st μ hd H where
  goes := fun i μ' hd' H' hii hh hi sp hs sy => by
    show i < s.toArray.size
    rw [enumD_len] at hi
    simpa using hi
  stops := fun i μ' hd' H' hii hh hi sp hs sy => by
    show i = s.toArray.size
    rw [hi, enumD_len]
    simp
  yields := fun i d μ' hd' H' x H2 hii hh hd sp hs sy y => by
    obtain ⟨T2, c, rfl, hn, rfl, hc⟩ := y
    have hc : s[i]? = some c := by simpa using hc
    obtain ⟨d', e1, rfl⟩ := enumD_at _ 0 i d hd
    rw [List.getElem?_map, hc] at e1
    cases e1
    have e0 : (0 : Int) + (i : Int) = ((i : Nat) : Int) := by omega
    rw [e0]
    exact pair_new hs hn rfl rfl
theorem rangeD_len : ∀ (n : Nat) (lo : Int), (rangeD lo n).length = n
  | 0, _ => rfl
  | n + 1, lo => by
    show (rangeD (lo + 1) n).length + 1 = n + 1
    rw [rangeD_len n]
theorem rangeD_at : ∀ (n : Nat) (lo : Int) (i : Nat) (e : D), (rangeD lo n)[i]? = some e → e = .int (lo + i)
  | 0, _, _, _, h => by cases h
  | n + 1, lo, 0, e, h => by
    have h : some (D.int lo) = some e := h
    cases h
    simp
  | n + 1, lo, i + 1, e, h => by
    rw [rangeD_at n (lo + 1) i e h]
    have : lo + 1 + (i : Int) = lo + ((i + 1 : Nat) : Int) := by omega
    rw [this]
theorem walkD_range {lo : Int} {n : Nat} : WalkD T (Itr lo n) (rangeD lo n) st μ hd H where
  goes := fun i μ' hd' H' hii hh hi sp hs sy => by
    show i < n
    rw [rangeD_len] at hi
    exact hi
  stops := fun i μ' hd' H' hii hh hi sp hs sy => by
    show n ≤ i
    rw [hi, rangeD_len]
    exact Nat.le_refl _
  yields := fun i d μ' hd' H' x H2 hii hh hd sp hs sy y => by
    obtain ⟨rfl, rfl⟩ := y
    rw [rangeD_at n lo i d hd]
    exact ⟨Stp.refl, hs, rfl⟩
theorem zipD_at : ∀ (ds es : List D) (i : Nat) (e : D), (zipD ds es)[i]? = some e → ∃ d f, ds[i]? = some d ∧ es[i]? = some f ∧ e = .tup [d, f]
  | [], _, _, _, h => by cases h
  | _ :: _, [], _, _, h => by cases h
  | d :: ds, f :: es, 0, e, h => by
    have h : some (D.tup [d, f]) = some e := h
    cases h
    exact ⟨d, f, rfl, rfl, rfl⟩
  | d :: ds, f :: es, i + 1, e, h => zipD_at ds es i e h
theorem zipD_len : ∀ (ds es : List D), (zipD ds es).length = min ds.length es.length
  | [], _ => by simp [zipD]
  | _ :: _, [] => by simp [zipD]
  | d :: ds, f :: es => by
    show (zipD ds es).length + 1 = min (ds.length + 1) (es.length + 1)
    rw [zipD_len ds es]
    omega
theorem walkD_zip {p q : Addr} {es : List D} (h : ∀ μ' hd' H' hi, HidOk T H hi → Stp μ hd H μ' hd' H' → HS (T.hide hi) μ' hd' H' → st hd' → ∃ ys, SqL T.K H' p ys ∧ Rs (T.hide hi) μ' (Live μ' hd') H' ds ys)
    (h2 : ∀ μ' hd' H' hi, HidOk T H hi → Stp μ hd H μ' hd' H' → HS (T.hide hi) μ' hd' H' → st hd' → ∃ ys, SqL T.K H' q ys ∧ Rs (T.hide hi) μ' (Live μ' hd') H' es ys) : WalkD T (Itz T.K p q) (zipD ds es) st μ hd H where
  goes := fun i μ' hd' H' hii hh hi sp hs sy => by
    obtain ⟨ys, k1, k2⟩ := h μ' hd' H' hii hh sp hs sy
    obtain ⟨zs, l1, l2⟩ := h2 μ' hd' H' hii hh sp hs sy
    rw [zipD_len] at hi
    obtain ⟨x, hx⟩ := get_lt (xs := ys) (i := i) (by rw [Rs.length k2]; omega)
    obtain ⟨y, hy⟩ := get_lt (xs := zs) (i := i) (by rw [Rs.length l2]; omega)
    exact ⟨ys, zs, x, y, k1, l1, hx, hy⟩
  stops := fun i μ' hd' H' hii hh hi sp hs sy => by
    obtain ⟨ys, k1, k2⟩ := h μ' hd' H' hii hh sp hs sy
    obtain ⟨zs, l1, l2⟩ := h2 μ' hd' H' hii hh sp hs sy
    rw [zipD_len] at hi
    have := Rs.length k2
    have := Rs.length l2
    exact ⟨ys, zs, k1, l1, by omega⟩
  yields := fun i d μ' hd' H' x H2 hii hh hd sp hs sy y => by
    obtain ⟨ys, k1, k2⟩ := h μ' hd' H' hii hh sp hs sy
    obtain ⟨zs, l1, l2⟩ := h2 μ' hd' H' hii hh sp hs sy
    obtain ⟨T2, a, b, rfl, hn, rfl, y1, y2⟩ := y
    obtain ⟨d', f, e1, e2, rfl⟩ := zipD_at ds es i d hd
    exact pair_new hs hn (Rs.at k2 e1 (y1 ys k1)) (Rs.at l2 e2 (y2 zs l1))
theorem walkD_zipT {p q : Addr} {es : List D} (h : ∀ μ' hd' H' hi, HidOk T H hi → Stp μ hd H μ' hd' H' → HS (T.hide hi) μ' hd' H' → st hd' → ∃ ys, SqT T.K H' p ys ∧ Rs (T.hide hi) μ' (Live μ' hd') H' ds ys)
    (h2 : ∀ μ' hd' H' hi, HidOk T H hi → Stp μ hd H μ' hd' H' → HS (T.hide hi) μ' hd' H' → st hd' → ∃ ys, SqT T.K H' q ys ∧ Rs (T.hide hi) μ' (Live μ' hd') H' es ys) : WalkD T (RZ.ItzT T.K p q) (zipD ds es) st μ hd H where
  goes := fun i μ' hd' H' hii hh hi sp hs sy => by
    obtain ⟨ys, k1, k2⟩ := h μ' hd' H' hii hh sp hs sy
    obtain ⟨zs, l1, l2⟩ := h2 μ' hd' H' hii hh sp hs sy
    rw [zipD_len] at hi
    obtain ⟨x, hx⟩ := get_lt (xs := ys) (i := i) (by rw [Rs.length k2]; omega)
    obtain ⟨y, hy⟩ := get_lt (xs := zs) (i := i) (by rw [Rs.length l2]; omega)
    exact ⟨ys, zs, x, y, k1, l1, hx, hy⟩
  stops := fun i μ' hd' H' hii hh hi sp hs sy => by
    obtain ⟨ys, k1, k2⟩ := h μ' hd' H' hii hh sp hs sy
    obtain ⟨zs, l1, l2⟩ := h2 μ' hd' H' hii hh sp hs sy
    rw [zipD_len] at hi
    have := Rs.length k2
    have := Rs.length l2
    exact ⟨ys, zs, k1, l1, by omega⟩
  yields := fun i d μ' hd' H' x H2 hii hh hd sp hs sy y => by
    obtain ⟨ys, k1, k2⟩ := h μ' hd' H' hii hh sp hs sy
    obtain ⟨zs, l1, l2⟩ := h2 μ' hd' H' hii hh sp hs sy
    obtain ⟨T2, a, b, rfl, hn, rfl, y1, y2⟩ := y
    obtain ⟨d', f, e1, e2, rfl⟩ := zipD_at ds es i d hd
    exact pair_new hs hn (Rs.at k2 e1 (y1 ys k1)) (Rs.at l2 e2 (y2 zs l1))
end
end Mi
set_option linter.all false
set_option maxRecDepth 100000
set_option maxHeartbeats 1000000
/-! Mi: patterns, what is walked, comprehensions. -/
namespace Mi
open PySem L2 PySem.Spec PyProof.Rows

/-! ### slots forgotten -/
theorem wipe_get (σ : L2.St) : ∀ (vs : List Nat) (i : Nat), (wipe σ vs)[i]? = if i ∈ vs ∧ i < σ.length then some none else σ[i]?
  | [], i => by simp [wipe]
  | v :: vs, i => by
    unfold wipe
    rw [List.getElem?_set, wipe_get σ vs i, L2.wipe_length]
    by_cases h : v = i
    · subst h
      by_cases hl : v < σ.length
      · simp [hl]
      · simp [hl, List.getElem?_eq_none (Nat.le_of_not_lt hl)]
    · simp [h, Ne.symm h, List.mem_cons]
theorem wipeL_get (ρ : Mi.Loc) : ∀ (vs : List Nat) (i : Nat), (wipeL ρ vs)[i]? = if i ∈ vs ∧ i < ρ.length then some none else ρ[i]?
  | [], i => by simp [wipeL]
  | v :: vs, i => by
    have hlen : ∀ (ws : List Nat), (wipeL ρ ws).length = ρ.length := fun ws => by
      induction ws with
      | nil => rfl
      | cons w ws ih => unfold wipeL; rw [List.length_set, ih]
    unfold wipeL
    rw [List.getElem?_set, wipeL_get ρ vs i, hlen]
    by_cases h : v = i
    · subst h
      by_cases hl : v < ρ.length
      · simp [hl]
      · simp [hl, List.getElem?_eq_none (Nat.le_of_not_lt hl)]
    · simp [h, Ne.symm h, List.mem_cons]
theorem wipeL_length (ρ : Mi.Loc) (vs : List Nat) : (wipeL ρ vs).length = ρ.length := by
  induction vs with
  | nil => rfl
  | cons w ws ih => unfold wipeL; rw [List.length_set, ih]
theorem wipe_wipe (σ : L2.St) (vs : List Nat) : wipe (wipe σ vs) vs = wipe σ vs := List.ext_getElem? fun i => by
  rw [wipe_get, wipe_get, L2.wipe_length]
  split
  · rfl
  · rfl
theorem wipe_set {σ : L2.St} {vs : List Nat} {i : Nat} {o : Option V} (h : i ∈ vs) : wipe (σ.set i o) vs = wipe σ vs := List.ext_getElem? fun j => by
  rw [wipe_get, wipe_get, List.length_set]
  by_cases hj : j ∈ vs ∧ j < σ.length
  · rw [if_pos hj, if_pos hj]
  · rw [if_neg hj, if_neg hj]
    by_cases e : i = j
    · subst e
      have : σ.length ≤ i := Nat.le_of_not_lt fun z => hj ⟨h, z⟩
      rw [List.getElem?_eq_none (by rw [List.length_set]; exact this), List.getElem?_eq_none this]
    · rw [List.getElem?_set_ne e]
theorem noClo_get (ρ : Mi.Loc) (i : Nat) (d : D) (h : (noClo ρ)[i]? = some (some d)) : ρ[i]? = some (some d) ∧ isClo d = false := by
  unfold noClo at h
  rw [List.getElem?_map] at h
  cases e : ρ[i]? with
  | none => rw [e] at h; cases h
  | some o =>
    rw [e] at h
    cases o with
    | none => cases h
    | some c =>
      simp only [Option.map_some, Option.some.injEq] at h
      split at h
      · cases h
      · rename_i hn
        cases h
        exact ⟨rfl, by simpa using hn⟩
abbrev CL0 : CLs := ⟨fun _ => none, fun _ => none⟩
theorem RL.noClo {T : Tb} {CL CL' : CLs} {μ : List Addr} {hd : Hd} {H : Hp} {ρ : Mi.Loc} {σ : L2.St} (rl : RL T CL μ hd H ρ σ) : RL T CL' μ hd H (noClo ρ) σ := ⟨by unfold Mi.noClo; rw [List.length_map]; exact rl.len, fun i d h => by
  obtain ⟨h1, h2⟩ := noClo_get ρ i d h
  obtain ⟨v, e, r⟩ := rl.val i d h1
  exact ⟨v, e, RA.of (r.nc h2)⟩⟩
theorem RL.wipe {T : Tb} {CL : CLs} {μ : List Addr} {hd : Hd} {H : Hp} {ρ : Mi.Loc} {σ : L2.St} (rl : RL T CL μ hd H ρ σ) (vs : List Nat) : RL T CL μ hd H (wipeL ρ vs) (wipe σ vs) := ⟨by rw [wipeL_length, L2.wipe_length]; exact rl.len, fun i d h => by
  rw [wipeL_get] at h
  split at h
  · cases h
  · rename_i hn
    obtain ⟨v, e, r⟩ := rl.val i d h
    refine ⟨v, ?_, r⟩
    rw [wipe_get, if_neg (by rw [← rl.len]; exact hn)]
    exact e⟩

/-! ### patterns -/
def patIx : Pat → List Nat
  | .nm i => [i]
  | .tp ps => patIx ps
  | .nl => []
  | .cn p r => patIx p ++ patIx r
theorem PG.wk {X : Cx} {e : Expr} {t t' : TG} (h : PG X e t) (w : ∀ v σ H Q, t' v σ H Q → t v σ H Q) : PG X e t' := ⟨fun pins s σ H v u Q I r q => h.run pins s σ H v u Q I r (w v σ H Q q)⟩
theorem PGs.wk {X : Cx} {e : List Expr} {t t' : TGs} (h : PGs X e t) (w : ∀ v σ H Q, t' v σ H Q → t v σ H Q) : PGs X e t' := ⟨fun pins s σ H v u Q I r q => h.run pins s σ H v u Q I r (w v σ H Q q)⟩
def After (T : Tb) (CL : CLs) (p : Pat) (μ : List Addr) (hd : Hd) (H : Hp) (σ : L2.St) (Q : L2.St → Hp → Prop) (ρ' : Mi.Loc) : Prop := ∀ σ', (∀ vs, (∀ i ∈ patIx p, i ∈ vs) → wipe σ' vs = wipe σ vs) → RL T CL μ hd H ρ' σ' → Q σ' H
def gP (T : Tb) (CL : CLs) (p : Pat) : TG := fun v σ H Q => ∃ hi ρ μ hd d, HS (T.hide hi) μ hd H ∧ RL (T.hide hi) CL μ hd H ρ σ ∧ R (T.hide hi) μ (Live μ hd) H d v ∧ opt (bindP p d ρ) (After (T.hide hi) CL p μ hd H σ Q)
def gPs (T : Tb) (CL : CLs) (p : Pat) : TGs := fun vs σ H Q => ∃ hi ρ μ hd ds, HS (T.hide hi) μ hd H ∧ RL (T.hide hi) CL μ hd H ρ σ ∧ Rs (T.hide hi) μ (Live μ hd) H ds vs ∧ opt (bindPs p ds ρ) (After (T.hide hi) CL p μ hd H σ Q)
theorem assignEach_map {env : Env} : ∀ {es : List Expr}, noStar es = true → assignEach es env = es.map fun e => (false, assign e env)
  | [], _ => rfl
  | a :: es, h => by
    cases a <;> first
      | (cases h; done)
      | (show _ = (false, assign _ env) :: _
         rw [← assignEach_map (env := env) (es := es) h]
         rfl)
theorem noStar_tail {a : Expr} {es : List Expr} (h : noStar (a :: es) = true) : noStar es = true := by
  cases a <;> first | exact h | cases h
section
variable {X : Cx} {T : Tb} {CL : CLs} {p r : Pat} {e : Expr} {es : List Expr} {pos : Pos}
theorem rg_nm {i : Nat} {x : Str} (hN : X.N.Nodup) (hi : X.N[i]? = some x) (hx : L2.Loc X.env.scope x) (hf : X.fn x = true ∨ X.env.scope.names.lookup x = some .local) : PG X (.Name x pos) (gP T CL (.nm i)) :=
  PG.wk (pg_name hN hi hx hf) fun v σ H Q ⟨hi, ρ, μ, hd, d, hs, rl, r, w⟩ => by
    obtain ⟨ρ', e, k⟩ := opt_get w
    simp only [bindP] at e
    split at e
    · cases e
      exact k _ (fun vs hv => wipe_set (hv i (by simp [patIx]))) (rl.set (RA.of r))
    · cases e
theorem rg_nil : PGs X [] (gPs T CL .nl) :=
  PGs.wk pgs_nil fun vs σ H Q ⟨hi, ρ, μ, hd, ds, hs, rl, r, w⟩ => by
    cases ds with
    | nil => exact ⟨r, w σ (fun _ _ => rfl) rl⟩
    | cons d ds => exact w.elim
theorem rg_cons (h1 : PG X e (gP T CL p)) (h2 : PGs X es (gPs T CL r)) (hn : noStar (e :: es) = true) : PGs X (e :: es) (gPs T CL (.cn p r)) :=
  PGs.wk (pgs_cons h1 h2 (by rw [assignEach_map hn, assignEach_map (noStar_tail hn)]; rfl)) fun vs σ H Q ⟨hi, ρ, μ, hd, ds, hs, rl, rr, w⟩ => by
    cases ds with
    | nil => exact (show False from w).elim
    | cons d ds =>
      obtain ⟨x, xs, rfl, r1, r2⟩ := rr
      obtain ⟨ρ2, e2, k⟩ := opt_get w
      simp only [bindPs] at e2
      split at e2
      · rename_i ρ1 e1
        refine ⟨x, xs, rfl, hi, ρ, μ, hd, d, hs, rl, r1, ?_⟩
        rw [e1]
        exact fun σ1 hw1 rl1 => ⟨hi, ρ1, μ, hd, ds, hs, rl1, r2, by
          rw [e2]
          exact fun σ2 hw2 rl2 => k σ2 (fun vs hv => (hw2 vs fun i hi => hv i (by simp [patIx, hi])).trans (hw1 vs fun i hi => hv i (by simp [patIx, hi]))) rl2⟩
      · cases e2
theorem bindPs_len : ∀ {p : Pat} {ds : List D} {ρ ρ' : Mi.Loc} {n : Nat}, bindPs p ds ρ = some ρ' → (∀ (q : Pat) (m : Nat), True) → True := fun _ _ => True.intro
def patLen : Pat → Nat
  | .cn _ r => patLen r + 1
  | _ => 0
theorem bindPs_length : ∀ (p : Pat) (ds : List D) (ρ ρ' : Mi.Loc), bindPs p ds ρ = some ρ' → ds.length = patLen p
  | .nl, [], _, _, _ => rfl
  | .nl, _ :: _, _, _, h => by cases h
  | .nm _, _, _, _, h => by simp [bindPs] at h
  | .tp _, _, _, _, h => by simp [bindPs] at h
  | .cn _ _, [], _, _, h => by simp [bindPs] at h
  | .cn p r, d :: ds, ρ, ρ', h => by
    simp only [bindPs] at h
    split at h
    · show ds.length + 1 = patLen r + 1
      rw [bindPs_length r ds _ _ h]
    · cases h
theorem PG.or {e : Expr} {t1 t2 : TG} (h1 : PG X e t1) (h2 : PG X e t2) : PG X e (fun v σ H Q => t1 v σ H Q ∨ t2 v σ H Q) :=
  ⟨fun pins s σ H v u Q I r hw => hw.elim (h1.run pins s σ H v u Q I r) (h2.run pins s σ H v u Q I r)⟩
theorem rg_tp {k : Nat} (hK : X.K = T.K) (hc : X.calm = true) (h : PGs X es (gPs T CL p)) (hn : noStar es = true) (hl : es.length = patLen p) : PG X (.Tuple es k pos) (gP T CL (.tp p)) := by
  have a1 : (assignEach es X.env).length = es.length := by rw [assignEach_map hn, List.length_map]
  have a2 : (assignEach es X.env).findIdx? (·.1) = none := by
    rw [assignEach_map hn]
    exact List.findIdx?_eq_none_iff.mpr fun x hx => by
      obtain ⟨y, _, rfl⟩ := List.mem_map.mp hx
      rfl
  refine PG.wk (PG.or (pg_tup (n := es.length) hc h a1 a2) (pg_lst (n := es.length) hc h a1 a2)) fun v σ H Q ⟨hi, ρ, μ, hd, d, hs, rl, r, w⟩ => ?_
  cases d <;> first | exact (show False from w).elim | skip
  · obtain ⟨a, xs, rfl, h1, h2⟩ := r
    obtain ⟨ρ', e, k⟩ := opt_get w
    simp only [bindP] at e
    refine .inl ⟨a, xs, rfl, hK ▸ h1, ?_, hi, ρ, μ, hd, _, hs, rl, h2, ?_⟩
    · rw [Rs.length h2, bindPs_length _ _ _ _ e, hl]
    · rw [e]
      exact k
  · obtain ⟨a, xs, rfl, h1, _, h2⟩ := r
    obtain ⟨ρ', e, k⟩ := opt_get w
    simp only [bindP] at e
    refine .inr ⟨a, xs, rfl, .inl (.inl h1), ?_, hi, ρ, μ, hd, _, hs, rl, h2, ?_⟩
    · rw [Rs.length h2, bindPs_length _ _ _ _ e, hl]
    · rw [e]
      exact k
end

/-! ### what is walked -/
section
variable {X : Cx} {T : Tb} {CL : CLs} {G : Gam} {W : WX} {m : ME} {tg a b : Expr} {pos : Pos} {es : List Expr}
def iAny (K : PySem.W.Frag) (tl : TE) : TI := fun σ H R => tl σ H fun x H1 => (∃ a, x = .ref a ∧ (∃ xs, SqL K H1 a xs) ∧ R (Itl K a) H1) ∨ (∃ a, x = .ref a ∧ (∃ xs, SqT K H1 a xs) ∧ R (Itt K a) H1) ∨ ∃ x', x = .str x' ∧ R (Its x') H1
/-- any row -/
theorem pi_any {l : Expr} {tl : TE} (hl : PE X l tl) : PI X tg l (iAny X.K tl) := by
  refine ⟨fun pins s σ H R I h => ?_⟩
  refine thn (hl.run pins s σ H _ I h) fun v s1 ⟨x, H1, I1, r1, q1⟩ => ?_
  rcases q1 with ⟨a, e, ⟨xs, hq⟩, q⟩ | ⟨a, e, ⟨xs, hq⟩, q⟩ | ⟨x', ex, q⟩
  · subst e
    cases r1
    obtain ⟨its, rv, p, hz⟩ := I1.list hq
    refine wpAny_pyIter_list p.isList ?_
    refine ⟨s1.heap.objs.size, [s1.heap.objs.size], _, _, H1, rfl, I1.kept (t' := s1.toks) fun b o e => Heap.get?_push_of_some _ e, turn_list a _, ⟨_, Heap.get?_push_size _ rfl, rfl, rfl⟩, fun b hb => ?_, q⟩
    have e : b = s1.heap.objs.size := by simpa using hb
    subst e
    exact I1.fpOk (Nat.le_refl _) (I1.hok.fresh (Nat.le_refl _))
  · subst e
    cases r1
    obtain ⟨its, rv, p, hz⟩ := I1.tuple hq
    refine wpAny_pyIter_tuple p ?_
    refine ⟨s1.heap.objs.size, [s1.heap.objs.size], _, _, H1, rfl, I1.kept (t' := s1.toks) fun b o e => Heap.get?_push_of_some _ e, turn_tuple a _, ⟨_, Heap.get?_push_size _ rfl, rfl, rfl⟩, fun b hb => ?_, q⟩
    have e : b = s1.heap.objs.size := by simpa using hb
    subst e
    exact I1.fpOk (Nat.le_refl _) (I1.hok.fresh (Nat.le_refl _))
  · subst ex
    obtain ⟨t, rfl⟩ := r1
    cases ha : x'.cps.all (· < 128)
    · exact wpAny_pyIter_wide ha (pi_one (tk := s1.toks) I1 _ (turn_str _ x' t "str_iterator" (.inr rfl)) ⟨_, Heap.get?_push_size _ rfl, rfl, rfl⟩ q)
    · exact wpAny_pyIter_ascii ha (pi_one (tk := s1.toks) I1 _ (turn_str _ x' t "str_ascii_iterator" (.inl rfl)) ⟨_, Heap.get?_push_size _ rfl, rfl, rfl⟩ q)
def iEnumA (K : PySem.W.Frag) (ta : TA) : TI := fun σ H R => ta σ H fun vs H1 => (∃ a xs, vs = [.ref a] ∧ SqL K H1 a xs ∧ R (Ite K a) H1) ∨ (∃ a xs, vs = [.ref a] ∧ SqT K H1 a xs ∧ R (Itet K a) H1) ∨ ∃ x, vs = [.str x] ∧ R (Ites x) H1
theorem pi_enumAny {e : Expr} {ta : TA} {p tpos : Pos} {elts : List Expr} {kk : Nat} (hg : Gl X "enumerate") (hm : X.mg "enumerate" = none) (ha : PA X [e] ta) (hs : starEach [e] X.env = [(false, eval e X.env)]) :
    PI X (.Tuple elts kk tpos) (.Call (.Name "enumerate" p) [e] [] pos) (iEnumA X.K ta) := by
  refine ⟨fun pins s σ H R I h => ?_⟩
  refine Call_ (ld_blt I hg hm boot_enumerate (PyProof.Rows.callWith_type1 (thn (ha.run pos pins s σ H _ I h) fun us s1 ⟨vs, H1, I1, r1, q1⟩ => ?_) hs rfl))
  rcases q1 with ⟨a, xs, ex, hq, q⟩ | ⟨a, xs, ex, hq, q⟩ | ⟨x, ex, q⟩
  · subst ex
    obtain ⟨u, rfl, r⟩ := vals1 r1
    cases r
    obtain ⟨its, rv, p', hz⟩ := I1.list hq
    refine call_enumerate_list p'.isList fun h' he hit hsz hk => wpAny_pyIter_enum he ?_
    have I2 : Inv X pins σ H1 { s1 with heap := h' } := I1.kept (t' := s1.toks) hk
    refine ⟨s1.heap.objs.size + 1, [s1.heap.objs.size + 1, s1.heap.objs.size], _, _, H1, rfl, I2, turn_enum a (s1.heap.objs.size + 1) s1.heap.objs.size, ⟨⟨.none, he⟩, hit, Nat.succ_ne_self _⟩, fun b hb => ?_, q⟩
    have e' : b = s1.heap.objs.size + 1 ∨ b = s1.heap.objs.size := by simpa using hb
    have hle : s1.heap.objs.size ≤ b := by
      rcases e' with z | z
      · rw [z]; exact Nat.le_add_right _ _
      · rw [z]; exact Nat.le_refl _
    exact I1.fpOk hle (I1.hok.fresh hle)
  · subst ex
    obtain ⟨u, rfl, r⟩ := vals1 r1
    cases r
    obtain ⟨its, rv, p', hz⟩ := I1.tuple hq
    refine call_enumerate_tup (show s1.heap.IsTuple a its.toArray from p') fun h' he hit hsz hk => wpAny_pyIter_enum he ?_
    have I2 : Inv X pins σ H1 { s1 with heap := h' } := I1.kept (t' := s1.toks) hk
    refine ⟨s1.heap.objs.size + 1, [s1.heap.objs.size + 1, s1.heap.objs.size], _, _, H1, rfl, I2, turn_enumT a (s1.heap.objs.size + 1) s1.heap.objs.size, ⟨⟨.none, he⟩, hit, Nat.succ_ne_self _⟩, fun b hb => ?_, q⟩
    have e' : b = s1.heap.objs.size + 1 ∨ b = s1.heap.objs.size := by simpa using hb
    have hle : s1.heap.objs.size ≤ b := by
      rcases e' with z | z
      · rw [z]; exact Nat.le_add_right _ _
      · rw [z]; exact Nat.le_refl _
    exact I1.fpOk hle (I1.hok.fresh hle)
  · subst ex
    obtain ⟨u, rfl, t, rfl⟩ := vals1 r1
    refine call_enumerate_str fun h' he hit hsz hk => wpAny_pyIter_enum he ?_
    have I2 : Inv X pins σ H1 { s1 with heap := h' } := I1.kept (t' := s1.toks) hk
    have hty : strIterType x = "str_ascii_iterator" ∨ strIterType x = "str_iterator" := by
      unfold strIterType
      split
      · exact .inl rfl
      · exact .inr rfl
    refine ⟨s1.heap.objs.size + 1, [s1.heap.objs.size + 1, s1.heap.objs.size], _, _, H1, rfl, I2, turn_enumS x t (s1.heap.objs.size + 1) s1.heap.objs.size _ hty, ⟨⟨.none, he⟩, hit, Nat.succ_ne_self _⟩, fun b hb => ?_, q⟩
    have e' : b = s1.heap.objs.size + 1 ∨ b = s1.heap.objs.size := by simpa using hb
    have hle : s1.heap.objs.size ≤ b := by
      rcases e' with z | z
      · rw [z]; exact Nat.le_add_right _ _
      · rw [z]; exact Nat.le_refl _
    exact I1.fpOk hle (I1.hok.fresh hle)
theorem wL_one {G : Gam} {m : ME} {ρ : Mi.Loc} {h : Hd} {Q : List D → Hd → Prop} {X : KX} (w : wEs G (.cn m .nl) ρ h Q X) : wE G m ρ h (fun x h => Q [x] h) X := w
theorem wI_it {G : Gam} {k : Itk} {m : ME} {ρ : Mi.Loc} {h : Hd} {Q : List D → (Hd → Prop) → Hd → Prop} {X : KX} (w : wI G (.it1 k m) ρ h Q X) : wEs G m ρ h (fun ds h => opt (walkD h k ds) fun items => Q items (stays h ds) h) X := w
variable (hG : GMono G)
include hG
theorem rj_val (hK : X.K = T.K) (ha : PE X a (tI T CL G W m)) : PI X tg a (tJ T CL G W (.it1 .val (.cn m .nl))) :=
  PI.wk (pi_any ha) fun σ H R ⟨hi, ρ, μ, hd, hs, rl, w⟩ => tI.mk hG hs rl (wL_one (wI_it w)) id_X fun μ1 hd1 H1 d x st hs1 r1 rl1 q => by
    obtain ⟨items, e, q⟩ := opt_get q
    have row : ∀ {ds : List D}, seqOf hd1 d = some ds → items = ds → (∃ a, x = .ref a ∧ (∃ xs, SqL X.K H1 a xs) ∧ R (Itl X.K a) H1) ∨ (∃ a, x = .ref a ∧ (∃ xs, SqT X.K H1 a xs) ∧ R (Itt X.K a) H1) ∨ ∃ x', x = .str x' ∧ R (Its x') H1 := fun {ds} h hi => by
      subst hi
      obtain ⟨p, xs, rfl, rs, k⟩ := row_stays hs1 r1 h
      rw [hK]
      rcases k with ⟨_, k1, k2⟩ | ⟨_, k1, k2⟩
      · exact .inl ⟨p, rfl, ⟨xs, k1⟩, q μ1 H1 _ st hs1 (walkD_list (T := T.hide _) k2)⟩
      · exact .inr (.inl ⟨p, rfl, ⟨xs, k1⟩, q μ1 H1 _ st hs1 (walkD_tup (T := T.hide _) k2)⟩)
    have e : walkV hd1 d = some items := e
    cases d with
    | str s =>
      cases r1
      cases e
      exact .inr (.inr ⟨_, rfl, q μ1 H1 _ st hs1 walkD_str⟩)
    | _ => exact row e rfl
theorem rj_range1 {p : Pos} (hg : Gl X "range") (hm : X.mg "range" = none) (ha : PE X a (tI T CL G W m)) (hn : noStar [a] = true) : PI X tg (.Call (.Name "range" p) [a] [] pos) (tJ T CL G W (.it1 .range (.cn m .nl))) :=
  PI.wk (pi_range1 hg hm (pa_cons ha pa_nil (starEach_cons hn).1) (starEach_cons hn).1) fun σ H R ⟨hi, ρ, μ, hd, hs, rl, w⟩ => tI.mk hG hs rl (wL_one (wI_it w)) id_X fun μ1 hd1 H1 d x st hs1 r1 rl1 q => by
    obtain ⟨items, e, q⟩ := opt_get q
    cases d <;> first | (cases e; done) | skip
    rename_i j _
    cases r1
    have e : (if smallR j then some (rangeD 0 j.toNat) else none) = some items := e
    split at e
    · rename_i hz
      cases e
      unfold smallR at hz
      rw [Bool.and_eq_true, decide_eq_true_eq, decide_eq_true_eq] at hz
      exact ⟨_, rfl, by omega, by omega, q μ1 H1 _ st hs1 walkD_range⟩
    · cases e
theorem wL_two {G : Gam} {m m2 : ME} {ρ : Mi.Loc} {h : Hd} {Q : List D → Hd → Prop} {X : KX} (w : wEs G (.cn m (.cn m2 .nl)) ρ h Q X) : wE G m ρ h (fun x h => wE G m2 ρ h (fun y h => Q [x, y] h) X) X := w
theorem rj_range2 {p : Pos} {m2 : ME} (hg : Gl X "range") (hm : X.mg "range" = none) (ha : PE X a (tI T CL G W m)) (hb : PE X b (tI T CL G W m2)) (hn : noStar [a, b] = true) : PI X tg (.Call (.Name "range" p) [a, b] [] pos) (tJ T CL G W (.it1 .range (.cn m (.cn m2 .nl)))) := by
  have h1 := starEach_cons (env := X.env) hn
  have h2 := starEach_cons (env := X.env) h1.2
  refine PI.wk (pi_range2 hg hm (pa_cons ha (pa_cons hb pa_nil h2.1) h1.1) (by rw [h1.1, h2.1]; rfl) h2.1) fun σ H R ⟨hi, ρ, μ, hd, hs, rl, w⟩ => tI.mk hG hs rl (wL_two hG (wI_it w)) id_X fun μ1 hd1 H1 d x st hs1 r1 rl1 q =>
    tI.mk hG hs1 rl1 q (fun _ _ => Xx.stp st) fun μ2 hd2 H2 d2 y st2 hs2 r2 rl2 q => ?_
  obtain ⟨items, e, q⟩ := opt_get q
  cases d <;> first | (cases e; done) | skip
  cases d2 <;> first | (cases e; done) | skip
  rename_i i _ j _
  cases r1; cases r2
  have e : (if smallR i && smallR j then some (rangeD i (j - i).toNat) else none) = some items := e
  split at e
  · rename_i hz
    cases e
    unfold smallR at hz
    simp only [Bool.and_eq_true, decide_eq_true_eq] at hz
    exact ⟨_, _, rfl, by omega, q μ2 H2 _ (st.trans st2) hs2 walkD_range⟩
  · cases e
theorem rj_enum {p tpos : Pos} {elts : List Expr} {kk : Nat} (hK : X.K = T.K) (hg : Gl X "enumerate") (hm : X.mg "enumerate" = none) (ha : PE X a (tI T CL G W m)) (hn : noStar [a] = true) :
    PI X (.Tuple elts kk tpos) (.Call (.Name "enumerate" p) [a] [] pos) (tJ T CL G W (.it1 .enum (.cn m .nl))) :=
  PI.wk (pi_enumAny hg hm (pa_cons ha pa_nil (starEach_cons hn).1) (starEach_cons hn).1) fun σ H R ⟨hi, ρ, μ, hd, hs, rl, w⟩ => tI.mk hG hs rl (wL_one (wI_it w)) id_X fun μ1 hd1 H1 d x st hs1 r1 rl1 q => by
    obtain ⟨items, e, q⟩ := opt_get q
    have go : (walkV hd1 d).map (enumD 0) = some items → (∃ a xs, [x] = [.ref a] ∧ SqL X.K H1 a xs ∧ R (Ite X.K a) H1) ∨ (∃ a xs, [x] = [.ref a] ∧ SqT X.K H1 a xs ∧ R (Itet X.K a) H1) ∨ ∃ z, [x] = [.str z] ∧ R (Ites z) H1 := fun e => by
      obtain ⟨ds, e1, e2⟩ := Option.map_eq_some_iff.mp e
      cases e2
      have row : seqOf hd1 d = some ds → (∃ a xs, [x] = [.ref a] ∧ SqL X.K H1 a xs ∧ R (Ite X.K a) H1) ∨ (∃ a xs, [x] = [.ref a] ∧ SqT X.K H1 a xs ∧ R (Itet X.K a) H1) ∨ ∃ z, [x] = [.str z] ∧ R (Ites z) H1 := fun h => by
        obtain ⟨p, xs, rfl, rs, k⟩ := row_stays hs1 r1 h
        rw [hK]
        rcases k with ⟨_, k1, k2⟩ | ⟨k0, k1, k2⟩
        · exact .inl ⟨p, xs, rfl, k1, q μ1 H1 _ st hs1 (walkD_enum (T := T.hide _) k2)⟩
        · exact .inr (.inl ⟨p, xs, rfl, k1, q μ1 H1 _ st hs1 (walkD_enumT (T := T.hide _) k2)⟩)
      cases d with
      | str s =>
        cases r1
        cases e1
        exact .inr (.inr ⟨_, rfl, q μ1 H1 _ st hs1 walkD_enumS⟩)
      | _ => exact row e1
    cases d with
    | _ => exact go e
theorem rj_zip {p tpos : Pos} {elts : List Expr} {kk : Nat} {m2 : ME} (hK : X.K = T.K) (hg : Gl X "zip") (hm : X.mg "zip" = none) (ha : PE X a (tI T CL G W m)) (hb : PE X b (tI T CL G W m2)) (hn : noStar [a, b] = true) :
    PI X (.Tuple elts kk tpos) (.Call (.Name "zip" p) [a, b] [] pos) (tJ T CL G W (.it1 .zip (.cn m (.cn m2 .nl)))) := by
  have h1 := starEach_cons (env := X.env) hn
  have h2 := starEach_cons (env := X.env) h1.2
  refine PI.wk (RZ.pi_zipA hg hm (pa_cons ha (pa_cons hb pa_nil h2.1) h1.1) h1.1 (noStar_any h1.2)) fun σ H R ⟨hi, ρ, μ, hd, hs, rl, w⟩ => tI.mk hG hs rl (wL_two hG (wI_it w)) id_X fun μ1 hd1 H1 d x st hs1 r1 rl1 q =>
    tI.mk hG hs1 rl1 q (fun _ _ => Xx.stp st) fun μ2 hd2 H2 d2 y st2 hs2 r2 rl2 q => ?_
  obtain ⟨items, e, q⟩ := opt_get q
  have r1 := Mi.R.stp hs1 st2 d x r1
  have sy : ∀ {a b : D} {h h' : Hd}, stays h [a, b] h' → stays h [a] h' ∧ stays h [b] h' := fun {a b h h'} s => by
    cases a <;> cases b <;> first
      | exact ⟨True.intro, True.intro⟩
      | exact ⟨⟨s.1, True.intro⟩, True.intro⟩
      | exact ⟨True.intro, ⟨s.1, True.intro⟩⟩
      | exact ⟨⟨s.1, True.intro⟩, ⟨s.2.1, True.intro⟩⟩
  show ∃ a b xs ys, [x, y] = [V.ref a, V.ref b] ∧ ((SqL X.K H2 a xs ∧ SqL X.K H2 b ys ∧ R (Itz X.K a b) H2) ∨ (SqT X.K H2 a xs ∧ SqT X.K H2 b ys ∧ R (RZ.ItzT X.K a b) H2))
  rw [hK]
  have both : ∀ {ds es : List D}, isTup d = isTup d2 → seqOf hd2 d = some ds → seqOf hd2 d2 = some es → items = zipD ds es → (∃ a b xs ys, [x, y] = [.ref a, .ref b] ∧ ((SqL T.K H2 a xs ∧ SqL T.K H2 b ys ∧ R (Itz T.K a b) H2) ∨ (SqT T.K H2 a xs ∧ SqT T.K H2 b ys ∧ R (RZ.ItzT T.K a b) H2))) := fun {ds es} ht h1 h2 hi => by
    subst hi
    obtain ⟨p, xs, rfl, rs, k⟩ := row_stays hs2 r1 h1
    obtain ⟨p', ys, rfl, rs', k'⟩ := row_stays hs2 r2 h2
    rcases k with ⟨t, k1, k2⟩ | ⟨t, k1, k2⟩ <;> rcases k' with ⟨t', l1, l2⟩ | ⟨t', l1, l2⟩
    · exact ⟨p, p', xs, ys, rfl, .inl ⟨k1, l1, q μ2 H2 _ (st.trans st2) hs2 (walkD_zip (T := T.hide _) (fun μ' hd' H' hi hh a b c => k2 μ' hd' H' hi hh a b (sy c).1) (fun μ' hd' H' hi hh a b c => l2 μ' hd' H' hi hh a b (sy c).2))⟩⟩
    · rw [t, t'] at ht; cases ht
    · rw [t, t'] at ht; cases ht
    · exact ⟨p, p', xs, ys, rfl, .inr ⟨k1, l1, q μ2 H2 _ (st.trans st2) hs2 (walkD_zipT (T := T.hide _) (fun μ' hd' H' hi hh a b c => k2 μ' hd' H' hi hh a b (sy c).1) (fun μ' hd' H' hi hh a b c => l2 μ' hd' H' hi hh a b (sy c).2))⟩⟩
  unfold walkD at e
  cases d <;> first | (cases d2 <;> (cases e; done)) | skip
  · cases d2 <;> first | (cases e; done) | skip
    cases e
    exact both rfl rfl rfl rfl
  · cases d2 <;> first | (cases e; done) | skip
    cases e
    exact both rfl rfl rfl rfl
end
end Mi
set_option linter.all false
set_option maxRecDepth 100000
set_option maxHeartbeats 1000000
/-! Mi: comprehensions. -/
namespace Mi
open PySem L2 PySem.Spec PyProof.Rows

/-! ### a list in the making -/
section
variable {T : Tb} {μ μ' : List Addr} {hd hd' : Hd} {H H' : Hp} {hi : List Addr} {p0 : Addr}
theorem hidNew (hn : H p0 = none) : HidOk (T.hide hi) H (p0 :: hi) := fun a ha => by
  rcases List.mem_cons.mp ha with e | e
  · subst e; exact .inr hn
  · exact .inl e
theorem HS.hideNew (hs : HS (T.hide hi) μ hd H) (hn : H p0 = none) {xs : List V} : HS (T.hide (p0 :: hi)) μ hd (upd H p0 (.lst xs)) := by
  have st : Stp μ hd H μ hd (upd H p0 (.lst xs)) := Stp.new hn
  refine ⟨hs.len, hs.inj, fun n u a e ea => RO.stpH (T := T.hide hi) hs st (hidNew (T := T) hn) (hs.obj n u a e ea) fun m => ?_, hs.tabs.ext fun b u e => (by rw [upd_ne (ne_of_none e hn)]; exact e), fun b hb => ?_⟩
  · refine upd_ne fun z => ?_
    subst z
    exact Live.notnew hs hn ⟨n, u, e, m, ea⟩
  · rcases List.mem_cons.mp hb with e | e
    · subst e
      exact ⟨⟨xs, upd_same⟩, Live.notnew hs hn⟩
    · exact hs.hidStp st b e
mutual
/-- what is hidden may be written -/
theorem R.hidW {Lv : Addr → Prop} {o : HO} {acc : List V} (hp : p0 ∈ T.hid) (h0 : H p0 = some (.lst acc)) : ∀ (d : D) (v : V), R T μ Lv H d v → R T μ Lv (upd H p0 o) d v
  | .non, _, h => h
  | .bl _, _, h => h
  | .int _, _, h => h
  | .str _, _, h => h
  | .tup ds, _, h => by
    obtain ⟨p, xs, e, h1, h2⟩ := h
    have ne : ∀ u, H p = some u → (∀ l, u ≠ .lst l) → p ≠ p0 := fun u q n z => by
      subst z
      rw [h0] at q
      exact n _ (Option.some.inj q).symm
    refine ⟨p, xs, e, ?_, Rs.hidW hp h0 ds xs h2⟩
    rcases h1 with (h1 | ⟨o', h1⟩) | h1
    · exact .inl (.inl (by rw [upd_ne (ne _ h1 fun _ z => by cases z)]; exact h1))
    · exact .inl (.inr ⟨o', by rw [upd_ne (ne _ h1 fun _ z => by cases z)]; exact h1⟩)
    · exact .inr h1
  | .lst ds, _, h => by
    obtain ⟨p, xs, e, h1, n, h2⟩ := h
    exact ⟨p, xs, e, by rw [upd_ne fun z => n.2 (by rw [z]; exact hp)]; exact h1, n, Rs.hidW hp h0 ds xs h2⟩
  | .ref n, _, h => h
  | .glo _, _, h => h
  | .clo _ _, _, h => h
  | .exn _ _, _, h => h
theorem Rs.hidW {Lv : Addr → Prop} {o : HO} {acc : List V} (hp : p0 ∈ T.hid) (h0 : H p0 = some (.lst acc)) : ∀ (ds : List D) (vs : List V), Rs T μ Lv H ds vs → Rs T μ Lv (upd H p0 o) ds vs
  | [], _, h => h
  | d :: ds, _, h => by
    obtain ⟨x, xs, e, h1, h2⟩ := h
    exact ⟨x, xs, e, R.hidW hp h0 d x h1, Rs.hidW hp h0 ds xs h2⟩
end
theorem RF.hidW {Lv : Addr → Prop} {o : HO} {acc : List V} (hp : p0 ∈ T.hid) (h0 : H p0 = some (.lst acc)) : ∀ (fs : List (Nat × D)) (vs : List (Str × V)), RF T μ Lv H fs vs → RF T μ Lv (upd H p0 o) fs vs
  | [], _, h => h
  | (f, d) :: r, _, h => by
    obtain ⟨v, rr, e, h1, h2⟩ := h
    exact ⟨v, rr, e, R.hidW hp h0 d v h1, RF.hidW hp h0 r rr h2⟩
theorem HS.hidW (hs : HS T μ hd H) (hp : p0 ∈ T.hid) (ys : List V) : HS T μ hd (upd H p0 (.lst ys)) := by
  obtain ⟨⟨acc, h0⟩, nl⟩ := hs.hidp p0 hp
  refine ⟨hs.len, hs.inj, fun n u a e ea => ?_, Tabs.wr hs.tabs fun b o h ok => ?_, fun a ha => ?_⟩
  · have q := hs.obj n u a e ea
    cases u with
    | lst ds =>
      obtain ⟨xs, h1, r⟩ := q
      exact ⟨xs, by rw [upd_ne fun z => nl (by rw [← z]; exact ⟨n, _, e, rfl, ea⟩)]; exact h1, Rs.hidW hp h0 _ _ r⟩
    | rol ds =>
      obtain ⟨xs, h1, r⟩ := q
      refine ⟨xs, ?_, Rs.hidW hp h0 _ _ r⟩
      rcases h1 with ⟨h1, nn⟩ | h1
      · have ne : a ≠ p0 := fun z => nn.2 (by rw [z]; exact hp)
        rcases h1 with h1 | ⟨o, h1⟩
        · exact .inl ⟨.inl (by rw [upd_ne ne]; exact h1), nn⟩
        · exact .inl ⟨.inr ⟨o, by rw [upd_ne ne]; exact h1⟩, nn⟩
      · exact .inr h1
    | dic kvs => exact q.elim
    | ins c fs =>
      obtain ⟨C, dx, vs, e1, e2, r⟩ := q
      exact ⟨C, dx, vs, e1, by rw [upd_ne fun z => nl (by rw [← z]; exact ⟨n, _, e, rfl, ea⟩)]; exact e2, RF.hidW hp h0 _ _ r⟩
    | dead => exact True.intro
  · rw [upd_ne fun z => ?_]
    · exact h
    · subst z
      rw [h0] at h
      exact ok.1 _ (Option.some.inj h).symm
  · by_cases e : a = p0
    · subst e
      exact ⟨⟨ys, upd_same⟩, nl⟩
    · obtain ⟨⟨xs, h1⟩, n⟩ := hs.hidp a ha
      exact ⟨⟨xs, by rw [upd_ne e]; exact h1⟩, n⟩
mutual
theorem R.unhide {Lv : Addr → Prop} : ∀ (d : D) (v : V), R (T.hide (p0 :: hi)) μ Lv H d v → R (T.hide hi) μ Lv H d v
  | .non, _, h => h
  | .bl _, _, h => h
  | .int _, _, h => h
  | .str _, _, h => h
  | .tup ds, _, h => by
    obtain ⟨p, xs, e, h1, h2⟩ := h
    exact ⟨p, xs, e, h1, Rs.unhide ds xs h2⟩
  | .lst ds, _, h => by
    obtain ⟨p, xs, e, h1, n, h2⟩ := h
    exact ⟨p, xs, e, h1, ⟨n.1, fun z => n.2 (List.mem_cons_of_mem _ z)⟩, Rs.unhide ds xs h2⟩
  | .ref n, _, h => h
  | .glo _, _, h => h
  | .clo _ _, _, h => h
  | .exn _ _, _, h => h
theorem Rs.unhide {Lv : Addr → Prop} : ∀ (ds : List D) (vs : List V), Rs (T.hide (p0 :: hi)) μ Lv H ds vs → Rs (T.hide hi) μ Lv H ds vs
  | [], _, h => h
  | d :: ds, _, h => by
    obtain ⟨x, xs, e, h1, h2⟩ := h
    exact ⟨x, xs, e, R.unhide d x h1, Rs.unhide ds xs h2⟩
end
theorem RF.unhide {Lv : Addr → Prop} : ∀ (fs : List (Nat × D)) (vs : List (Str × V)), RF (T.hide (p0 :: hi)) μ Lv H fs vs → RF (T.hide hi) μ Lv H fs vs
  | [], _, h => h
  | (f, d) :: r, _, h => by
    obtain ⟨v, rr, e, h1, h2⟩ := h
    exact ⟨v, rr, e, R.unhide d v h1, RF.unhide r rr h2⟩
theorem HS.unhide (hs : HS (T.hide (p0 :: hi)) μ hd H) : HS (T.hide hi) μ hd H := by
  refine ⟨hs.len, hs.inj, fun n u a e ea => ?_, hs.tabs, fun a ha => hs.hidp a (List.mem_cons_of_mem _ ha)⟩
  have q := hs.obj n u a e ea
  cases u with
  | lst ds =>
    obtain ⟨xs, h1, r⟩ := q
    exact ⟨xs, h1, Rs.unhide _ _ r⟩
  | rol ds =>
    obtain ⟨xs, h1, r⟩ := q
    refine ⟨xs, ?_, Rs.unhide _ _ r⟩
    rcases h1 with ⟨h1, nn⟩ | h1
    · exact .inl ⟨h1, ⟨nn.1, fun z => nn.2 (List.mem_cons_of_mem _ z)⟩⟩
    · exact .inr h1
  | dic kvs => exact q.elim
  | ins c fs =>
    obtain ⟨C, dx, vs, e1, e2, r⟩ := q
    exact ⟨C, dx, vs, e1, e2, RF.unhide _ _ r⟩
  | dead => exact True.intro
theorem Stp.hidW {μ0 : List Addr} {hd0 : Hd} {H0 : Hp} {o : HO} (s : Stp μ0 hd0 H0 μ hd H) (hn : H0 p0 = none) : Stp μ0 hd0 H0 μ hd (upd H p0 o) :=
  ⟨s.ext, s.lv, fun a u h n nt => by rw [upd_ne (ne_of_none h hn)]; exact s.kp a u h n nt, fun a ps h => by
    obtain ⟨ps', e⟩ := s.tk a ps h
    exact ⟨ps', by rw [upd_ne (ne_of_none h hn)]; exact e⟩⟩
theorem Stp.hidW1 {o : HO} (hs : HS T μ hd H) (hp : p0 ∈ T.hid) : ∀ {d : D} {v : V}, R T μ (Live μ hd) H d v → R T μ (Live μ hd) (upd H p0 o) d v := fun {d v} r => by
  obtain ⟨⟨acc, h0⟩, _⟩ := hs.hidp p0 hp
  exact R.hidW hp h0 d v r
end
mutual
theorem RA.stpH {T : Tb} {CL : CLs} {μ μ' : List Addr} {hd hd' : Hd} {H H' : Hp} (hs : HS T μ hd H) (s : Stp μ hd H μ' hd' H') {hi : List Addr} (hh : HidOk T H hi) : ∀ (d : D) (v : V), RA T CL μ (Live μ hd) H d v → RA (T.hide hi) CL μ' (Live μ' hd') H' d v
  | .clo k ds, _, h => by
    obtain ⟨f, c', cl, ws, e, h1, h2, h3, h4⟩ := h
    exact ⟨f, c', cl, ws, e, h1, ext_kp hs s h2, ext_kp hs s h3, RAs.stpH hs s hh ds ws h4⟩
  | .exn c ds, _, h => by
    obtain ⟨a, d, C, ws, e, h1, h2, h3, h4⟩ := h
    exact ⟨a, d, C, ws, e, h1, h2, xd_kp hs s h3, Rs.stpH hs s hh ds ws h4⟩
  | .non, _, h => R.stpH hs s hh .non _ h
  | .bl b, _, h => R.stpH hs s hh (.bl b) _ h
  | .int b, _, h => R.stpH hs s hh (.int b) _ h
  | .str b, _, h => R.stpH hs s hh (.str b) _ h
  | .tup b, _, h => R.stpH hs s hh (.tup b) _ h
  | .lst b, _, h => R.stpH hs s hh (.lst b) _ h
  | .ref b, _, h => R.stpH hs s hh (.ref b) _ h
  | .glo b, _, h => R.stpH hs s hh (.glo b) _ h
theorem RAs.stpH {T : Tb} {CL : CLs} {μ μ' : List Addr} {hd hd' : Hd} {H H' : Hp} (hs : HS T μ hd H) (s : Stp μ hd H μ' hd' H') {hi : List Addr} (hh : HidOk T H hi) : ∀ (ds : List D) (vs : List V), RAs T CL μ (Live μ hd) H ds vs → RAs (T.hide hi) CL μ' (Live μ' hd') H' ds vs
  | [], _, h => h
  | d :: ds, _, h => by
    obtain ⟨x, xs, e, h1, h2⟩ := h
    exact ⟨x, xs, e, RA.stpH hs s hh d x h1, RAs.stpH hs s hh ds xs h2⟩
end
theorem RL.stpH {T : Tb} {CL : CLs} {μ μ' : List Addr} {hd hd' : Hd} {H H' : Hp} {ρ : Mi.Loc} {σ : L2.St} (rl : RL T CL μ hd H ρ σ) (hs : HS T μ hd H) (s : Stp μ hd H μ' hd' H') {hi : List Addr} (hh : HidOk T H hi) : RL (T.hide hi) CL μ' hd' H' ρ σ := ⟨rl.len, fun i d e => by
  obtain ⟨v, e1, r⟩ := rl.val i d e
  exact ⟨v, e1, RA.stpH hs s hh d v r⟩⟩
theorem PTs.wk {X : Cx} {e : List Expr} {t t' : TT} (h : PTs X e t) (w : ∀ σ H Q, t' σ H Q → t σ H Q) : PTs X e t' := ⟨fun pins s σ H Q I q => h.run pins s σ H Q I (w σ H Q q)⟩
abbrev W0 : WX := fun _ _ _ _ => False
section
variable {X : Cx} {T : Tb} {CL : CLs} {G : Gam} {W : WX} {mi mc me : ME} {tg iter elt : Expr} {ifs : List Expr} {pos : Pos} {scope : Scope} {own : List (Str × Nat)} {p : Pat}
variable (hG : GMono G)
include hG
theorem tJ.mk {σ : L2.St} {H : Hp} {ρ : Mi.Loc} {μ : List Addr} {hd : Hd} {hi : List Addr} {m : ME} {R : It → Hp → Prop} {Qd : List D → (Hd → Prop) → Hd → Prop} {Xd : KX} (hs : HS (T.hide hi) μ hd H) (rl : RL (T.hide hi) CL μ hd H ρ σ) (w : wI G m ρ hd Qd Xd) (hx : ∀ x h, Xd x h → Xx (T.hide hi) μ hd H (fun c a => W c a σ) x h)
    (k : ∀ μ1 hd1 H1 items st J, Stp μ hd H μ1 hd1 H1 → HS (T.hide hi) μ1 hd1 H1 → RL (T.hide hi) CL μ1 hd1 H1 ρ σ → WalkD (T.hide hi) J items st μ1 hd1 H1 → Qd items st hd1 → R J H1) : tJ T CL G W m σ H R :=
  ⟨hi, ρ, μ, hd, hs, rl, (mo hG m).i ρ hd _ _ _ _ (fun items st hd1 q μ1 H1 J sp hs1 wd => k μ1 hd1 H1 items st J sp hs1 (rl.stp hs sp) wd q) hx w⟩
theorem rts_none : PTs X [] (tT T CL G W (.tr (.c (.bl true)))) := PTs.wk pts_nil fun σ H Q ⟨hi, ρ, μ, hd, hs, rl, w⟩ => NxB.now (show NxB (T.hide hi) μ hd H Q true hd from w) hs
theorem lc_wk (hp : ∀ i ∈ patIx p, i ∈ own.map (·.2)) : ∀ σ H Q, tI T CL G W (.lc p mi mc me (own.map (·.2))) σ H Q → tLc (tJ T CL G W mi) (gP T CL0 p) (tT T CL0 G W0 mc) (tI T CL0 G W0 me) (own.map (·.2)) σ H Q :=
  fun σ H Q ⟨hi, ρ, μ, hd, hs, rl, w⟩ => tJ.mk hG hs rl w id_X fun μ1 hd1 H1 items st J sp1 hs1 rl1 wd w1 => by
    intro Dd hD
    obtain ⟨hlen, w1⟩ := w1
    generalize hvs : own.map (·.2) = vs at *
    have hh : HidOk (T.hide hi) H1 (Dd :: hi) := hidNew (T := T) hD
    refine ⟨fun i m H2 => m = items.length - i ∧ i ≤ items.length ∧ ∃ μ2 hd2 dacc acc, H2 Dd = some (.lst acc) ∧ Stp μ1 hd1 H1 μ2 hd2 H2 ∧ HS (T.hide (Dd :: hi)) μ2 hd2 H2 ∧ Rs (T.hide (Dd :: hi)) μ2 (Live μ2 hd2) H2 dacc acc ∧ acc.length ≤ i ∧
      compL (fun d h K => opt (bindP p d (wipeL (noClo ρ) vs)) fun ρ' => wT G mc ρ' h (fun b h => if b = true then wE G me ρ' h (fun y h => K (some y) h) (fun _ _ => False) else K none h) (fun _ _ => False)) st (items.drop i) hd2 (fun ds h => Nx (T.hide hi) μ hd H Q (.lst (dacc ++ ds)) h),
      ⟨items.length, rfl, Nat.zero_le _, μ1, hd1, [], [], upd_same, Stp.new hD, hs1.hideNew hD, rfl, Nat.le_refl _, by simpa using w1⟩, ?_⟩
    rintro i m H2 ⟨rfl, hi2, μ2, hd2, dacc, acc, hacc, sp2, hs2, racc, hal, w2⟩
    by_cases hlt : i < items.length
    · obtain ⟨d, hd'⟩ := get_lt hlt
      rw [List.drop_eq_getElem_cons hlt] at w2
      have hd'' : items[i] = d := by
        have := List.getElem?_eq_getElem hlt
        rw [this] at hd'
        exact Option.some.inj hd'
      rw [hd''] at w2
      obtain ⟨hst, w2⟩ := w2
      refine .inr ⟨wd.goes i μ2 hd2 H2 _ hh hlt sp2 hs2 hst, fun H3 => ∃ μ2 hd2 dacc acc, H3 Dd = some (.lst acc) ∧ Stp μ1 hd1 H1 μ2 hd2 H3 ∧ HS (T.hide (Dd :: hi)) μ2 hd2 H3 ∧ Rs (T.hide (Dd :: hi)) μ2 (Live μ2 hd2) H3 dacc acc ∧ acc.length ≤ i + 1 ∧
        compL (fun d h K => opt (bindP p d (wipeL (noClo ρ) vs)) fun ρ' => wT G mc ρ' h (fun b h => if b = true then wE G me ρ' h (fun y h => K (some y) h) (fun _ _ => False) else K none h) (fun _ _ => False)) st (items.drop (i + 1)) hd2 (fun ds h => Nx (T.hide hi) μ hd H Q (.lst (dacc ++ ds)) h),
        fun H3 q => ⟨items.length - (i + 1), by omega, rfl, hlt, q⟩, fun x H3 hy => ?_⟩
      obtain ⟨sp3, hs3, r3⟩ := wd.yields i d μ2 hd2 H2 x H3 _ hh hd' sp2 hs2 hst hy
      have sp13 := sp2.trans sp3
      have rl3 : RL (T.hide (Dd :: hi)) CL0 μ2 hd2 H3 (wipeL (noClo ρ) vs) (wipe σ vs) := ((rl1.stpH (T := T.hide hi) hs1 sp13 hh).noClo).wipe vs
      obtain ⟨ρ', hb, w3⟩ := opt_get w2
      refine ⟨Dd :: hi, _, μ2, hd2, d, hs3, rl3, r3, ?_⟩
      rw [hb]
      intro σ' hw rl4
      refine ⟨by rw [hw vs hp, wipe_wipe], ?_⟩
      refine tT.mk hG hs3 rl4 w3 (fun _ _ z => z.elim) fun μ4 hd4 H4 b sp4 hs4 rl5 q4 => ?_
      have nl : ∀ {μ hd H}, HS (T.hide (Dd :: hi)) μ hd H → ¬ Live μ hd Dd := fun h => (h.hidp Dd (List.mem_cons_self ..)).2
      have acc3 : H3 Dd = some (.lst acc) := sp3.kp Dd _ hacc (nl hs2) fun _ z => by cases z
      have acc4 : H4 Dd = some (.lst acc) := sp4.kp Dd _ acc3 (nl hs3) fun _ z => by cases z
      have racc4 : Rs (T.hide (Dd :: hi)) μ4 (Live μ4 hd4) H4 dacc acc := Rs.stp hs2 (sp3.trans sp4) _ _ racc
      cases b with
      | true =>
        refine tI.mk hG hs4 rl5 q4 (fun _ _ z => z.elim) fun μ5 hd5 H5 dy y sp5 hs5 r5 rl6 q5 => ?_
        have acc5 : H5 Dd = some (.lst acc) := sp5.kp Dd _ acc4 (nl hs4) fun _ z => by cases z
        have racc5 := Rs.stp hs4 sp5 _ _ racc4
        refine ⟨acc, acc5, by rw [sz_eq]; omega, μ5, hd5, dacc ++ [dy], acc ++ [y], upd_same, (sp13.trans (sp4.trans sp5)).hidW hD, hs5.hidW (List.mem_cons_self ..) _, ?_, by rw [List.length_append]; simpa using hal, ?_⟩
        · exact Rs.append (Rs.hidW (T := T.hide (Dd :: hi)) (List.mem_cons_self ..) acc5 _ _ racc5) ⟨y, [], rfl, R.hidW (T := T.hide (Dd :: hi)) (List.mem_cons_self ..) acc5 _ _ r5, rfl⟩
        · simpa using q5
      | false =>
        exact ⟨μ4, hd4, dacc, acc, acc4, sp13.trans sp4, hs4, racc4, by omega, by simpa using q4⟩
    · have e : i = items.length := by omega
      subst e
      rw [List.drop_length] at w2
      obtain ⟨hst, w2⟩ := w2
      refine .inl ⟨wd.stops _ μ2 hd2 H2 _ hh rfl sp2 hs2 hst, ?_⟩
      rw [List.append_nil] at w2
      have nl := (hs2.hidp Dd (List.mem_cons_self ..)).2
      exact w2 μ2 H2 _ (sp1.trans sp2) hs2.unhide ⟨Dd, acc, rfl, hacc, ⟨nl, fun hm => hs1.nothid hD hm⟩, Rs.unhide _ _ racc⟩
theorem re_lc (hc : X.calm = true) (hN : X.N.Nodup) (hit : PI X tg iter (tJ T CL G W mi)) (ok : BlkOk X.N X.env.scope scope own)
    (hg : ∀ (s : Shared) (H : Hp) (C : Addr) (cl : List (Str × Addr)) (fp : List Addr), PG (X.blk s H scope (compEnvC scope cl C X.env) fp) tg (gP T CL0 p))
    (ht : ∀ (s : Shared) (H : Hp) (C : Addr) (cl : List (Str × Addr)) (fp : List Addr), PTs (X.blk s H scope (compEnvC scope cl C X.env) fp) ifs (tT T CL0 G W0 mc))
    (he : ∀ (s : Shared) (H : Hp) (C : Addr) (cl : List (Str × Addr)) (fp : List Addr), PE (X.blk s H scope (compEnvC scope cl C X.env) fp) elt (tI T CL0 G W0 me))
    (hf : ∀ x, foldedSetIterable iter X.env x = pure x) (hp : ∀ i ∈ patIx p, i ∈ own.map (·.2)) :
    PE X (.ListComp elt [⟨tg, iter, ifs, 0⟩] scope pos) (tI T CL G W (.lc p mi mc me (own.map (·.2)))) :=
  PE.wk (pe_lc hc hN hit ok hg ht he hf) (lc_wk hG hp)
end
end Mi
set_option linter.all false
set_option maxRecDepth 100000
set_option maxHeartbeats 1000000
/-! Mi: lambdas that are made, arguments, calls. -/
namespace Mi
open PySem L2 PySem.Spec PyProof.Rows

/-! ### a lambda is made: its object is tracked -/
section
variable {X : Cx} {pins : List (Addr × Obj)} {σ : L2.St} {H : Hp} {s : Shared}
theorem inv_lam {L : LaC} {cl : List (Str × Addr)} {c' : Addr} {pm ctv : Value} {t' : Nat} (I : Inv X pins σ H s) :
    Inv X pins σ (upd H s.heap.objs.size (LamO s.heap.objs.size L cl c')) { s with heap := s.heap.push (PySem.W.kla_obj "<lambda>" L.q L.params L.body L.scope cl pm c' ctv), toks := t' } := by
  refine I.laid (a := s.heap.objs.size) (fun b u e => Heap.get?_push_of_some _ e) (Nat.le_refl _) ?_
  have e : (s.heap.push (PySem.W.kla_obj "<lambda>" L.q L.params L.body L.scope cl pm c' ctv)).get? s.heap.objs.size = some (PySem.W.kla_obj "<lambda>" L.q L.params L.body L.scope cl pm c' ctv) := Heap.get?_push_size _ rfl
  exact ⟨⟨pm, ctv, e⟩, ⟨_, e⟩, fun h1 h2 ⟨p, t, z⟩ st => ⟨p, t, st _ z⟩⟩
theorem lam_makeT {tb : List (Addr × Str)} {c P : Addr} {L : LaC} {pos : Pos} {E : Value → Shared → Prop} {Q : Value → Shared → Prop} (I : Inv X pins σ H s) (TB : LamX.TabB X.base X.mg c P) (hcode : X.env.code = .ref c) (hq : L.q = X.env.qual ++ "<lambda>")
    (hm : (P, L.q) ∈ tb) (hu : ∀ p ∈ tb, p.1 = P → p.2 = L.q) (hT : LamX.Tabs tb H) (hdef : defaultsOf L.params X.env = ([], [])) (hfree : ∀ y ∈ L.scope.names, y.2 = .free → ∃ c, X.env.cells.lookup y.1 = some c)
    (h : ∀ (f c' : Addr) (H1 : Hp) (s' : Shared), Inv X pins σ H1 s' → LamX.ExtN H H1 → (∀ a ps, H a = some (.tbl ps) → ∃ ps', H1 a = some (.tbl ps')) → LamX.Tabs tb H1 → H f = none →
      H1 f = some (LamO f L (cloFrom X.env.cells L.scope.names []) c') → H1 c' = some (LamX.CodeO c' L.q) → Q (.ref f) s') :
    wpAny (model X.prog X.w) X.A (eval (.Lambda L.params L.body L.scope pos) X.env) Q E s := by
  obtain ⟨ps, hP, ht, ha⟩ := hT _ hm
  refine PySem.W.kla_eval hdef ?_
  rw [← hq]
  have bP : s.heap.BuiltinsAt X.mg P := TB.bm.keeps I.bk
  have hP' : s.heap.get? P = some { cls := .none, data := .fields ps } := I.hok P _ hP
  cases hc : codeAmong pos ps.toList with
  | none =>
    refine PySem.W.kla_makeFunction (mg := X.mg) (c := c) (P := P) (ps := ps) (closure_ok hfree) I.ok.glob (I.mod.glob.keeps I.bk) hcode (TB.code.keeps I.bk) hP' ht hc TB.gP bP fun c' ctv h' tk hx hge hlt hrec htb => ?_
    obtain ⟨c2, oc, vs, t, e2, hoc, hd, hv⟩ := hrec
    cases e2
    have nC : H c' = none := I.hok.fresh hge
    have I1 := LamX.inv_table (t' := tk) (more := #[rawInt pos.line, rawInt pos.col, .ref c']) (h' := h') I hP (fun b o hb e => hx b o hb e) htb hge ⟨oc, vs, t, hoc, hd, hv⟩
    have hE : LamX.ExtN H (upd (upd H P (.tbl (ps ++ #[rawInt pos.line, rawInt pos.col, .ref c']))) c' (LamX.CodeO c' L.q)) := fun b o e n => by
      rw [upd_ne (ne_of_none e nC), upd_ne (fun z => n ps (Option.some.inj (e.symm.trans (by rw [z]; exact hP))))]
      exact e
    have eL : (ps ++ #[rawInt pos.line, rawInt pos.col, .ref c']).toList = ps.toList ++ [rawInt pos.line, rawInt pos.col, .ref c'] := by simp
    have T1 : LamX.Tabs tb (upd (upd H P (.tbl (ps ++ #[rawInt pos.line, rawInt pos.col, .ref c']))) c' (LamX.CodeO c' L.q)) := fun p hp => by
      by_cases hb : p.1 = P
      · rw [hu p hp hb, hb]
        refine ⟨_, by rw [upd_ne (ne_of_none hP nC), upd_same], by rw [eL]; exact PySem.TriplesOk_snoc _ _ _ _ ht, fun p' cv hcv => ?_⟩
        rw [eL] at hcv
        rcases LamX.among_app _ ht hcv with z | z
        · obtain ⟨c0, e1, e2⟩ := ha p' cv z
          exact ⟨c0, e1, hE _ _ e2 LamX.codeO_ne⟩
        · exact ⟨c', z, upd_same⟩
      · obtain ⟨ps', a1, a2, a3⟩ := hT p hp
        refine ⟨ps', by rw [upd_ne (ne_of_none a1 nC), upd_ne hb]; exact a1, a2, fun p' cv hcv => ?_⟩
        obtain ⟨c0, e1, e2⟩ := a3 p' cv hcv
        exact ⟨c0, e1, hE _ _ e2 LamX.codeO_ne⟩
    have nF := I1.hok.fresh (Nat.le_refl _)
    have I2 := inv_lam (L := L) (cl := cloFrom X.env.cells L.scope.names []) (c' := c') (t' := tk) (pm := (X.mg "__name__").getD .none) (ctv := ctv) I1
    refine h h'.objs.size c' _ _ I2 (fun b o e n => ?_) (fun a qs e => ?_) (T1.ext fun b o e => ?_) (I.hok.fresh (Nat.le_trans hge (Nat.le_of_lt hlt))) upd_same ?_
    · have e1 := hE b o e n
      exact (upd_ne (ne_of_none e1 nF)).trans e1
    · by_cases hb : a = P
      · exact ⟨ps ++ #[rawInt pos.line, rawInt pos.col, .ref c'], by
          have e1 : upd (upd H P (.tbl (ps ++ #[rawInt pos.line, rawInt pos.col, .ref c']))) c' (LamX.CodeO c' L.q) a = some (.tbl (ps ++ #[rawInt pos.line, rawInt pos.col, .ref c'])) := by
            rw [upd_ne (ne_of_none e nC), hb, upd_same]
          exact (upd_ne (ne_of_none e1 nF)).trans e1⟩
      · refine ⟨qs, ?_⟩
        have e1 : upd (upd H P (.tbl (ps ++ #[rawInt pos.line, rawInt pos.col, .ref c']))) c' (LamX.CodeO c' L.q) a = some (.tbl qs) := by
          rw [upd_ne (ne_of_none e nC), upd_ne hb]
          exact e
        exact (upd_ne (ne_of_none e1 nF)).trans e1
    · exact (upd_ne (ne_of_none e nF)).trans e
    · exact (upd_ne (Nat.ne_of_lt hlt)).trans upd_same
  | some cv =>
    obtain ⟨c', e, hco⟩ := ha pos cv hc
    subst e
    refine PySem.W.kla_makeFunctionHit (mg := X.mg) (c := c) (P := P) (ps := ps) (closure_ok hfree) I.ok.glob (I.mod.glob.keeps I.bk) hcode (TB.code.keeps I.bk) hP' ht hc bP fun ctv h' tk hx hsz => ?_
    have I1 : Inv X pins σ H { s with heap := h', toks := tk } := I.kept hx
    have nF : H h'.objs.size = none := I1.hok.fresh (Nat.le_refl _)
    have I2 := inv_lam (L := L) (cl := cloFrom X.env.cells L.scope.names []) (c' := c') (t' := tk) (pm := (X.mg "__name__").getD .none) (ctv := ctv) I1
    refine h h'.objs.size c' _ _ I2 (fun b o e n => ?_) (fun a qs e => ⟨qs, ?_⟩) (hT.ext fun b o e => ?_) nF upd_same ?_
    · exact (upd_ne (ne_of_none e nF)).trans e
    · exact (upd_ne (ne_of_none e nF)).trans e
    · exact (upd_ne (ne_of_none e nF)).trans e
    · exact (upd_ne (ne_of_none hco nF)).trans hco
end
section
variable {T : Tb} {μ μ' : List Addr} {hd hd' : Hd} {H H' : Hp}
/-- behind the making of a lambda -/
theorem HS.lam (hs : HS T μ hd H) (e : LamX.ExtN H H') (tk : ∀ a ps, H a = some (.tbl ps) → ∃ ps', H' a = some (.tbl ps')) (t : LamX.Tabs T.tb H') : Stp μ hd H μ hd H' ∧ HS T μ hd H' := by
  have st : Stp μ hd H μ hd H' := ⟨⟨[], by simp⟩, fun _ l => .inl l, fun a o h _ nt => e a o h nt, tk⟩
  refine ⟨st, hs.len, hs.inj, fun n u a h1 h2 => RO.stp hs st (hs.obj n u a h1 h2) fun m => ?_, t, hs.hidStp st⟩
  rcases hs.notlive ⟨n, u, h1, m, h2⟩ with ⟨xs, q⟩ | ⟨C, dx, vs, q⟩
  · rw [q]; exact e a _ q fun _ z => by cases z
  · rw [q]; exact e a _ q fun _ z => by cases z
end

/-! ### closures at hand -/
/-- the cells of the closures at hand hold what is told -/
def CLok (T : Tb) (CL : CLs) (s : Shared) (H : Hp) : Prop := ∀ f k cl ws, CL.clo f = some (k, cl, ws) → NdefX.CellsAt cl (T.la k).fr (ws.map some) s.heap H
/-- .. in a context: at its entry -/
def CLx (T : Tb) (CL : CLs) (X : Cx) : Prop := CLok T CL X.s_0 X.H_0 ∧ ∀ f k cl ws, CL.clo f = some (k, cl, ws) → ∀ y c, cl.lookup y = some c → c ∉ X.ex
theorem cells_later {X : Cx} {pins : List (Addr × Obj)} {σ : L2.St} {H : Hp} {s : Shared} {cl : List (Str × Addr)} {fr : List Str} {ws : List (Option V)} (C : NdefX.CellsAt cl fr ws X.s_0.heap X.H_0) (hx : ∀ y c, cl.lookup y = some c → c ∉ X.ex) (I : Inv X pins σ H s) : NdefX.CellsAt cl fr ws s.heap H := by
  have kp : ∀ y c, cl.lookup y = some c → ∀ v, X.s_0.heap.IsCell c v → s.heap.IsCell c v := fun y c e v ⟨o, ho, hd⟩ => by
    obtain ⟨sl, q⟩ := I.base.any ho (C.all y c e).1 (hx y c e)
    exact ⟨_, q, hd⟩
  refine ⟨C.len, fun y c e => ?_, C.inj, fun i y e => ?_⟩
  · obtain ⟨n, v, z⟩ := C.all y c e
    refine ⟨?_, v, kp y c e v z⟩
    obtain ⟨o, ho, _⟩ := z
    exact I.base.free c o ho n (hx y c e)
  · obtain ⟨c, hc, hv⟩ := C.has i y e
    refine ⟨c, hc, fun v ev => ?_⟩
    obtain ⟨u, r, z⟩ := hv v ev
    exact ⟨u, r, kp y c hc _ z⟩
/-- CL1: those of CL, and new ones of this frame -/
structure CLn (X : Cx) (T : Tb) (σ : L2.St) (CL CL1 : CLs) : Prop where
  clo : ∀ f k cl ws, CL1.clo f = some (k, cl, ws) → CL.clo f = some (k, cl, ws) ∨ ∃ js, NdefX.Caps X cl (T.la k).fr js ∧ ws.map some = js.map (NdefX.slotAt σ)
theorem CLn.ok {X : Cx} {T : Tb} {pins : List (Addr × Obj)} {σ : L2.St} {H : Hp} {s : Shared} {CL CL1 : CLs} (n : CLn X T σ CL CL1) (x : CLx T CL X) (I : Inv X pins σ H s) : CLok T CL1 s H := fun f k cl ws e => by
  rcases n.clo f k cl ws e with q | ⟨js, c, e2⟩
  · exact cells_later (x.1 f k cl ws q) (x.2 f k cl ws q) I
  · rw [e2]
    exact NdefX.cells_of I c
mutual
/-- without errors at hand -/
theorem RA.drop {T : Tb} {CL : CLs} {μ : List Addr} {Lv : Addr → Prop} {H : Hp} : ∀ (d : D) (v : V), noX d = true → RA T CL μ Lv H d v → RA T ⟨CL.clo, fun _ => none⟩ μ Lv H d v
  | .clo k ds, _, n, h => by
    obtain ⟨f, c', cl, ws, e, h1, h2, h3, h4⟩ := h
    exact ⟨f, c', cl, ws, e, h1, h2, h3, RAs.drop ds ws n h4⟩
  | .exn c ds, _, n, _ => by cases n
  | .non, _, _, h => h
  | .bl b, _, _, h => h
  | .int b, _, _, h => h
  | .str b, _, _, h => h
  | .tup b, _, _, h => h
  | .lst b, _, _, h => h
  | .ref b, _, _, h => h
  | .glo b, _, _, h => h
theorem RAs.drop {T : Tb} {CL : CLs} {μ : List Addr} {Lv : Addr → Prop} {H : Hp} : ∀ (ds : List D) (vs : List V), noXs ds = true → RAs T CL μ Lv H ds vs → RAs T ⟨CL.clo, fun _ => none⟩ μ Lv H ds vs
  | [], _, _, h => h
  | d :: ds, _, n, h => by
    obtain ⟨x, xs, e, h1, h2⟩ := h
    have n : (noX d && noXs ds) = true := n
    rw [Bool.and_eq_true] at n
    exact ⟨x, xs, e, RA.drop d x n.1 h1, RAs.drop ds xs n.2 h2⟩
end
theorem noX_nc {d : D} {T : Tb} {μ : List Addr} {Lv : Addr → Prop} {H : Hp} {v : V} (r : R T μ Lv H d v) : noX d = true := by
  cases d <;> first | rfl | exact r.elim
theorem CLs.Le.refl (CL : CLs) (H : Hp) : CL.Le CL H := ⟨fun _ _ _ _ h => h, fun _ _ h => h⟩
theorem CLs.Le.trans {T : Tb} {CL CL1 CL2 : CLs} {μ μ' : List Addr} {hd hd' : Hd} {H H' : Hp} (a : CL.Le CL1 H) (hs : HS T μ hd H) (st : Stp μ hd H μ' hd' H') (b : CL1.Le CL2 H') : CL.Le CL2 H :=
  ⟨fun x p φ h e => b.clo x p φ (ext_kp hs st h) (a.clo x p φ h e), fun x p e => b.exn x p (a.exn x p e)⟩

/-! ### arguments -/
def ArgP (X : Cx) (T : Tb) (CL : CLs) (G : Gam) (W : WX) (m : ME) (es : List Expr) : Prop :=
  ∀ (pos : Pos) (pins : List (Addr × Obj)) (s : Shared) (σ : L2.St) (H : Hp) (ρ : Mi.Loc) (μ : List Addr) (hd : Hd) (hi : List Addr) (CL1 : CLs) (Qd : List D → Hd → Prop) (Xd : KX) (Q : List Value → Shared → Prop),
    Inv X pins σ H s → HS (T.hide hi) μ hd H → RL (T.hide hi) CL μ hd H ρ σ → RL (T.hide hi) CL1 μ hd H ρ σ → CLn X T σ CL CL1 → wAs G m ρ hd Qd Xd → (∀ x h, Xd x h → Xx (T.hide hi) μ hd H (fun c a => W c a σ) x h) →
    (∀ us s1 H1 μ1 hd1 ds vs CL2, Inv X pins σ H1 s1 → Stp μ hd H μ1 hd1 H1 → HS (T.hide hi) μ1 hd1 H1 → CL1.Le CL2 H → CLn X T σ CL CL2 → RAs (T.hide hi) CL2 μ1 (Live μ1 hd1) H1 ds vs → noXs ds = true → Vals vs us → Qd ds hd1 → Q us s1) →
    wpAny (model X.prog X.w) X.A (spliced (backTo pos (starEach es X.env))) Q X.xe s
/-- one argument -/
def ArgE (X : Cx) (T : Tb) (CL : CLs) (G : Gam) (W : WX) (m : ME) (e : Expr) : Prop :=
  ∀ (pins : List (Addr × Obj)) (s : Shared) (σ : L2.St) (H : Hp) (ρ : Mi.Loc) (μ : List Addr) (hd : Hd) (hi : List Addr) (CL1 : CLs) (Qd : KD) (Xd : KX) (Q : Value → Shared → Prop),
    Inv X pins σ H s → HS (T.hide hi) μ hd H → RL (T.hide hi) CL μ hd H ρ σ → RL (T.hide hi) CL1 μ hd H ρ σ → CLn X T σ CL CL1 → wA1 G m ρ hd Qd Xd → (∀ x h, Xd x h → Xx (T.hide hi) μ hd H (fun c a => W c a σ) x h) →
    (∀ u s1 H1 μ1 hd1 d v CL2, Inv X pins σ H1 s1 → Stp μ hd H μ1 hd1 H1 → HS (T.hide hi) μ1 hd1 H1 → CL1.Le CL2 H → CLn X T σ CL CL2 → RA (T.hide hi) CL2 μ1 (Live μ1 hd1) H1 d v → noX d = true → RelV v u → Qd d hd1 → Q u s1) →
    wpAny (model X.prog X.w) X.A (eval e X.env) Q X.xe s
section
variable {X : Cx} {T : Tb} {CL : CLs} {G : Gam} {W : WX} {m mr : ME} {e : Expr} {es : List Expr}
theorem RL.more {T : Tb} {CL CL' : CLs} {μ : List Addr} {hd : Hd} {H : Hp} {ρ : Mi.Loc} {σ : L2.St} (m : CL.Le CL' H) (rl : RL T CL μ hd H ρ σ) : RL T CL' μ hd H ρ σ := ⟨rl.len, fun i d e => by
  obtain ⟨v, e1, r⟩ := rl.val i d e
  exact ⟨v, e1, RA.more m d v r⟩⟩
theorem ra_nil : ArgP X T CL G W .nl [] := fun pos pins s σ H ρ μ hd hi CL1 Qd Xd Q I hs rl rl1 cn w hx k => Calls.spliced_nil (k [] s H μ hd [] [] CL1 I Stp.refl hs (.refl _ _) cn rfl rfl .nil w)
theorem getLs_ok {T : Tb} {CL : CLs} {μ : List Addr} {hd : Hd} {H : Hp} {ρ : Mi.Loc} {σ : L2.St} (rl : RL T CL μ hd H ρ σ) : ∀ {js : List Nat} {ds : List D}, getLs ρ js = some ds → ∃ ws, RAs T CL μ (Live μ hd) H ds ws ∧ ws.map some = js.map (NdefX.slotAt σ)
  | [], ds, h => by
    cases h
    exact ⟨[], rfl, rfl⟩
  | j :: js, ds, h => by
    simp only [getLs] at h
    split at h
    · rename_i d ds' h1 h2
      cases h
      obtain ⟨v, e1, r⟩ := rl.get h1
      obtain ⟨ws, r2, e2⟩ := getLs_ok rl h2
      exact ⟨v :: ws, ⟨v, ws, rfl, r, r2⟩, by rw [List.map_cons, List.map_cons, e2, NdefX.slotAt_of e1]⟩
    · cases h
variable (hG : GMono G)
theorem ra_va {i : Nat} {x : Str} {pos : Pos} (hN : X.N[i]? = some x) (hv : Vis X.env.scope x) (hd : (x == ("__debug__" : Str)) = false) (hcd : (x == ("__classdict__" : Str)) = false) : ArgE X T CL G W (.va i) (.Name x pos) :=
  fun pins s σ H ρ μ hd' hi CL1 Qd Xd Q I hs rl rl1 cn w hx k => by
    obtain ⟨d, e, nx, w⟩ := opt_get w
    obtain ⟨v, e1, r⟩ := rl1.get e
    refine thn ((pe_var (pos := pos) hN hv hd hcd).run pins s σ H (fun y H1 => y = v ∧ H1 = H) I ⟨v, e1, rfl, rfl⟩) fun u s1 ⟨y, H1, I1, r1, q1, q2⟩ => ?_
    subst q1
    subst q2
    exact k u s1 _ μ hd' d _ CL1 I1 Stp.refl hs (.refl _ _) cn r nx r1 w
theorem ra_lam {k0 : Nat} {js : List Nat} {c P : Addr} {pos : Pos} (TB : LamX.TabB X.base X.mg c P) (hcode : X.env.code = .ref c) (hq : (T.la k0).q = X.env.qual ++ "<lambda>") (hm : (P, (T.la k0).q) ∈ T.tb) (hu : ∀ p ∈ T.tb, p.1 = P → p.2 = (T.la k0).q)
    (hdef : defaultsOf (T.la k0).params X.env = ([], [])) (hfree : ∀ y ∈ (T.la k0).scope.names, y.2 = .free → X.env.scope.names.lookup y.1 = some .cell ∨ X.env.scope.names.lookup y.1 = some .free)
    (hfr : ∀ y ∈ (T.la k0).fr, (y, NameKind.free) ∈ (T.la k0).scope.names) (hjs : js.map (fun j => X.N[j]?) = (T.la k0).fr.map some) : ArgE X T CL G W (.lam k0 js) (.Lambda (T.la k0).params (T.la k0).body (T.la k0).scope pos) :=
  fun pins s σ H ρ μ hd hi CL1 Qd Xd Q I hs rl rl1 cn w hx k => by
    obtain ⟨ds, e, nx, w⟩ := opt_get w
    obtain ⟨ws, rw_, ew⟩ := getLs_ok rl1 e
    have hf : ∀ y ∈ (T.la k0).scope.names, y.2 = .free → ∃ c, X.env.cells.lookup y.1 = some c := fun y hy e => (hfree y hy e).elim (fun z => I.ok.has _ (.inl z)) fun z => I.ok.has _ (.inr z)
    have cp := NdefX.Caps.made (X := X) I.ok hfree hfr hjs
    refine lam_makeT I TB hcode hq hm hu hs.tabs hdef hf fun f c' H1 s1 I1 eN tk T1 hnf h1 h2 => ?_
    obtain ⟨st, hs1⟩ := hs.lam eN tk T1
    have le : CL1.Le ⟨fun a => if a = f then some (k0, cloFrom X.env.cells (T.la k0).scope.names [], ws) else CL1.clo a, CL1.exn⟩ H := ⟨fun a p φ q z => by
      show (if a = f then _ else _) = _
      rw [if_neg (ne_of_none q hnf)]
      exact z, fun _ _ z => z⟩
    refine k (.ref f) s1 H1 μ hd (.clo k0 ds) (.ref f) _ I1 st hs1 le ⟨fun g k cl ws' h => ?_⟩ ⟨f, c', _, ws, rfl, if_pos rfl, h1, h2, RAs.stp hs st _ _ (RAs.more le _ _ rw_)⟩ nx rfl w
    have h : (if g = f then some (k0, cloFrom X.env.cells (T.la k0).scope.names [], ws) else CL1.clo g) = some (k, cl, ws') := h
    split at h
    · cases h
      exact .inr ⟨js, cp, ew⟩
    · exact cn.clo g k cl ws' h
include hG
theorem ra_vl (he : PE X e (tI T CL G W m)) : ArgE X T CL G W (.vl m) e := fun pins s σ H ρ μ hd hi CL1 Qd Xd Q I hs rl rl1 cn w hx k =>
  thn (he.run pins s σ H (fun x H1 => ∃ μ1 hd1 d, Stp μ hd H μ1 hd1 H1 ∧ HS (T.hide hi) μ1 hd1 H1 ∧ R (T.hide hi) μ1 (Live μ1 hd1) H1 d x ∧ Qd d hd1) I (tI.mk hG hs rl (show wE G m ρ hd Qd Xd from w) hx fun μ1 hd1 H1 d x st hs1 r1 rl1 q => ⟨μ1, hd1, d, st, hs1, r1, q⟩))
    fun u s1 ⟨x, H1, I1, rx, μ1, hd1, d, st, hs1, r1, q⟩ => k u s1 H1 μ1 hd1 d x CL1 I1 st hs1 (.refl _ _) cn (RA.of r1) (noX_nc r1) rx q
theorem ra_cons (h1 : ArgE X T CL G W m e) (h2 : ArgP X T CL G W mr es) (hn : noStar (e :: es) = true) : ArgP X T CL G W (.cn m mr) (e :: es) := fun pos pins s σ H ρ μ hd hi CL1 Qd Xd Q I hs rl rl1 cn w hx k => by
  rw [(starEach_cons (env := X.env) hn).1]
  show wpAny _ _ (spliced ((false, eval e X.env) :: backTo pos (starEach es X.env))) _ _ _
  refine Calls.spliced_cons (h1 pins s σ H ρ μ hd hi CL1 _ Xd _ I hs rl rl1 cn w hx fun u s1 H1 μ1 hd1 d v CL2 I1 st1 hs1 le1 cn1 r1 nx rv w1 => ?_)
  refine h2 pos pins s1 σ H1 ρ μ1 hd1 hi CL2 _ Xd _ I1 hs1 (rl.stp hs st1) ((rl1.more le1).stp hs st1) cn1 w1 (fun x h z => Xx.stp st1 (hx x h z)) fun us s2 H2 μ2 hd2 ds vs CL3 I2 st2 hs2 le2 cn2 r2 nx2 rvs w2 => ?_
  exact k (u :: us) s2 H2 μ2 hd2 (d :: ds) (v :: vs) CL3 I2 (st1.trans st2) hs2 (CLs.Le.trans le1 hs st1 le2) cn2 ⟨v, vs, rfl, RA.stp hs1 st2 _ _ (RA.more le2 _ _ r1), r2⟩ (by show (noX d && noXs ds) = true; rw [nx, nx2]; rfl) (.cons rv rvs) w2
end
end Mi
set_option linter.all false
set_option maxRecDepth 100000
set_option maxHeartbeats 1000000
/-! Mi: calls. -/
namespace Mi
open PySem L2 PySem.Spec PyProof.Rows

/-- what a call of a def promises -/
def FnI (T : Tb) (P : Program) (w : World) (K : PySem.W.Frag) (mg : Str → Option Value) (base : Heap) (G : Gam) (k : Nat) : Prop :=
  ∀ (fi : Nat) (a : Addr), T.fa fi = some a → ∀ (A : Around) (outer : List Env) (s : Shared) (H : Hp) (args : Args) (us : List Value) (vs : List V) (Q : VK) (E : XK) (CL : CLs) (μ : List Addr) (hd : Hd) (hi : List Addr) (ds : List D),
    Room k A → Env0 P w K mg base A outer s H → BindsTo s (T.fd fi) args ((T.fp fi).zip us) → Vals vs us → HS (T.hide hi) μ hd H → RAs (T.hide hi) CL μ (Live μ hd) H ds vs → CL.exn = (fun _ => none) → CLok T CL s H →
    G.cf fi ds hd (Nx (T.hide hi) μ hd H Q) (Xx (T.hide hi) μ hd H E) → codeAny (model P w) A (.call (.ref a) args) (CR (L2.CX P w) outer P w H s Q E) s
/-- .. of a lambda -/
def LamI (T : Tb) (P : Program) (w : World) (K : PySem.W.Frag) (mg : Str → Option Value) (base : Heap) (G : Gam) (k : Nat) : Prop :=
  ∀ (k0 : Nat) (f c' : Addr) (cl : List (Str × Addr)) (A : Around) (outer : List Env) (s : Shared) (H : Hp) (us : List Value) (vs ws : List V) (Q : VK) (E : XK) (CL : CLs) (μ : List Addr) (hd : Hd) (hi : List Addr) (ds caps : List D),
    Room k A → Env0 P w K mg base A outer s H → H f = some (LamO f (T.la k0) cl c') → H c' = some (LamX.CodeO c' (T.la k0).q) → NdefX.CellsAt cl (T.la k0).fr (ws.map some) s.heap H → Vals vs us → HS (T.hide hi) μ hd H →
    RAs (T.hide hi) CL μ (Live μ hd) H ds vs → RAs (T.hide hi) CL μ (Live μ hd) H caps ws → CL.exn = (fun _ => none) → CLok T CL s H →
    G.cl k0 caps ds hd (Nx (T.hide hi) μ hd H Q) (Xx (T.hide hi) μ hd H E) → codeAny (model P w) A (.call (.ref f) ⟨us, []⟩) (CR (L2.CX P w) outer P w H s Q E) s

section
variable {X : Cx} {T : Tb} {CL : CLs} {G : Gam} {W : WX} {m mr : ME} {e : Expr} {es : List Expr} {kws : List Keyword} {k : Nat}
theorem run_call {pins : List (Addr × Obj)} {σ : L2.St} {H : Hp} {s : Shared} {Q : VK} {f : Value} {us : List Value} {kw : List (Str × Value)} (tk : Takes X W) (I : Inv X pins σ H s)
    (rc : codeAny (model X.prog X.w) X.A (.call f ⟨us, kw⟩) (CR (L2.CX X.prog X.w) X.stack X.prog X.w H s Q (fun c d H' => W c d σ H')) s) : wpAny (model X.prog X.w) X.A (call f us kw) (EP X pins σ Q) X.xe s := by
  refine wpAny_call (codeAny_mono rc fun r s' hq => ?_)
  cases r with
  | error e => exact tk e s' (XE.of_call I (fun cls d H' h => h) hq)
  | ok fl =>
    cases fl with
    | ret u => exact I.after hq
    | next => exact False.elim hq
    | brk => exact False.elim hq
    | cont => exact False.elim hq
theorem CLn.self {σ : L2.St} : CLn X T σ CL CL := ⟨fun _ _ _ _ h => .inl h⟩
variable (hG : GMono G)
include hG
theorem cf_run {fi : Nat} {a : Addr} (hf : FnI T X.prog X.w X.K X.mg X.base G k) (hr : Room k X.A) (tk : Takes X W) (hcl : CLx T CL X) (ha : T.fa fi = some a) {pins : List (Addr × Obj)} {σ : L2.St} {H H1 : Hp} {s1 : Shared} {Q : VK} {us : List Value} {kw : List (Str × Value)} {zs : List Value} {vs : List V} {CL2 : CLs} {μ μ1 : List Addr} {hd hd1 : Hd} {hi : List Addr} {ds : List D}
    (hb : BindsTo s1 (T.fd fi) ⟨us, kw⟩ ((T.fp fi).zip zs)) (I1 : Inv X pins σ H1 s1) (st : Stp μ hd H μ1 hd1 H1) (hs1 : HS (T.hide hi) μ1 hd1 H1) (cn : CLn X T σ CL CL2) (r : RAs (T.hide hi) CL2 μ1 (Live μ1 hd1) H1 ds vs) (nx : noXs ds = true) (rv : Vals vs zs)
    (q : G.cf fi ds hd1 (Nx (T.hide hi) μ hd H Q) (Xx (T.hide hi) μ hd H fun c d => W c d σ)) : wpAny (model X.prog X.w) X.A (call (.ref a) us kw) (EP X pins σ Q) X.xe s1 :=
  run_call tk I1 (hf fi a ha X.A X.stack s1 H1 ⟨us, kw⟩ zs vs Q _ ⟨CL2.clo, fun _ => none⟩ μ1 hd1 hi ds hr I1.env0 hb rv hs1 (RAs.drop ds vs nx r) rfl (cn.ok hcl I1) (hG.cf _ _ _ _ _ _ _ (fun d h z => Nx.stp st z) (fun x h z => Xx.stp st z) q))
theorem cl_run {k0 : Nat} {f c' : Addr} {cl : List (Str × Addr)} {ws : List V} {caps : List D} (hf : LamI T X.prog X.w X.K X.mg X.base G k) (hr : Room k X.A) (tk : Takes X W) (hcl : CLx T CL X) {pins : List (Addr × Obj)} {σ : L2.St} {H H1 : Hp} {s1 : Shared} {Q : VK} {us : List Value} {vs : List V} {CL2 : CLs} {μ μ1 : List Addr} {hd hd1 : Hd} {hi : List Addr} {ds : List D}
    (hc : CL.clo f = some (k0, cl, ws)) (h1 : H1 f = some (LamO f (T.la k0) cl c')) (h2 : H1 c' = some (LamX.CodeO c' (T.la k0).q)) (rc : RAs (T.hide hi) CL2 μ1 (Live μ1 hd1) H1 caps ws) (nc : noXs caps = true)
    (I1 : Inv X pins σ H1 s1) (st : Stp μ hd H μ1 hd1 H1) (hs1 : HS (T.hide hi) μ1 hd1 H1) (cn : CLn X T σ CL CL2) (r : RAs (T.hide hi) CL2 μ1 (Live μ1 hd1) H1 ds vs) (nx : noXs ds = true) (rv : Vals vs us)
    (q : G.cl k0 caps ds hd1 (Nx (T.hide hi) μ hd H Q) (Xx (T.hide hi) μ hd H fun c d => W c d σ)) : wpAny (model X.prog X.w) X.A (call (.ref f) us) (EP X pins σ Q) X.xe s1 :=
  run_call tk I1 (hf k0 f c' cl X.A X.stack s1 H1 us vs ws Q _ ⟨CL2.clo, fun _ => none⟩ μ1 hd1 hi ds caps hr I1.env0 h1 h2 (CLn.self.ok hcl I1 f k0 cl ws hc) rv hs1 (RAs.drop ds vs nx r) (RAs.drop caps ws nc rc) rfl (cn.ok hcl I1) (hG.cl _ _ _ _ _ _ _ _ (fun d h z => Nx.stp st z) (fun x h z => Xx.stp st z) q))
/-- f(a, ..) -/
theorem re_call {fi : Nat} {a : Addr} {x : Str} {p pos : Pos} (hf : FnI T X.prog X.w X.K X.mg X.base G k) (hr : Room k X.A) (tk : Takes X W) (hcl : CLx T CL X) (ha : T.fa fi = some a) (hg : Gl X x) (hm : X.mg x = some (.ref a)) (hk : PySem.W.keepIn X.K (.ref a) = true) (hdb : (x == ("__debug__" : Str)) = false)
    (hb : ∀ us : List Value, us.length = (T.fp fi).length → bindArgs (T.fd fi) ⟨us, []⟩ = pure ((T.fp fi).zip us)) (hl : ∀ ds hd Q E, G.cf fi ds hd Q E → ds.length = (T.fp fi).length) (hargs : ArgP X T CL G W m (e :: es)) (hn : noStar (e :: es) = true) :
    PE X (.Call (.Name x p) (e :: es) [] pos) (tI T CL G W (.call fi m)) := ⟨fun pins s σ H Q I ⟨hi, ρ, μ, hd, hs, rl, w⟩ => by
  refine wpAny_Call_Name_kw (ld_glob I hg hm ?_ hdb)
  obtain ⟨he, h2⟩ := starEach_cons (env := X.env) hn
  refine PySem.W.callWith_K (h₀ := X.base) I.ok.mod.kin hk (hargs pos pins s σ H ρ μ hd hi CL _ _ _ I hs rl rl .self w id_X fun us s1 H1 μ1 hd1 ds vs CL2 I1 st hs1 le cn r nx rv q => ⟨I1.kIn, ?_⟩) he (noStar_any h2)
  exact cf_run hG hf hr tk hcl ha (.of_eq (hb us (by rw [← hl _ _ _ _ q, ← RAs.length r, rv.length]))) I1 st hs1 cn r nx rv q⟩
theorem re_call0 {fi : Nat} {a : Addr} {x : Str} {p pos : Pos} (hf : FnI T X.prog X.w X.K X.mg X.base G k) (hr : Room k X.A) (tk : Takes X W) (hcl : CLx T CL X) (ha : T.fa fi = some a) (hg : Gl X x) (hm : X.mg x = some (.ref a)) (hk : PySem.W.keepIn X.K (.ref a) = true) (hdb : (x == ("__debug__" : Str)) = false)
    (hb : ∀ us : List Value, us.length = (T.fp fi).length → bindArgs (T.fd fi) ⟨us, []⟩ = pure ((T.fp fi).zip us)) (hl : ∀ ds hd Q E, G.cf fi ds hd Q E → ds.length = (T.fp fi).length) :
    PE X (.Call (.Name x p) [] [] pos) (tI T CL G W (.call fi .nl)) := ⟨fun pins s σ H Q I ⟨hi, ρ, μ, hd, hs, rl, w⟩ => by
  refine wpAny_Call_Name_kw (ld_glob I hg hm ?_ hdb)
  refine PySem.W.callWith_K0 I.kIn hk ?_
  have q : G.cf fi [] hd (Nx (T.hide hi) μ hd H Q) (Xx (T.hide hi) μ hd H fun c d => W c d σ) := w
  exact cf_run hG hf hr tk hcl ha (vs := []) (ds := []) (CL2 := CL) (.of_eq (hb [] (hl _ _ _ _ q))) I Stp.refl hs .self (show RAs (T.hide hi) CL μ (Live μ hd) H [] [] from rfl) rfl .nil q⟩
/-! ### keywords -/
/-- the keywords' values, one behind the other -/
def ArgK (X : Cx) (T : Tb) (CL : CLs) (G : Gam) (W : WX) (m : ME) (kws : List Keyword) : Prop :=
  ∀ (pos : Pos) (pins : List (Addr × Obj)) (s : Shared) (σ : L2.St) (H : Hp) (ρ : Mi.Loc) (μ : List Addr) (hd : Hd) (hi : List Addr) (CL1 : CLs) (Qd : List D → Hd → Prop) (Xd : KX) (Q : List Value → Shared → Prop),
    Inv X pins σ H s → HS (T.hide hi) μ hd H → RL (T.hide hi) CL μ hd H ρ σ → RL (T.hide hi) CL1 μ hd H ρ σ → CLn X T σ CL CL1 → wAs G m ρ hd Qd Xd → (∀ x h, Xd x h → Xx (T.hide hi) μ hd H (fun c a => W c a σ) x h) →
    (∀ us s1 H1 μ1 hd1 ds vs CL2, Inv X pins σ H1 s1 → Stp μ hd H μ1 hd1 H1 → HS (T.hide hi) μ1 hd1 H1 → CL1.Le CL2 H → CLn X T σ CL CL2 → RAs (T.hide hi) CL2 μ1 (Live μ1 hd1) H1 ds vs → noXs ds = true → Vals vs us → Qd ds hd1 → Q us s1) →
    wpAny (model X.prog X.w) X.A (evalAll ((backToKw pos (keywordEach kws X.env)).map (·.2))) Q X.xe s
omit hG in
theorem rk_nil : ArgK X T CL G W .nl [] := fun pos pins s σ H ρ μ hd hi CL1 Qd Xd Q I hs rl rl1 cn w hx k => wpAny_evalAll_nil (k [] s H μ hd [] [] CL1 I Stp.refl hs (.refl _ _) cn rfl rfl .nil w)
theorem rk_cons {nm : Option Str} {kp : Pos} (h1 : ArgE X T CL G W m e) (h2 : ArgK X T CL G W mr kws) : ArgK X T CL G W (.cn m mr) (⟨nm, e, kp⟩ :: kws) := fun pos pins s σ H ρ μ hd hi CL1 Qd Xd Q I hs rl rl1 cn w hx k => by
  show wpAny _ _ (evalAll ((do let v ← eval e X.env; standAt pos; pure v) :: (backToKw pos (keywordEach kws X.env)).map (·.2))) _ _ s
  refine wpAny_evalAll_cons (wpAny_bind (h1 pins s σ H ρ μ hd hi CL1 _ Xd _ I hs rl rl1 cn w hx fun u s1 H1 μ1 hd1 d v CL2 I1 st1 hs1 le1 cn1 r1 nx rv w1 => wpAny_bind (wpAny_standAt (wpAny_pure ?_))))
  refine h2 pos pins s1 σ H1 ρ μ1 hd1 hi CL2 _ Xd _ I1 hs1 (rl.stp hs st1) ((rl1.more le1).stp hs st1) cn1 w1 (fun x h z => Xx.stp st1 (hx x h z)) fun us s2 H2 μ2 hd2 ds vs CL3 I2 st2 hs2 le2 cn2 r2 nx2 rvs w2 => ?_
  exact k (u :: us) s2 H2 μ2 hd2 (d :: ds) (v :: vs) CL3 I2 (st1.trans st2) hs2 (CLs.Le.trans le1 hs st1 le2) cn2 ⟨v, vs, rfl, RA.stp hs1 st2 _ _ (RA.more le2 _ _ r1), r2⟩ (by show (noX d && noXs ds) = true; rw [nx, nx2]; rfl) (.cons rv rvs) w2
def kwNames : List Keyword → List Str
  | [] => []
  | ⟨some x, _, _⟩ :: r => x :: kwNames r
  | ⟨none, _, _⟩ :: r => kwNames r
def kwOk : List Keyword → Bool
  | [] => true
  | ⟨some _, _, _⟩ :: r => kwOk r
  | ⟨none, _, _⟩ :: _ => false
omit hG in
theorem kw_all {env : Env} {pos : Pos} : ∀ {kws : List Keyword}, kwOk kws = true → (backToKw pos (keywordEach kws env)).all (·.1.isSome) = true ∧ (backToKw pos (keywordEach kws env)).filterMap (·.1) = kwNames kws ∧ (backToKw pos (keywordEach kws env)).any (·.1.isNone) = false
  | [], _ => ⟨rfl, rfl, rfl⟩
  | ⟨some x, v, p⟩ :: r, h => by
    obtain ⟨h1, h2, h3⟩ := kw_all (env := env) (pos := pos) (kws := r) h
    refine ⟨?_, ?_, ?_⟩
    · show (true && (backToKw pos (keywordEach r env)).all (·.1.isSome)) = true
      rw [h1]; rfl
    · show x :: (backToKw pos (keywordEach r env)).filterMap (·.1) = x :: kwNames r
      rw [h2]
    · show (false || (backToKw pos (keywordEach r env)).any (·.1.isNone)) = false
      rw [h3]; rfl
  | ⟨none, v, p⟩ :: r, h => by cases h
/-- f(k = a, ..) -/
theorem re_callK {fi : Nat} {a : Addr} {x : Str} {p pos : Pos} (hf : FnI T X.prog X.w X.K X.mg X.base G k) (hr : Room k X.A) (tk : Takes X W) (hcl : CLx T CL X) (ha : T.fa fi = some a) (hg : Gl X x) (hm : X.mg x = some (.ref a)) (hk : PySem.W.keepIn X.K (.ref a) = true) (hdb : (x == ("__debug__" : Str)) = false)
    (hb : ∀ us : List Value, us.length = (T.fp fi).length → bindArgs (T.fd fi) ⟨[], (T.fp fi).zip us⟩ = pure ((T.fp fi).zip us)) (hl : ∀ ds hd Q E, G.cf fi ds hd Q E → ds.length = (T.fp fi).length) (hargs : ArgK X T CL G W m kws) (hn : kwOk kws = true) (hnm : kwNames kws = T.fp fi) :
    PE X (.Call (.Name x p) [] kws pos) (tI T CL G W (.call fi m)) := ⟨fun pins s σ H Q I ⟨hi, ρ, μ, hd, hs, rl, w⟩ => by
  refine wpAny_Call_Name_kw (ld_glob I hg hm ?_ hdb)
  obtain ⟨h1, h2, h3⟩ := kw_all (env := X.env) (pos := pos) hn
  refine PySem.W.callWith_KW0 (h₀ := X.base) I.ok.mod.kin hk h1 (hargs pos pins s σ H ρ μ hd hi CL _ _ _ I hs rl rl .self w id_X fun us s1 H1 μ1 hd1 ds vs CL2 I1 st hs1 le cn r nx rv q => ⟨I1.kIn, ?_⟩) (by show (false || _) = false; rw [h3]; rfl)
  rw [h2, hnm]
  exact cf_run hG hf hr tk hcl ha (.of_eq (hb us (by rw [← hl _ _ _ _ q, ← RAs.length r, rv.length]))) I1 st hs1 cn r nx rv q⟩
/-! ### what a name holds is called -/
omit hG in
theorem lam_fnAt {pins : List (Addr × Obj)} {σ : L2.St} {H : Hp} {s : Shared} {f c' : Addr} {L : LaC} {cl : List (Str × Addr)} (I : Inv X pins σ H s) (e : H f = some (LamO f L cl c')) : PySem.W.FnAt f s.heap := by
  obtain ⟨⟨pm, ctv, z⟩, _, _⟩ := I.hok f _ e
  exact ⟨_, _, _, _, z⟩
/-- what is asked of a def that is handed on -/
def HandOk (X : Cx) (T : Tb) (G : Gam) : Prop := ∀ (fi : Nat) (a : Addr), T.fa fi = some a → PySem.W.keepIn X.K (.ref a) = true ∧ (∀ us : List Value, us.length = (T.fp fi).length → bindArgs (T.fd fi) ⟨us, []⟩ = pure ((T.fp fi).zip us)) ∧ ∀ ds hd Q E, G.cf fi ds hd Q E → ds.length = (T.fp fi).length
theorem re_clv {i : Nat} {x : Str} {p pos : Pos} (hf : FnI T X.prog X.w X.K X.mg X.base G k) (hla : LamI T X.prog X.w X.K X.mg X.base G k) (hho : HandOk X T G) (hr : Room k X.A) (tk : Takes X W) (hcl : CLx T CL X) (hN : X.N[i]? = some x) (hv : Vis X.env.scope x) (hd : (x == ("__debug__" : Str)) = false) (hcd : (x == ("__classdict__" : Str)) = false)
    (hargs : ArgP X T CL G W m (e :: es)) (hn : noStar (e :: es) = true) : PE X (.Call (.Name x p) (e :: es) [] pos) (tI T CL G W (.clv i m)) := ⟨fun pins s σ H Q I ⟨hi, ρ, μ, hd', hs, rl, w⟩ => by
  obtain ⟨d, e1, w⟩ := opt_get w
  obtain ⟨v, e2, r⟩ := rl.get e1
  refine wpAny_Call_Name_kw (thn ((pe_var (pos := p) hN hv hd hcd).run pins s σ H (fun y H1 => y = v ∧ H1 = H) I ⟨v, e2, rfl, rfl⟩) fun u s0 ⟨y, H0, I0, r1, q1, q2⟩ => ?_)
  subst q1
  subst q2
  obtain ⟨he, h2⟩ := starEach_cons (env := X.env) hn
  cases d <;> first | exact (show False from w).elim | skip
  · rename_i fi
    obtain ⟨a, ha, rfl⟩ := (show ∃ a, T.fa fi = some a ∧ y = .ref a from r)
    cases r1
    obtain ⟨hk, hb, hl⟩ := hho fi a ha
    refine PySem.W.callWith_K (h₀ := X.base) I0.ok.mod.kin hk (hargs pos pins s0 σ _ ρ μ hd' hi CL _ _ _ I0 hs rl rl .self w id_X fun us s1 H1 μ1 hd1 ds vs CL2 I1 st hs1 le cn r nx rv q => ⟨I1.kIn, ?_⟩) he (noStar_any h2)
    exact cf_run hG hf hr tk hcl ha (.of_eq (hb us (by rw [← hl _ _ _ _ q, ← RAs.length r, rv.length]))) I1 st hs1 cn r nx rv q
  · rename_i k0 caps
    obtain ⟨f, c', cl, ws, rfl, hc, h3, h4, h5⟩ := r
    cases r1
    obtain ⟨nc, w⟩ := (show noXs caps = true ∧ _ from w)
    refine PySem.W.callWith_F (first := []) (lam_fnAt I0 h3) (hargs pos pins s0 σ _ ρ μ hd' hi CL _ _ _ I0 hs rl rl .self w id_X fun us s1 H1 μ1 hd1 ds vs CL2 I1 st hs1 le cn r nx rv q => ⟨lam_fnAt I1 (ext_kp hs st h3), ?_⟩) he (noStar_any h2)
    exact cl_run hG hla hr tk hcl hc (ext_kp hs st h3) (ext_kp hs st h4) (RAs.stp hs st _ _ (RAs.more le _ _ h5)) nc I1 st hs1 cn r nx rv q⟩
theorem re_clv0 {i : Nat} {x : Str} {p pos : Pos} (hf : FnI T X.prog X.w X.K X.mg X.base G k) (hla : LamI T X.prog X.w X.K X.mg X.base G k) (hho : HandOk X T G) (hr : Room k X.A) (tk : Takes X W) (hcl : CLx T CL X) (hN : X.N[i]? = some x) (hv : Vis X.env.scope x) (hd : (x == ("__debug__" : Str)) = false) (hcd : (x == ("__classdict__" : Str)) = false) :
    PE X (.Call (.Name x p) [] [] pos) (tI T CL G W (.clv i .nl)) := ⟨fun pins s σ H Q I ⟨hi, ρ, μ, hd', hs, rl, w⟩ => by
  obtain ⟨d, e1, w⟩ := opt_get w
  obtain ⟨v, e2, r⟩ := rl.get e1
  refine wpAny_Call_Name_kw (thn ((pe_var (pos := p) hN hv hd hcd).run pins s σ H (fun y H1 => y = v ∧ H1 = H) I ⟨v, e2, rfl, rfl⟩) fun u s0 ⟨y, H0, I0, r1, q1, q2⟩ => ?_)
  subst q1
  subst q2
  cases d <;> first | exact (show False from w).elim | skip
  · rename_i fi
    obtain ⟨a, ha, rfl⟩ := (show ∃ a, T.fa fi = some a ∧ y = .ref a from r)
    cases r1
    obtain ⟨hk, hb, hl⟩ := hho fi a ha
    refine PySem.W.callWith_K0 I0.kIn hk ?_
    have q : G.cf fi [] hd' (Nx (T.hide hi) μ hd' H0 Q) (Xx (T.hide hi) μ hd' H0 fun c d => W c d σ) := w
    exact cf_run hG hf hr tk hcl ha (vs := []) (ds := []) (CL2 := CL) (.of_eq (hb [] (hl _ _ _ _ q))) I0 Stp.refl hs .self (show RAs (T.hide hi) CL μ (Live μ hd') H0 [] [] from rfl) rfl .nil q
  · rename_i k0 caps
    obtain ⟨f, c', cl, ws, rfl, hc, h3, h4, h5⟩ := r
    cases r1
    obtain ⟨nc, w⟩ := (show noXs caps = true ∧ _ from w)
    refine PySem.W.callWith_F0 (first := []) (lam_fnAt I0 h3) ?_
    have q : G.cl k0 caps [] hd' (Nx (T.hide hi) μ hd' H0 Q) (Xx (T.hide hi) μ hd' H0 fun c d => W c d σ) := w
    exact cl_run hG hla hr tk hcl hc h3 h4 h5 nc I0 Stp.refl hs .self (show RAs (T.hide hi) CL μ (Live μ hd') H0 [] [] from rfl) rfl .nil q⟩
end
end Mi
set_option linter.all false
set_option maxRecDepth 100000
set_option maxHeartbeats 1000000
/-! Mi: statements. -/
namespace Mi
open PySem L2 PySem.Spec PyProof.Rows

def NxS (T : Tb) (CL : CLs) (μ : List Addr) (hd : Hd) (H : Hp) (N : L2.St → Hp → Prop) : Mi.Loc → Hd → Prop := fun ρ' hd' => ∀ μ' H' σ', Stp μ hd H μ' hd' H' → HS T μ' hd' H' → RL T CL μ' hd' H' ρ' σ' → N σ' H'
def XxS (T : Tb) (CL : CLs) (μ : List Addr) (hd : Hd) (H : Hp) (W : WX) : Mi.Loc → KX := fun ρ' x hd' => ∀ μ' H' σ' C a ws, Stp μ hd H μ' hd' H' → HS T μ' hd' H' → RL T CL μ' hd' H' ρ' σ' → T.ca x.c = some C → H' a = some (.xd ((T.cf x.c).zip ws).reverse) → Rs T μ' (Live μ' hd') H' x.ds ws → W (.ref C) (some a) σ' H'
def EnX (T : Tb) (CL : CLs) (μ : List Addr) (hd : Hd) (H : Hp) (D : Ends) (W : WX) : En := { nx := NxS T CL μ hd H D.nx, rt := Nx T μ hd H D.rt, bk := NxS T CL μ hd H D.bk, ct := NxS T CL μ hd H D.ct, ex := XxS T CL μ hd H W }
def tS (T : Tb) (CL : CLs) (G : Gam) (W : WX) (m : MS) : TS := fun D σ H => ∃ hi ρ μ hd, HS (T.hide hi) μ hd H ∧ RL (T.hide hi) CL μ hd H ρ σ ∧ wS G m ρ hd (EnX (T.hide hi) CL μ hd H D W)
theorem PS.wk {X : Cx} {e : Stmt} {t t' : TS} (h : PS X e t) (w : ∀ D σ H, t' D σ H → t D σ H) : PS X e t' := ⟨fun pins s σ H D I q => h.run pins s σ H D I (w D σ H q)⟩
theorem PSs.wk {X : Cx} {e : List Stmt} {t t' : TS} (h : PSs X e t) (w : ∀ D σ H, t' D σ H → t D σ H) : PSs X e t' := ⟨fun pins s σ H D I q => h.run pins s σ H D I (w D σ H q)⟩
section
variable {T : Tb} {CL : CLs} {μ μ' : List Addr} {hd hd' hd2 : Hd} {H H' : Hp} {N N' : L2.St → Hp → Prop} {W : WX} {ρ : Mi.Loc}
theorem NxS.stp (s : Stp μ hd H μ' hd' H') (h : NxS T CL μ hd H N ρ hd2) : NxS T CL μ' hd' H' N ρ hd2 := fun μ2 H2 σ2 s2 hs rl => h μ2 H2 σ2 (s.trans s2) hs rl
theorem XxS.stp {x : Ex} (s : Stp μ hd H μ' hd' H') (h : XxS T CL μ hd H W ρ x hd2) : XxS T CL μ' hd' H' W ρ x hd2 := fun μ2 H2 σ2 C a ws s2 hs rl => h μ2 H2 σ2 C a ws (s.trans s2) hs rl
theorem NxS.now {σ : L2.St} (n : NxS T CL μ hd H N ρ hd) (hs : HS T μ hd H) (rl : RL T CL μ hd H ρ σ) : N σ H := n μ H σ Stp.refl hs rl
theorem XxS.xx {σ : L2.St} (hs : HS T μ hd H) (rl : RL T CL μ hd H ρ σ) : ∀ x h, XxS T CL μ hd H W ρ x h → Xx T μ hd H (fun c a => W c a σ) x h := fun x h n μ' H' C a ws st hs' e1 e2 e3 => n μ' H' σ C a ws st hs' (rl.stp hs st) e1 e2 e3
theorem EnX.le (s : Stp μ hd H μ' hd' H') (D : Ends) : (EnX T CL μ hd H D W).Le (EnX T CL μ' hd' H' D W) := ⟨fun _ _ q => NxS.stp s q, fun _ _ q => Nx.stp s q, fun _ _ q => NxS.stp s q, fun _ _ q => NxS.stp s q, fun _ _ _ q => XxS.stp s q⟩
end
section
variable {X : Cx} {T : Tb} {CL : CLs} {G : Gam} {W : WX} {m m2 : ME} {a b : MS} {e e2 : Expr} {st : Stmt} {l l2 : List Stmt} {pos : Pos} {p : Pat}
theorem rs_nil : PSs X [] (tS T CL G W .skip) := PSs.wk pss_nil fun D σ H ⟨hi, ρ, μ, hd, hs, rl, w⟩ => NxS.now w hs rl
variable (hG : GMono G)
include hG
theorem tS.mk {σ : L2.St} {H : Hp} {ρ : Mi.Loc} {μ : List Addr} {hd : Hd} {hi : List Addr} {D : Ends} {Kd : En} (hs : HS (T.hide hi) μ hd H) (rl : RL (T.hide hi) CL μ hd H ρ σ) (w : wS G a ρ hd Kd) (le : Kd.Le (EnX (T.hide hi) CL μ hd H D W)) : tS T CL G W a D σ H :=
  ⟨hi, ρ, μ, hd, hs, rl, (moS hG a).s ρ hd _ _ le w⟩
theorem rs_cons (h1 : PS X st (tS T CL G W a)) (h2 : PSs X l (tS T CL G W b)) : PSs X (st :: l) (tS T CL G W (.sq a b)) :=
  PSs.wk (pss_cons h1 h2) fun D σ H ⟨hi, ρ, μ, hd, hs, rl, w⟩ => tS.mk (D := { D with nx := tS T CL G W b D }) hG hs rl (show wS G a ρ hd { EnX (T.hide hi) CL μ hd H D W with nx := fun ρ h => wS G b ρ h (EnX (T.hide hi) CL μ hd H D W) } from w)
    ⟨fun ρ1 hd1 q μ1 H1 σ1 st hs1 rl1 => tS.mk hG hs1 rl1 q (EnX.le st D), fun _ _ q => q, fun _ _ q => q, fun _ _ q => q, fun _ _ _ q => q⟩
omit hG in
theorem ref_any {hd : Hd} {x : D} {P : Nat → Prop} (h : onR x P) : ∃ n, x = .ref n ∧ P n := by
  cases x <;> first | exact (show False from h).elim | exact ⟨_, rfl, h⟩
theorem rs_frz {i : Nat} (h2 : PSs X l (tS T CL G W b)) : PSs X l (tS T CL G W (.sq (.frz i) b)) :=
  PSs.wk h2 fun D σ H ⟨hi, ρ, μ, hd, hs, rl, w⟩ => by
    obtain ⟨x, e1, w⟩ := opt_get (show opt (getL ρ i) _ from w)
    obtain ⟨n, zs, rfl, ho, w⟩ := ref_lst (P := fun xs n => wS G b (ρ.set i (some (.lst xs))) (hd.set n .dead) (EnX (T.hide hi) CL μ hd H D W)) w
    obtain ⟨v, e2, r⟩ := rl.get e1
    obtain ⟨p, ea, rfl⟩ := (show ∃ a, μ[n]? = some a ∧ v = .ref a from r)
    obtain ⟨hs1, nl⟩ := hs.dead ho rfl ea
    have sp : Stp μ hd H μ (hd.set n .dead) H := Stp.dead ho rfl ea
    obtain ⟨ys, h1, h2'⟩ := hs.lst ho ea
    have nh : p ∉ (T.hide hi).hid := fun hp => (hs.hidp p hp).2 ⟨n, _, ho, rfl, ea⟩
    have rl1 := (rl.stp hs sp)
    refine tS.mk hG hs1 (rl := ?_) w (EnX.le sp D)
    have := rl1.set (i := i) (d := .lst zs) (v := .ref p) (RA.of ⟨p, ys, rfl, h1, ⟨nl, nh⟩, Rs.stp hs sp _ _ h2'⟩)
    have e3 : σ.set i (some (.ref p)) = σ := by
      refine List.ext_getElem? fun j => ?_
      by_cases hj : i = j
      · subst hj
        rw [e2, List.getElem?_set_self (List.getElem?_eq_some_iff.mp e2).1]
      · rw [List.getElem?_set_ne hj]
    rw [e3] at this
    exact this
/-! ### names that are set -/
theorem rs_asg {tg : Expr} (he : PE X e (tI T CL G W m)) (hg : PG X tg (gP T CL p)) (h1 : swapsWithSole [tg] e pos.line X.env = pure false) (h2 : swappedStores [tg] e X.env = pure none) (h3 : (assignEach [tg] X.env).map (·.2) = [assign tg X.env]) : PS X (.Assign [tg] e pos) (tS T CL G W (.set p m)) :=
  PS.wk (ps_asg he hg h1 h2 h3) fun D σ H ⟨hi, ρ, μ, hd, hs, rl, w⟩ => tI.mk hG hs rl (show wE G m ρ hd (fun d h => opt (bindP p d ρ) fun ρ' => NxS (T.hide hi) CL μ hd H D.nx ρ' h) (XxS (T.hide hi) CL μ hd H W ρ) from w) (XxS.xx hs rl) fun μ1 hd1 H1 d x st hs1 r1 rl1 q =>
    ⟨hi, ρ, μ1, hd1, d, hs1, rl1, r1, opt_mono (fun ρ' n σ' _ rl' => n μ1 H1 σ' st hs1 rl') q⟩
theorem bind2 {i j : Nat} {ds : List D} {ρ ρ' : Mi.Loc} (h : bindP (.tp (.cn (.nm i) (.cn (.nm j) .nl))) (.tup ds) ρ = some ρ') : ∃ d e, ds = [d, e] ∧ ρ' = (ρ.set i (some d)).set j (some e) := by
  cases ds with
  | nil => simp [bindP, bindPs] at h
  | cons d ds =>
    cases ds with
    | nil =>
      simp only [bindP, bindPs] at h
      split at h
      · cases h
      · cases h
    | cons e ds =>
      cases ds with
      | nil =>
        refine ⟨d, e, rfl, ?_⟩
        simp only [bindP, bindPs] at h
        split at h
        · rename_i h1
          split at h1
          · cases h1
            split at h
            · rename_i h2
              split at h2
              · cases h2
                cases h
                rfl
              · cases h2
            · cases h
          · cases h1
        · cases h
      | cons f ds =>
        simp only [bindP, bindPs] at h
        split at h
        · split at h
          · cases h
          · cases h
        · cases h
theorem rs_par {i j : Nat} {x y : Str} {px py pt : Pos} {kt k2 : Nat} {pt2 : Pos} {l : List Expr} {ea eb : Expr} (hc : X.calm = true) (hN : X.N.Nodup) (hi : X.N[i]? = some x) (hj : X.N[j]? = some y) (hij : i ≠ j)
    (hx : X.env.scope.names.lookup x = some .local) (hy : X.env.scope.names.lookup y = some .local) (ha : PA X [ea, eb] (tL T CL G W m))
    (hw : X.env.scope.kind = .function → swappedStores [.Tuple [.Name x px, .Name y py] kt pt] (.Tuple [ea, eb] k2 pt2) X.env = pure (some [x, y])) :
    PS X (.Assign [.Tuple [.Name x px, .Name y py] kt pt] (.Tuple [ea, eb] k2 pt2) pos) (tS T CL G W (.set (.tp (.cn (.nm i) (.cn (.nm j) .nl))) (.tup m))) := by
  refine ⟨fun pins s σ H D I h => (PS.wk (ps_par hc hN hi hj hij hx hy ha (hw I.ok.kind)) fun D σ H ⟨hi, ρ, μ, hd, hs, rl, w⟩ => ?_).run pins s σ H D I h⟩
  refine tL.mk hG hs rl (show wEs G m ρ hd (fun ds h => ds.length ≤ sizeMax ∧ opt (bindP _ (.tup ds) ρ) fun ρ' => NxS (T.hide hi) CL μ hd H D.nx ρ' h) (XxS (T.hide hi) CL μ hd H W ρ) from w) (XxS.xx hs rl) fun μ1 hd1 H1 ds xs st hs1 r1 rl1 q => ?_
  obtain ⟨ρ', e, n⟩ := opt_get q.2
  obtain ⟨d, f, rfl, rfl⟩ := bind2 hG e
  obtain ⟨u, v, rfl, ru, rv⟩ := Rs.two r1
  exact ⟨u, v, rfl, n μ1 H1 _ st hs1 ((rl1.set (RA.of ru)).set (RA.of rv))⟩
/-! ### small statements -/
theorem rs_exp (he : PE X e (tI T CL G W m)) (h1 : swapsWith e none pos.line X.env = pure false) : PS X (.Expr e pos) (tS T CL G W (.exp m)) :=
  PS.wk (ps_expr he h1) fun D σ H ⟨hi, ρ, μ, hd, hs, rl, w⟩ => tI.mk hG hs rl (show wE G m ρ hd (fun _ h => NxS (T.hide hi) CL μ hd H D.nx ρ h) (XxS (T.hide hi) CL μ hd H W ρ) from w) (XxS.xx hs rl) fun μ1 hd1 H1 d x st hs1 r1 rl1 q => q μ1 H1 σ st hs1 rl1
theorem rs_ret (he : PE X e (tI T CL G W m)) : PS X (.Return (some e) pos) (tS T CL G W (.ret m)) :=
  PS.wk (ps_ret he) fun D σ H ⟨hi, ρ, μ, hd, hs, rl, w⟩ => tI.mk hG hs rl (show wE G m ρ hd (Nx (T.hide hi) μ hd H D.rt) (XxS (T.hide hi) CL μ hd H W ρ) from w) (XxS.xx hs rl) fun μ1 hd1 H1 d x st hs1 r1 rl1 q => Nx.now (Nx.stp st q) hs1 r1
omit hG in
theorem rs_retn : PS X (.Return none pos) (tS T CL G W .retn) := PS.wk ps_retN fun D σ H ⟨hi, ρ, μ, hd, hs, rl, w⟩ => Nx.now (show Nx (T.hide hi) μ hd H D.rt .non hd from w) hs rfl
omit hG in
theorem rs_pass : PS X (.Pass pos) (tS T CL G W .skip) := PS.wk ps_pass fun D σ H ⟨hi, ρ, μ, hd, hs, rl, w⟩ => NxS.now w hs rl
omit hG in
theorem rs_brk : PS X (.Break pos) (tS T CL G W .brk) := PS.wk ps_break fun D σ H ⟨hi, ρ, μ, hd, hs, rl, w⟩ => NxS.now (show NxS _ _ _ _ _ D.bk ρ hd from w) hs rl
omit hG in
theorem rs_cnt : PS X (.Continue pos) (tS T CL G W .cnt) := PS.wk ps_continue fun D σ H ⟨hi, ρ, μ, hd, hs, rl, w⟩ => NxS.now (show NxS _ _ _ _ _ D.ct ρ hd from w) hs rl
theorem rs_if (hc : PT X e (tT T CL G W m)) (ha : PSs X l (tS T CL G W a)) (hb : PSs X l2 (tS T CL G W b)) : PS X (.If e l l2 pos) (tS T CL G W (.ifS m a b)) :=
  PS.wk (ps_if hc ha hb) fun D σ H ⟨hi, ρ, μ, hd, hs, rl, w⟩ => tT.mk hG hs rl (show wT G m ρ hd (fun c h => if c = true then wS G a ρ h (EnX (T.hide hi) CL μ hd H D W) else wS G b ρ h (EnX (T.hide hi) CL μ hd H D W)) (XxS (T.hide hi) CL μ hd H W ρ) from w) (XxS.xx hs rl) fun μ1 hd1 H1 c st hs1 rl1 q => by
    cases c with
    | true => exact tS.mk hG hs1 rl1 q (EnX.le st D)
    | false => exact tS.mk hG hs1 rl1 q (EnX.le st D)
/-! ### loops -/
theorem rs_while (hp : PassesOwn (model X.prog X.w) X.A X.env X.xe) (hc : PT X e (tT T CL G W m)) (hb : PSs X l (tS T CL G W b)) : PS X (.While e l [] pos) (tS T CL G W (.whl m b)) :=
  PS.wk (ps_while hp hc hb) fun D σ H ⟨hi, ρ, μ, hd, hs, rl, w⟩ => by
    obtain ⟨n0, w⟩ := (show ∃ n, whlN (fun ρ h Q => wT G m ρ h Q (XxS (T.hide hi) CL μ hd H W ρ)) (fun ρ h N => wS G b ρ h { EnX (T.hide hi) CL μ hd H D W with nx := N, ct := N, bk := NxS (T.hide hi) CL μ hd H D.nx }) n ρ hd (NxS (T.hide hi) CL μ hd H D.nx) from w)
    refine ⟨fun n σ1 H1 => ∃ ρ1 μ1 hd1, Stp μ hd H μ1 hd1 H1 ∧ HS (T.hide hi) μ1 hd1 H1 ∧ RL (T.hide hi) CL μ1 hd1 H1 ρ1 σ1 ∧ whlN (fun ρ h Q => wT G m ρ h Q (XxS (T.hide hi) CL μ hd H W ρ)) (fun ρ h N => wS G b ρ h { EnX (T.hide hi) CL μ hd H D W with nx := N, ct := N, bk := NxS (T.hide hi) CL μ hd H D.nx }) n ρ1 hd1 (NxS (T.hide hi) CL μ hd H D.nx),
      ⟨n0, ρ, μ, hd, Stp.refl, hs, rl, w⟩, ?_⟩
    rintro n σ1 H1 ⟨ρ1, μ1, hd1, st1, hs1, rl1, w1⟩
    cases n with
    | zero => exact w1.elim
    | succ n =>
      refine tT.mk hG hs1 rl1 w1 (fun x h q => XxS.xx hs1 rl1 x h (XxS.stp st1 q)) fun μ2 hd2 H2 c st2 hs2 rl2 q => ?_
      cases c with
      | false => exact NxS.now (NxS.stp (st1.trans st2) q) hs2 rl2
      | true =>
        refine ⟨fun σ' H' => ∃ ρ1 μ1 hd1, Stp μ hd H μ1 hd1 H' ∧ HS (T.hide hi) μ1 hd1 H' ∧ RL (T.hide hi) CL μ1 hd1 H' ρ1 σ' ∧ whlN (fun ρ h Q => wT G m ρ h Q (XxS (T.hide hi) CL μ hd H W ρ)) (fun ρ h N => wS G b ρ h { EnX (T.hide hi) CL μ hd H D W with nx := N, ct := N, bk := NxS (T.hide hi) CL μ hd H D.nx }) n ρ1 hd1 (NxS (T.hide hi) CL μ hd H D.nx),
          fun σ' H' q' => ⟨n, Nat.lt_succ_self n, q'⟩, ?_⟩
        refine tS.mk hG hs2 rl2 q ⟨fun ρ3 hd3 q3 μ3 H3 σ3 st3 hs3 rl3 => ?_, fun _ _ q3 => Nx.stp (st1.trans st2) q3, fun _ _ q3 => NxS.stp (st1.trans st2) q3, fun ρ3 hd3 q3 μ3 H3 σ3 st3 hs3 rl3 => ?_, fun _ _ _ q3 => XxS.stp (st1.trans st2) q3⟩
        · exact ⟨ρ3, μ3, hd3, (st1.trans st2).trans st3, hs3, rl3, q3⟩
        · exact ⟨ρ3, μ3, hd3, (st1.trans st2).trans st3, hs3, rl3, q3⟩
theorem rs_for {tg iter : Expr} {mi : ME} (hp : PassesOwn (model X.prog X.w) X.A X.env X.xe) (hc : X.calm = true) (hit : PI X tg iter (tJ T CL G W mi)) (hg : PG X tg (gP T CL p)) (hb : PSs X l (tS T CL G W b)) (hf : ∀ x, foldedSetIterable iter X.env x = pure x) :
    PS X (.For tg iter l [] pos) (tS T CL G W (.forS p mi b)) :=
  PS.wk (ps_for hp hc hit hg hb hf) fun D σ H ⟨hi, ρ, μ, hd, hs, rl, w⟩ => tJ.mk hG hs rl
    (show wI G mi ρ hd (fun items st h => forL (fun d ρ h N => opt (bindP p d ρ) fun ρ' => wS G b ρ' h { EnX (T.hide hi) CL μ hd H D W with nx := N, ct := N, bk := NxS (T.hide hi) CL μ hd H D.nx }) st items ρ h (NxS (T.hide hi) CL μ hd H D.nx)) (XxS (T.hide hi) CL μ hd H W ρ) from w) (XxS.xx hs rl)
    fun μ1 hd1 H1 items st J sp1 hs1 rl1 wd w1 => by
      have hh : HidOk (T.hide hi) H1 hi := fun a ha => .inl ha
      let step := (fun (d : Mi.D) (ρ : Mi.Loc) (h : Hd) (N : Mi.Loc → Hd → Prop) => opt (bindP p d ρ) fun ρ' => wS G b ρ' h { EnX (T.hide hi) CL μ hd H D W with nx := N, ct := N, bk := NxS (T.hide hi) CL μ hd H D.nx })
      let Inv_ := fun (i : Nat) (σ2 : L2.St) (H2 : Hp) => ∃ ρ2 μ2 hd2, Stp μ1 hd1 H1 μ2 hd2 H2 ∧ HS (T.hide hi) μ2 hd2 H2 ∧ RL (T.hide hi) CL μ2 hd2 H2 ρ2 σ2 ∧ forL step st (items.drop i) ρ2 hd2 (NxS (T.hide hi) CL μ hd H D.nx)
      refine ⟨fun i m σ2 H2 => m = items.length - i ∧ i ≤ items.length ∧ Inv_ i σ2 H2, ⟨items.length, rfl, Nat.zero_le _, ρ, μ1, hd1, Stp.refl, hs1, rl1, by simpa using w1⟩, ?_⟩
      rintro i m σ2 H2 ⟨rfl, hi2, ρ2, μ2, hd2, sp2, hs2, rl2, w2⟩
      by_cases hlt : i < items.length
      · obtain ⟨d, hd'⟩ := get_lt hlt
        rw [List.drop_eq_getElem_cons hlt] at w2
        have hd'' : items[i] = d := by
          have := List.getElem?_eq_getElem hlt
          rw [this] at hd'
          exact Option.some.inj hd'
        rw [hd''] at w2
        obtain ⟨hst, w2⟩ := w2
        refine .inr ⟨wd.goes i μ2 hd2 H2 hi hh hlt sp2 hs2 hst, Inv_ (i + 1), fun σ3 H3 q => ⟨items.length - (i + 1), by omega, rfl, hlt, q⟩, fun x H3 hy => ?_⟩
        obtain ⟨sp3, hs3, r3⟩ := wd.yields i d μ2 hd2 H2 x H3 hi hh hd' sp2 hs2 hst hy
        obtain ⟨ρ', hbd, w3⟩ := opt_get w2
        refine ⟨hi, ρ2, μ2, hd2, d, hs3, rl2.stp hs2 sp3, r3, ?_⟩
        rw [hbd]
        intro σ' _ rl4
        have sp13 := sp1.trans (sp2.trans sp3)
        refine tS.mk hG hs3 rl4 w3 ⟨fun ρ3 hd3 q3 μ3 H4 σ3 st3 hs4 rl3 => ?_, fun _ _ q3 => Nx.stp sp13 q3, fun _ _ q3 => NxS.stp sp13 q3, fun ρ3 hd3 q3 μ3 H4 σ3 st3 hs4 rl3 => ?_, fun _ _ _ q3 => XxS.stp sp13 q3⟩
        · exact ⟨ρ3, μ3, hd3, (sp2.trans sp3).trans st3, hs4, rl3, q3⟩
        · exact ⟨ρ3, μ3, hd3, (sp2.trans sp3).trans st3, hs4, rl3, q3⟩
      · have e : i = items.length := by omega
        subst e
        rw [List.drop_length] at w2
        obtain ⟨hst, w2⟩ := w2
        exact .inl ⟨wd.stops _ μ2 hd2 H2 hi hh rfl sp2 hs2 hst, NxS.now (NxS.stp (sp1.trans sp2) w2) hs2 rl2⟩
/-! ### places, names that are changed -/
omit hG in
theorem setW_get {h : Hd} {x y d : D} {N : Hd → Prop} (w : setW h x y d N) : ∃ n k xs j, x = .ref n ∧ y = .int k ∧ h[n]? = some (.lst xs) ∧ ixAt xs.length k = some j ∧ N (h.set n (.lst (xs.set j d))) := by
  obtain ⟨n, rfl, w⟩ := ref_any (hd := h) w
  cases y <;> first | exact (show False from w).elim | skip
  rename_i k _
  have w : onL h n _ := w
  unfold onL at w
  split at w
  · rename_i xs ho
    obtain ⟨j, e, w⟩ := opt_get w
    exact ⟨n, k, xs, j, rfl, rfl, ho, e, w⟩
  · exact w.elim
omit hG in
theorem sub_assign {o i : Expr} {env : Env} {p2 : Pos} (hn : noSlice i = true) (v : Value) : assign (.Subscript o i p2) env v = (do
      let ov ← holding [v] (eval o env)
      let iv ← holding [v, ov] (eval i env)
      standAt p2
      holding [v, ov, iv] (setItem ov iv v)
      release [v, ov, iv] []) := by
  cases i <;> first | rfl | cases hn
theorem rs_setIx {eo ei ev : Expr} {mo mi mv : ME} {p2 : Pos} (ho : PE X eo (tI T CL G W mo)) (hi : PE X ei (tI T CL G W mi)) (hv : PE X ev (tI T CL G W mv)) (hn : noSlice ei = true) (h1 : swapsWithSole [.Subscript eo ei p2] ev pos.line X.env = pure false) :
    PS X (.Assign [.Subscript eo ei p2] ev pos) (tS T CL G W (.setIx mo mi mv)) :=
  PS.wk (ps_asg hv (pg_sub ho hi set_list (sub_assign hn)) h1 rfl rfl) fun D σ H ⟨hi, ρ, μ, hd, hs, rl, w⟩ => by
    have w : wE G mv ρ hd (fun d h => wE G mo ρ h (fun x h => wE G mi ρ h (fun y h => setW h x y d fun h => NxS (T.hide hi) CL μ hd H D.nx ρ h) (XxS (T.hide hi) CL μ hd H W ρ)) (XxS (T.hide hi) CL μ hd H W ρ)) (XxS (T.hide hi) CL μ hd H W ρ) := w
    refine tI.mk hG hs rl w (XxS.xx hs rl) fun μ1 hd1 H1 d v st1 hs1 r1 rl1 q => ?_
    refine tI.mk hG hs1 rl1 q (fun x h z => XxS.xx hs1 rl1 x h (XxS.stp st1 z)) fun μ2 hd2 H2 x vo st2 hs2 r2 rl2 q => ?_
    refine tI.mk hG hs2 rl2 q (fun x h z => XxS.xx hs2 rl2 x h (XxS.stp (st1.trans st2) z)) fun μ3 hd3 H3 y vi st3 hs3 r3 rl3 q => ?_
    obtain ⟨n, k, xs, j, rfl, rfl, ho, e, q⟩ := setW_get q
    have r2' := R.stp hs2 st3 _ _ r2
    have r1' := R.stp hs1 (st2.trans st3) _ _ r1
    obtain ⟨a, ea, rfl⟩ := (show ∃ a, μ3[n]? = some a ∧ vo = .ref a from r2')
    cases r3
    obtain ⟨ys, h1, h2⟩ := hs3.lst ho ea
    obtain ⟨hs4, st4⟩ := hs3.wrL ho ea (Rs.set r1' j h2)
    refine ⟨a, ys, k, j, rfl, rfl, h1, ?_, q μ3 _ σ (((st1.trans st2).trans st3).trans st4) hs4 (rl3.stp hs3 st4)⟩
    rw [← ixAt_eq, Rs.length h2]
    exact e
/-- x += .. -/
def ipAny (T : Tb) (o : Bi) : TIp := fun x y H Q => match o with
  | .add => (∃ i j, x = .int i ∧ y = .int j ∧ Q (.int (i + j)) H) ∨ rExt2 x y H Q
  | .sub => ∃ i j, x = .int i ∧ y = .int j ∧ Q (.int (i - j)) H
  | _ => False
omit hG in
theorem ip_any (o : Bi) : PIp X (bo o) (ipAny T o) := by
  intro pins s σ H x y v u Q I r1 r2 h
  cases o with
  | add =>
    rcases h with h | h
    · exact ip_add pins s σ H x y v u Q I r1 r2 h
    · exact iop_ext pins s σ H x y v u Q I r1 r2 h
  | sub => exact ip_sub pins s σ H x y v u Q I r1 r2 h
  | _ => exact (show False from h).elim
theorem rs_aug {i : Nat} {x : Str} {o : Bi} {p2 : Pos} (hN : X.N.Nodup) (hi : X.N[i]? = some x) (hx : L2.Loc X.env.scope x) (hf : X.fn x = true ∨ X.env.scope.names.lookup x = some .local) (he : PE X e (tI T CL G W m)) :
    PS X (.AugAssign (.Name x p2) (bo o) e pos) (tS T CL G W (.aug i o m)) :=
  PS.wk (ps_aug hN hi hx he (ip_any (T := T) o) hf) fun D σ H ⟨hi, ρ, μ, hd, hs, rl, w⟩ => by
    obtain ⟨d, e1, nc, w⟩ := opt_get (show opt (getL ρ i) fun x => isClo x = false ∧ wE G m ρ hd (fun y h => augW h o x y ρ i (NxS (T.hide hi) CL μ hd H D.nx)) (XxS (T.hide hi) CL μ hd H W ρ) from w)
    obtain ⟨v, e2, r⟩ := rl.get e1
    refine ⟨v, e2, tI.mk hG hs rl w (XxS.xx hs rl) fun μ1 hd1 H1 d2 y st1 hs1 r1 rl1 q => ?_⟩
    have rd := R.stp hs st1 _ _ (r.nc nc)
    cases d <;> first | exact (show False from q).elim | skip
    · rename_i a
      cases d2 <;> first | exact (show False from q).elim | skip
      rename_i b
      cases rd; cases r1
      rcases (show (o = .add ∧ _) ∨ (o = .sub ∧ _) from q) with ⟨rfl, q2⟩ | ⟨rfl, q2⟩
      · exact .inl ⟨_, _, rfl, rfl, q2 μ1 H1 _ st1 hs1 (rl1.set rfl)⟩
      · exact ⟨_, _, rfl, rfl, q2 μ1 H1 _ st1 hs1 (rl1.set rfl)⟩
    · rename_i n
      cases d2 <;> first | exact (show False from q).elim | skip
      rename_i es
      obtain ⟨rfl, q2⟩ := (show o = .add ∧ _ from q)
      have q3 : onL hd1 n _ := q2
      unfold onL at q3
      split at q3
      · rename_i ds ho
        obtain ⟨hz, q4⟩ := q3
        obtain ⟨a, ea, rfl⟩ := (show ∃ a, μ1[n]? = some a ∧ v = .ref a from rd)
        obtain ⟨pb, zs, rfl, hb, _, rb⟩ := r1
        obtain ⟨ys, h1, h2⟩ := hs1.lst ho ea
        obtain ⟨hs4, st4⟩ := hs1.wrL ho ea (Rs.append h2 rb)
        refine .inr ⟨a, pb, ys, zs, rfl, rfl, h1, hb, by rw [Rs.length h2, Rs.length rb, sz_eq]; exact hz, ?_⟩
        have e3 : σ.set i (some (.ref a)) = σ := by
          refine List.ext_getElem? fun j => ?_
          by_cases hj : i = j
          · subst hj
            rw [e2, List.getElem?_set_self (List.getElem?_eq_some_iff.mp e2).1]
          · rw [List.getElem?_set_ne hj]
        show D.nx (σ.set i (some (.ref a))) _
        rw [e3]
        exact q4 μ1 _ σ (st1.trans st4) hs4 (rl1.stp hs1 st4)
      · exact q3.elim
end
end Mi
set_option linter.all false
set_option maxRecDepth 100000
set_option maxHeartbeats 1000000
/-! Mi: defs and lambdas by their bodies. -/
namespace Mi
open PySem L2 PySem.Spec PyProof.Rows

theorem RL.ofRows {T : Tb} {CL : CLs} {μ : List Addr} {hd : Hd} {H : Hp} {ds : List D} {vs : List V} {n : Nat} (r : RAs T CL μ (Live μ hd) H ds vs) : RL T CL μ hd H (ds.map some ++ List.replicate n none) (vs.map some ++ List.replicate n none) := by
  have hl := RAs.length r
  refine ⟨by rw [List.length_append, List.length_append, List.length_map, List.length_map, hl, List.length_replicate, List.length_replicate], fun i d e => ?_⟩
  by_cases hi : i < ds.length
  · rw [List.getElem?_append_left (by rw [List.length_map]; exact hi), List.getElem?_map] at e
    cases e1 : ds[i]? with
    | none => rw [e1] at e; cases e
    | some d' =>
      rw [e1] at e
      cases e
      obtain ⟨v, e2, r2⟩ := RAs.get r e1
      refine ⟨v, ?_, r2⟩
      rw [List.getElem?_append_left (by rw [List.length_map, hl]; exact hi), List.getElem?_map, e2]
      rfl
  · rw [List.getElem?_append_right (by rw [List.length_map]; omega), List.getElem?_replicate] at e
    split at e <;> cases e
theorem RL.start {T : Tb} {CL : CLs} {μ : List Addr} {hd : Hd} {H : Hp} {ds : List D} {vs : List V} {N : List Str} (r : RAs T CL μ (Live μ hd) H ds vs) : RL T CL μ hd H (startL N.length ds) (L2.start N vs) := by
  unfold startL L2.start
  rw [RAs.length r]
  exact RL.ofRows r
/-- the end of a def -/
theorem endX {T : Tb} {CL : CLs} {μ : List Addr} {hd : Hd} {H : Hp} {Q : VK} {E : XK} : En.Le { nx := fun _ h => Nx T μ hd H Q .non h, rt := Nx T μ hd H Q, bk := fun _ _ => False, ct := fun _ _ => False, ex := fun _ => Xx T μ hd H E } (EnX T CL μ hd H { nx := fun _ H' => Q .non H', rt := Q } (fun cls d _ H' => E cls d H')) :=
  ⟨fun _ _ n μ' H' σ' st hs _ => n μ' H' .non st hs rfl, fun _ _ n => n, fun _ _ z => z.elim, fun _ _ z => z.elim, fun _ _ _ x μ' H' σ' C a ws st hs _ e1 e2 e3 => x μ' H' C a ws st hs e1 e2 e3⟩

section
variable (T : Tb) (Pm : Program) (w : World) (K : PySem.W.Frag) (mg : Str → Option Value) (base : Heap) (P : Prg)
/-- the def fi stands there, and its body is what F tells -/
def FnB (fi : Nat) (F : Fn) : Prop :=
  ∃ (a : Addr) (name qual : Str) (params : Arguments) (body : List Stmt) (scope : Scope) (dV kV doc pm cdv ct oc : Value) (an od : Option Addr) (osl : Array (Option Value)) (N : List Str),
    T.fa fi = some a ∧ K.lookup a = some ⟨oc, od, .func (PySem.W.fnOf name qual params body scope dV kV doc pm an cdv ct), osl⟩ ∧ T.fd fi = PySem.W.fnOf name qual params body scope dV kV doc pm an cdv ct ∧ PySem.W.codeIn K cdv qual = true ∧ FnScope N (T.fp fi) scope ∧
    F.np = (T.fp fi).length ∧ F.nl = N.length ∧
    ∀ (n k : Nat), 2 ≤ k → FnI T Pm w K mg base (callN P n) k → LamI T Pm w K mg base (callN P n) k → ∀ (A : Around) (outer : List Env) (s : Shared) (H : Hp) (E : XK) (CL : CLs), Room k (A.deeper (envOfC qual scope s.heap.objs.size a cdv)) → CLx T CL (cxOf (L2.CX Pm w) Pm w K mg base N qual scope a cdv A outer s H E) → CL.exn = (fun _ => none) →
      PSs (cxOf (L2.CX Pm w) Pm w K mg base N qual scope a cdv A outer s H E) body (tS T CL (callN P n) (fun cls d _ H' => E cls d H') F.body)
/-- the lambda k0 -/
def LamB (k0 : Nat) (L : La) : Prop :=
  L.dfl = [] ∧ L.np = (T.la k0).ps.length ∧ NdefX.NScope ((T.la k0).ps ++ (T.la k0).fr) (T.la k0).ps (T.la k0).fr (T.la k0).scope ∧
    (∀ (cl : List (Str × Addr)) (pm cv ctv : Value) (us : List Value), us.length = (T.la k0).ps.length → bindArgs (PySem.W.kla_fn "<lambda>" (T.la k0).q (T.la k0).params (T.la k0).body (T.la k0).scope cl pm cv ctv) ⟨us, []⟩ = pure ((T.la k0).ps.zip us)) ∧
    ∀ (n k : Nat), 2 ≤ k → FnI T Pm w K mg base (callN P n) k → LamI T Pm w K mg base (callN P n) k → ∀ (f c' : Addr) (cl : List (Str × Addr)) (A : Around) (outer : List Env) (s : Shared) (H : Hp) (E : XK) (CL : CLs),
      Room k (A.deeper (NdefX.envF ⟨"<lambda>", (T.la k0).q, (T.la k0).params, [], (T.la k0).scope, cl, c'⟩ f s.heap.objs.size)) →
      CLx T CL (NdefX.ncx (L2.CX Pm w) Pm w K mg base ((T.la k0).ps ++ (T.la k0).fr) ⟨"<lambda>", (T.la k0).q, (T.la k0).params, [], (T.la k0).scope, cl, c'⟩ f A outer s H E) → CL.exn = (fun _ => none) →
      PE (NdefX.ncx (L2.CX Pm w) Pm w K mg base ((T.la k0).ps ++ (T.la k0).fr) ⟨"<lambda>", (T.la k0).q, (T.la k0).params, [], (T.la k0).scope, cl, c'⟩ f A outer s H E) (T.la k0).body (tI T CL (callN P n) (fun cls d _ H' => E cls d H') L.body)
end
section
variable {T : Tb} {Pm : Program} {w : World} {K : PySem.W.Frag} {mg : Str → Option Value} {base : Heap} {P : Prg}
theorem fnI_step (hF : ∀ fi F, P.fns[fi]? = some F → FnB T Pm w K mg base P fi F) {n k : Nat} (h0 : 2 ≤ k) (h1 : FnI T Pm w K mg base (callN P n) k) (h2 : LamI T Pm w K mg base (callN P n) k) : FnI T Pm w K mg base (callN P (n + 1)) (k + 1) := by
  intro fi a ha A outer s H args us vs Q E CL μ hd hi ds hr e0 hb rv hs r hex hcl q
  obtain ⟨F, eF, hnp, q⟩ := opt_get (show opt P.fns[fi]? _ from q)
  obtain ⟨a', name, qual, params, body, scope, dV, kV, doc, pm, cdv, ct, oc, an, od, osl, N, ha', lk, efd, hcd, S, hnp', hnl, sound⟩ := hF fi F eF
  rw [ha] at ha'
  cases ha'
  rw [efd] at hb
  refine LamX.run_ofS (k := k) (N := N) (ps := T.fp fi) (us := us) (vs := vs) lk hcd S hr e0 hb rv (by rw [RAs.length r, hnp, hnp']) fun hr' => ?_
  refine ⟨_, sound n k h0 h1 h2 A outer s H E CL hr' ⟨hcl, fun _ _ _ _ _ y c _ z => absurd (show c ∈ ([] : List Addr) from z) (by simp)⟩ hex, hi, startL F.nl ds, μ, hd, hs, ?_, (moS (monoN P n) F.body).s _ _ _ _ endX q⟩
  rw [hnl]
  exact RL.start r
theorem startF_eq {N : List Str} {vs : List V} {ws : List V} (h : N.length = vs.length + ws.length) : NdefX.startF N vs (ws.map some) = (vs ++ ws).map some := by
  unfold NdefX.startF
  rw [List.length_map, h, List.map_append, show vs.length + ws.length - vs.length - ws.length = 0 by omega]
  simp
theorem lamI_step (hL : ∀ k0 L, P.las[k0]? = some L → LamB T Pm w K mg base P k0 L) {n k : Nat} (h0 : 2 ≤ k) (h1 : FnI T Pm w K mg base (callN P n) k) (h2 : LamI T Pm w K mg base (callN P n) k) : LamI T Pm w K mg base (callN P (n + 1)) (k + 1) := by
  intro k0 f c' cl A outer s H us vs ws Q E CL μ hd hi ds caps hr e0 hf hc C rv hs r rc hex hcl q
  obtain ⟨L, eL, hnp, q⟩ := opt_get (show opt P.las[k0]? _ from q)
  obtain ⟨hd0, hnp', S, hbind, sound⟩ := hL k0 L eL
  rw [hd0] at hnp q
  simp only [List.drop_nil, List.append_nil] at hnp q
  have hlv : vs.length = (T.la k0).ps.length := by rw [RAs.length r, hnp, hnp']
  have hlw : ws.length = (T.la k0).fr.length := by have := C.len; rw [List.length_map] at this; exact this
  obtain ⟨⟨pm, ctv, of1⟩, _, _⟩ := e0.hok f _ hf
  obtain ⟨⟨oc, vs2, t, hoc, hdc, hvc⟩, _, _⟩ := e0.hok c' _ hc
  have lim : s.heap.NoLimit := e0.mod.nolimit.keeps fun b o e => (e0.bs b o e).1
  refine PySem.W.kla_callFunE hr.depth of1 rfl S.co S.gen rfl ⟨c', oc, vs2, t, rfl, hoc, hdc, hvc⟩ ?_
  rw [hbind cl pm (.ref c') ctv us (by rw [← rv.length]; exact hlv)]
  refine wpAny_pure (wpAny_newFunctionEnv S.nocell (fun ⟨n, _⟩ hy => S.par n (List.of_mem_zip hy).1) (fun h₁ hns hsb => ⟨lim.fresh _ hsb, ?_⟩) S.kind)
  show codeAny _ _ (.expr (T.la k0).body (NdefX.envF ⟨"<lambda>", (T.la k0).q, (T.la k0).params, [], (T.la k0).scope, cl, c'⟩ f s.heap.objs.size)) _ _
  have kp : ∀ b o, s.heap.get? b = some o → h₁.get? b = some o := fun b o e => hsb.extBut b o (Nat.ne_of_lt (Heap.lt_size e)) (Heap.get?_push_of_some _ e)
  have J : Inv (NdefX.ncx (L2.CX Pm w) Pm w K mg base ((T.la k0).ps ++ (T.la k0).fr) ⟨"<lambda>", (T.la k0).q, (T.la k0).params, [], (T.la k0).scope, cl, c'⟩ f A outer s H E) [] (NdefX.startF ((T.la k0).ps ++ (T.la k0).fr) vs (ws.map some)) H { s with heap := h₁, toks := s.toks + ((T.la k0).ps.zip us).length } :=
    NdefX.inv_startN S hr.hd e0 hlv rv C hns kp
  refine PySem.W.kla_codeExpr (wpAny_mono ((sound n k h0 h1 h2 f c' cl A outer s H E CL (hr.deeper _) ⟨hcl, fun _ _ _ _ _ y c _ z => absurd (show c ∈ ([] : List Addr) from z) (by simp)⟩ hex).run [] _ _ H Q J ?_) (fun v s' hq => ?_) fun e s' hq => hq)
  · rw [startF_eq (by rw [List.length_append, hlv, hlw])]
    refine ⟨hi, (ds ++ caps).map some, μ, hd, hs, ?_, q⟩
    have := RL.ofRows (n := 0) (RAs.append r rc)
    simpa using this
  · obtain ⟨w', H', J', rv', q'⟩ := hq
    exact ⟨w', H', J'.os, J'.bare, J'.base, J'.hok, rv', q'⟩
/-- all calls -/
theorem all_ok (hF : ∀ fi F, P.fns[fi]? = some F → FnB T Pm w K mg base P fi F) (hL : ∀ k0 L, P.las[k0]? = some L → LamB T Pm w K mg base P k0 L) (c : Nat) (hc : 2 ≤ c) : ∀ n, FnI T Pm w K mg base (callN P n) (n + c) ∧ LamI T Pm w K mg base (callN P n) (n + c)
  | 0 => ⟨fun fi a ha A outer s H args us vs Q E CL μ hd hi ds hr e0 hb rv hs r hex hcl q => q.elim, fun k0 f c' cl A outer s H us vs ws Q E CL μ hd hi ds caps hr e0 hf hc C rv hs r rc hex hcl q => q.elim⟩
  | n + 1 => by
    obtain ⟨h1, h2⟩ := all_ok hF hL c hc n
    have e : n + 1 + c = n + c + 1 := by omega
    rw [e]
    exact ⟨fnI_step hF (by omega) h1 h2, lamI_step hL (by omega) h1 h2⟩
end
end Mi
set_option linter.all false
set_option maxRecDepth 100000
set_option maxHeartbeats 2000000
/-! Mi: an own error whose __init__ says super().__init__(..) and keeps its fields: it is made. -/
namespace Mi
open PySem L2 PySem.Spec PyProof.Rows

abbrev exT : List Value := [.type "Exception", .type "BaseException", .type "object"]
/-- what is asked of the class at C, whose __init__ is the def at fI -/
structure ExcC (K : PySem.W.Frag) (C fI : Addr) : Prop where
  ini : PySem.W.excInitIn K C exT "Exception.__new__" = true
  over : PySem.W.excOver K C exT = true
  hasD : PySem.W.hasDictIn K C = true
  sa : PySem.W.findIn K (.ref C) "__setattr__" = some (some (.builtin "object.__setattr__"))
  exC : PySem.W.subIn K (.ref C) (.type "BaseException") = some true
  exE : PySem.W.subIn K (.ref C) (.type "Exception") = some true
  tyC : PySem.W.typeIn K (.ref C) = some (.type "type")
  kC : PySem.W.keepIn K (.ref C) = true
  iC : PySem.W.findIn K (.ref C) "__init__" = some (some (.ref fI))
  tI : PySem.W.typeIn K (.ref fI) = some (.type "function")
section
open PySem.W Builtin Builtin.ObjectAttr
variable {prog : Program} {w : World} {A : Around} {R : Result → Shared → Prop} {hp : Heap} {g : Array GenState} {d : Drawn} {t : Nat} {os : OsState}
/-- the first field: the dict is made -/
theorem osaX_new {K : Frag} {name : Str} {tk : Tok} {v : Value} {x C : Addr} {fv : Array Value}
    (X : K.In hp) (hx : hp.get? x = some { cls := .ref C, data := .fields fv }) (ho : excOver K C exT = true) (hh : hasDictIn K C = true) (ht : takerIn K C name = some none)
    (hq : ∀ h' tk' dx, (∀ b o, b ≠ x → hp.get? b = some o → h'.get? b = some o) → hp.objs.size ≤ dx → dx ≠ x → h'.get? x = some { cls := .ref C, dict := some dx, data := .fields fv } →
      h'.Ns1 dx (fun y => if y = name then some v else none) → R (.ok (.ret .none)) ⟨h', g, d, tk', os⟩) :
    codeAny (model prog w) A (.call (.builtin "object.__setattr__") ⟨[.ref x, .str name tk, v], []⟩) R ⟨hp, g, d, t, os⟩ := by
  have I : InstAt hp x { cls := .ref C, data := .fields fv } C none := ⟨hx, rfl, rfl, trivial⟩
  have hxs : x ≠ hp.objs.size := Nat.ne_of_lt (Heap.lt_size hx)
  obtain ⟨cd, hcd, hd'⟩ := any_some hh
  refine osa_openX F.store_Exception X I ho ht fun b => ?_
  have hcls : Looks (model prog w) hp (classData C) cd := looks_clsIn X hcd
  obtain ⟨nm, bs, mro, ns, qn, hdd, sn, sb, ab, col, del⟩ := cd
  dsimp only at hd'
  subst hd'
  dsimp only
  unfold storeInOwnDict ownDictForStores
  repeat (first | with_reducible refine PySem.HandSPX.store_in_new ?_ ?_ | with_reducible refine wpAny_loadPart_at hx ?_ | with_reducible refine hcls.at ?_ | wp_step)
  · exact ⟨_, #[], _, (Heap.get?_update_ne _ _ _ _ hxs.symm).trans (Heap.get?_push_at rfl rfl), rfl, fun e he => absurd he (by simp), fun _ => rfl⟩
  · intro h' tk' hn' hs
    have hx₁ : (hp.push { cls := .type "dict", data := .dict #[] }).get? x = some { cls := .ref C, data := .fields fv } := Heap.get?_push_of_some _ hx
    refine hq h' tk' hp.objs.size (fun b o hb ho => ?_) (Nat.le_refl _) hxs.symm ?_ hn'
    · exact (hs.2 b (Nat.ne_of_lt (Heap.lt_size ho))).trans ((Heap.get?_update_ne _ _ _ _ hb).trans (Heap.get?_push_of_some _ ho))
    · exact (hs.2 x hxs).trans (Heap.get?_update_self _ hx₁ rfl)
/-- a further one -/
theorem osaX_old {K : Frag} {name : Str} {tk : Tok} {v : Value} {x C dx : Addr} {fv : Array Value} {m0 : Str → Option Value} {nl : List Str}
    (X : K.In hp) (hx : hp.get? x = some { cls := .ref C, dict := some dx, data := .fields fv }) (hns : hp.Ns1 dx m0) (hw : Within m0 nl) (hz : nl.length ≤ 1000) (ho : excOver K C exT = true) (hh : hasDictIn K C = true) (ht : takerIn K C name = some none)
    (hq : ∀ h' tk', (∀ b o, b ≠ dx → hp.get? b = some o → h'.get? b = some o) → h'.Ns1 dx (fun y => if y = name then some v else m0 y) → R (.ok (.ret .none)) ⟨h', g, d, tk', os⟩) :
    codeAny (model prog w) A (.call (.builtin "object.__setattr__") ⟨[.ref x, .str name tk, v], []⟩) R ⟨hp, g, d, t, os⟩ := by
  obtain ⟨oD, esD, epD, hoD, hdD, _⟩ := hns.count hw
  have I : InstAt hp x { cls := .ref C, dict := some dx, data := .fields fv } C (some oD) := ⟨hx, rfl, rfl, hoD⟩
  obtain ⟨cd, hcd, hd'⟩ := any_some hh
  refine osa_openX F.store_Exception X I ho ht fun b => ?_
  have hcls : Looks (model prog w) hp (classData C) cd := looks_clsIn X hcd
  obtain ⟨nm, bs, mro, ns, qn, hdd, sn, sb, ab, col, del⟩ := cd
  dsimp only at hd'
  subst hd'
  dsimp only
  unfold storeInOwnDict ownDictForStores
  repeat (first | with_reducible refine PySem.ESX.store_in_old hns hw hz ?_ | with_reducible refine wpAny_loadPart_at hx ?_ | with_reducible refine hcls.at ?_ | wp_step)
  intro h' tk' hn' hs
  exact hq h' tk' (fun b o hb ho => (hs.2 b hb).trans ho) hn'
end
section
variable {X : Cx} {pins : List (Addr × Obj)} {σ : L2.St} {H : Hp} {s : Shared} {a C dx fI : Addr} {f : Str} {y : V} {u : Value} {fs : List (Str × V)} {Q : Unit → Shared → Prop} {E : Value → Shared → Prop} {A : Around}
/-- a new object at dx, and the object at a, known by what is true of it, otherwise -/
theorem grow2 {h' : Heap} {t' : Nat} {φ : Heap → Prop} {o1 o2 : HO} (I : Inv X pins σ H s) (e : H a = some (.ext φ)) (dn : s.heap.objs.size ≤ dx) (dne : dx ≠ a) (k : ∀ b o, b ≠ a → s.heap.get? b = some o → h'.get? b = some o) (hx : ∃ o, h'.get? a = some o)
    (n1 : ObjOk X.prog X.w (upd (upd H dx o1) a o2) h' dx o1) (n2 : ObjOk X.prog X.w (upd (upd H dx o1) a o2) h' a o2) : Inv X pins σ (upd (upd H dx o1) a o2) { s with heap := h', toks := t' } := by
  have nd : H dx = none := I.hok.fresh dn
  have olt : ∀ {b : Addr} {o : Obj}, s.heap.get? b = some o → b ≠ dx := fun q => Nat.ne_of_lt (Nat.lt_of_lt_of_le (Heap.lt_size q) dn)
  have na : ∀ {b : Addr}, H b = none → b ≠ a := fun n z => by subst z; rw [e] at n; cases n
  have nx : ∀ {b : Addr} {o : HO}, H b = some o → (∀ ψ, o ≠ .ext ψ) → b ≠ a := fun q n z => by
    subst z
    rw [e] at q
    exact n φ (Option.some.inj q).symm
  have at_ : ∀ {b : Addr} {o : HO}, H b = some o → (∀ ψ, o ≠ .ext ψ) → upd (upd H dx o1) a o2 b = some o := fun q n => by
    rw [upd_ne (nx q n), upd_ne (ne_of_none q nd)]
    exact q
  refine I.un (t' := t') ⟨fun b o q n _ _ => k b o (na n) q, fun b o q n _ _ => ⟨o.slots, k b o (na n) q⟩, fun b o q n _ => by rw [upd_ne (na n), upd_ne (olt q)]; exact n, fun b o q _ => ?_,
    fun b xs q => at_ q (fun _ z => by cases z), fun b o v q => at_ q (fun _ z => by cases z), fun b ps q => ⟨#[], by rw [at_ q (fun _ z => by cases z)]; simp⟩⟩ fun b o q => ?_
  · by_cases hb : b = a
    · subst hb; exact hx
    · exact ⟨o, k b o hb q⟩
  · by_cases hb : b = a
    · subst hb
      rw [upd_same] at q
      cases q
      exact n2
    · rw [upd_ne hb] at q
      by_cases hd : b = dx
      · subst hd
        rw [upd_same] at q
        cases q
        exact n1
      · rw [upd_ne hd] at q
        refine (I.hok b o q).stay (fun c v hc z => k c v ?_ z) (fun c hc => at_ hc (fun _ z => by cases z)) fun c xs hc => at_ hc (fun _ z => by cases z)
        rcases hc with hc | hc
        · rw [hc]; exact hb
        · exact nx hc (fun _ z => by cases z)
theorem ostX_new (T : ExcC X.K C fI) (I : Inv X pins σ H s) (e : H a = some (exo a C none)) (hno : PySem.W.findIn X.K (.ref C) f = some none) (ry : RelV y u)
    (h : ∀ dx s', H dx = none → dx ≠ a → Inv X pins σ (upd (upd H dx (exd dx [(f, y)])) a (exo a C (some dx))) s' → Q () s') : wpAny (model X.prog X.w) A (setAttr (.ref a) f u) Q E s := by
  obtain ⟨t1, ho⟩ := exo_at I.hok e
  obtain ⟨hp, g, d, t, os⟩ := s
  refine PySem.W.set_plain I.kIn (ox := { cls := .ref C, dict := none, data := .fields #[.ref t1, .none, .none, .none, .bool false, .none] }) (od := none) ⟨ho, rfl, rfl, trivial⟩ T.sa ?_
  refine osaX_new I.kIn ho T.over T.hasD (NoAttr.taker hno) fun h' tk' dx k dn dne hx hn => ?_
  exact h dx _ (I.hok.fresh dn) dne (grow2 I e dn dne k ⟨_, hx⟩ (exd_ok hn (relO_put (fs := []) ry fun g => True.intro)) (exo_ok hx))
theorem ostX_old (T : ExcC X.K C fI) (I : Inv X pins σ H s) (e : H a = some (exo a C (some dx))) (ed : H dx = some (exd dx fs)) (hl : fs.length ≤ 900) (hno : PySem.W.findIn X.K (.ref C) f = some none) (ry : RelV y u)
    (h : ∀ s', Inv X pins σ (upd H dx (exd dx ((f, y) :: fs))) s' → Q () s') : wpAny (model X.prog X.w) A (setAttr (.ref a) f u) Q E s := by
  obtain ⟨t1, ho⟩ := exo_at I.hok e
  obtain ⟨mA, hns, rel⟩ := exd_at I.hok ed
  have hw := within_of rel
  obtain ⟨hp, g, d, t, os⟩ := s
  obtain ⟨oD, _, _, hoD, _, _⟩ := hns.count hw
  refine PySem.W.set_plain I.kIn (ox := { cls := .ref C, dict := some dx, data := .fields #[.ref t1, .none, .none, .none, .bool false, .none] }) (od := some oD) ⟨ho, rfl, rfl, hoD⟩ T.sa ?_
  refine osaX_old I.kIn ho hns hw (by rw [List.length_map]; omega) T.over T.hasD (NoAttr.taker hno) fun h' tk' k hn => ?_
  have hd : ∃ o, h'.get? dx = some o := by
    obtain ⟨o, _, _, e', _⟩ := hn
    exact ⟨o, e'⟩
  exact h _ (I.write (t' := tk') (x := dx) (e := dx) (o := exd dx ((f, y) :: fs)) (by rw [ed]; exact True.intro) (.inl rfl) k hd (exd_ok hn (relO_put ry rel)))
end
end Mi
set_option linter.all false
set_option maxRecDepth 100000
set_option maxHeartbeats 2000000
/-! Mi: super().__init__(..), the fields, the whole making of an own error. -/
namespace Mi
open PySem L2 PySem.Spec PyProof.Rows PySem.W

structure IniD where
  name : Str
  qual : Str
  params : Arguments
  body : List Stmt
  scope : Scope
  dV : Value
  kV : Value
  doc : Value
  pm : Value
  ct : Value
  oc : Value
  cda : Addr
  cc : Addr
  an : Option Addr
  od : Option Addr
  osl : Array (Option Value)
  ar : Arg
  vs : Array Value
  file : Str
  tf : Tok
  ccl : Value
  cdd : Option Addr
  ccs : Array (Option Value)
  cl : Value
  cld : Option Addr
  csl : Array (Option Value)
abbrev IniD.fd (d : IniD) : FuncData := ksFn d.name d.qual d.params d.body d.scope d.dV d.kV d.doc d.pm d.an (.ref d.cda) d.ct d.cc
abbrev IniD.F (d : IniD) : NdefX.NF := ⟨d.name, d.qual, d.params, d.body, d.scope, [("__class__", d.cc)], d.cda⟩
abbrev sSelf : Str := "self"
abbrev sCls : Str := "__class__"
def iniN (flds : List Str) : List Str := sSelf :: flds ++ [sCls]
/-- each field from the parameter of its name -/
inductive AsgOk : List Str → List Stmt → Prop where
  | nil : AsgOk [] []
  | cons {f : Str} {p1 p2 p3 p4 : Pos} {fs : List Str} {r : List Stmt} (h : AsgOk fs r) : AsgOk (f :: fs) (.Assign [.Attribute (.Name "self" p1) f p2] (.Name f p3) p4 :: r)
inductive NamesOk (flds : List Str) : List Expr → Prop where
  | nil : NamesOk flds []
  | cons {f : Str} {p : Pos} {r : List Expr} (hf : f ∈ flds) (h : NamesOk flds r) : NamesOk flds (.Name f p :: r)
structure IniOk (Pm : Program) (K : Frag) (mg : Str → Option Value) (C fI : Addr) (flds : List Str) (d : IniD) : Prop where
  lk : K.lookup fI = some ⟨d.oc, d.od, .func d.fd, d.osl⟩
  cod : codeIn K (.ref d.cda) d.qual = true
  lkc : K.lookup d.cda = some ⟨d.ccl, d.cdd, .fields d.vs, d.ccs⟩
  hvs : d.vs[2]? = some (.str d.file d.tf)
  hfile : ((Pm.main.file : Str) == d.file) = true
  cell : K.lookup d.cc = some ⟨d.cl, d.cld, .cell (some (.ref C)), d.csl⟩
  sup : mg "super" = none
  top : (Pm.main.scope.names.lookup ("super" : Str)).isSome = false
  sc : NdefX.NScope (iniN flds) (sSelf :: flds) [sCls] d.scope
  kss : d.scope.names.lookup ("super" : Str) = some .globalImplicit
  hp : (d.params.posonlyargs ++ d.params.args).head? = some d.ar
  har : d.ar.arg = ("self" : Str)
  bind : ∀ us : List Value, us.length = flds.length + 1 → bindArgs d.fd ⟨us, []⟩ = pure ((sSelf :: flds).zip us)
  sub : ks_superIn K C C "__init__" = some (some (.builtin "Exception.__init__"))
  opq : nsIn K cStatics "thirdparty.any" = some none
  subC : mroIn K C (.ref C) = some true
  cls : ∃ cd, clsIn K C = some cd
  noA : ∀ f ∈ flds, findIn K (.ref C) f = some none
  nd : flds.Nodup
  few : flds.length ≤ 800
  names : ∀ f ∈ flds, (f == ("__debug__" : Str)) = false ∧ (f == ("__classdict__" : Str)) = false
  body : ∃ p0 p1 apos e1 es pos pos' rest, d.body = .Expr (.Call (.Attribute (.Call (.Name "super" p0) [] [] p1) "__init__" apos) (e1 :: es) [] pos) pos' :: rest ∧ NamesOk flds (e1 :: es) ∧ (e1 :: es).length ≤ 800 ∧ AsgOk flds rest ∧
    ∀ env : Env, ∃ pl : Sem Bool, eval (.Call (.Attribute (.Call (.Name "super" p0) [] [] p1) "__init__" apos) (e1 :: es) [] pos) env = (do
      let ov ← attributeBase (.Call (.Name "super" p0) [] [] p1) "__init__" env (eval (.Call (.Name "super" p0) [] [] p1) env)
      standAt apos.atName
      let (f, first) ← holding [ov] (getMethod ov "__init__" pl)
      callWith pos f first (backTo pos (starEach (e1 :: es) env)) [])

section
variable {X : Cx} {σ : L2.St} {H : Hp} {s : Shared} {a C fI L : Addr} {flds : List Str} {d : IniD}
/-- super().__init__(..) -/
theorem super_init (T : ExcC X.K C fI) (D : IniOk X.prog X.K X.mg C fI flds d) (hE : X.env = ksEnv d.qual d.scope L fI (.ref d.cda) d.cc) (I : Inv X [] σ H s) (e : H a = some (exo a C none)) (hN : X.N[0]? = some ("self" : Str)) (h0 : σ[0]? = some (some (.ref a)))
    {p0 p1 apos pos pos' : Pos} {e1 : Expr} {es : List Expr} {ta : TA} {body : List Stmt} {Q : Flow → Shared → Prop} (ha : PA X (e1 :: es) ta) (hta : ta σ H fun vs H1 => H1 = H ∧ vs.length ≤ sizeLine) (hst : starEach (e1 :: es) X.env = (false, eval e1 X.env) :: starEach es X.env) (hpl : (backTo pos (starEach es X.env)).any (·.1) = false)
    (hc : ∃ pl : Sem Bool, eval (.Call (.Attribute (.Call (.Name "super" p0) [] [] p1) "__init__" apos) (e1 :: es) [] pos) X.env = (do
      let ov ← attributeBase (.Call (.Name "super" p0) [] [] p1) "__init__" X.env (eval (.Call (.Name "super" p0) [] [] p1) X.env)
      standAt apos.atName
      let (f, first) ← holding [ov] (getMethod ov "__init__" pl)
      callWith pos f first (backTo pos (starEach (e1 :: es) X.env)) []))
    (hk : ∀ s', Inv X [] σ H s' → Q .next s') :
    _root_.PySem.wpAt (model X.prog X.w) X.A (.func body X.env) (exec (.Expr (.Call (.Attribute (.Call (.Name "super" p0) [] [] p1) "__init__" apos) (e1 :: es) [] pos) pos') X.env) Q X.xe s := by
  obtain ⟨pl, hc⟩ := hc
  refine ks_wpAt_Expr_any (ks_wpAt_MethodCall (pl := pl) ?_ hc) I.quiet rfl
  obtain ⟨t1, ho⟩ := exo_at I.hok e
  have KI := I.kIn
  obtain ⟨cdD, hcd⟩ := D.cls
  obtain ⟨oD, hD1, hD2⟩ : ∃ oD, s.heap.get? C = some oD ∧ oD.data = .cls cdD := by
    unfold clsIn at hcd
    split at hcd
    · rename_i c d cd' sl ho
      cases hcd
      exact ⟨_, KI _ _ ho, rfl⟩
    · cases hcd
  have hsc : X.env.scope = d.scope := by rw [hE]
  have hks : X.env.kindOf "super" = some .globalImplicit := by
    show X.env.scope.names.lookup ("super" : Str) = _
    rw [hsc]; exact D.kss
  have hkc : X.env.kindOf "__class__" = some .free := by
    show X.env.scope.names.lookup sCls = _
    rw [hsc]; exact D.sc.frk _ (by simp)
  have hfu : X.env.func = some fI := by rw [hE]
  have hco : X.env.code = .ref d.cda := by rw [hE]
  have hcl : X.env.cells.lookup sCls = some d.cc := by rw [hE]; rfl
  have hself : X.env.kindOf "self" = some .local := by
    show X.env.scope.names.lookup sSelf = _
    rw [hsc]; exact D.sc.par _ (by simp)
  obtain ⟨m, hn, hlk⟩ := id I.loc
  obtain ⟨uself, rself, lself⟩ := hlk 0 "self" (.ref a) hN h0 (.inl hself)
  obtain rfl : uself = Value.ref a := rself
  have mself : m "self" = some (.ref a) := by
    rcases lself with ⟨_, z⟩ | ⟨z, _⟩
    · exact z
    · rcases z with z | z <;> rw [hself] at z <;> cases z
  refine ks_wpAt_super_base hks hkc (by decide) hfu (KI _ _ D.lk) rfl D.hp hco (KI _ _ D.lkc) rfl D.hvs D.hfile D.top ?_
  obtain ⟨mb, hb1, hb2⟩ := I.mod.blt
  refine ks_loadName_global I.ok.kind hks (PySem.Calls.loadGlobal_builtin (by rw [I.ok.glob]; exact I.mod.glob.keeps I.bk) D.sup (by rw [I.ok.blt]; exact hb1.keeps I.bk) ((hb2 _ (by decide)).trans (show bootBuiltins "super" = some (.type "super") from rfl)) ⟨rfl, ?_⟩)
  refine wpAny_loadName_free I.ok.kind hkc hcl ⟨_, KI _ _ D.cell, rfl⟩ ?_
  rw [D.har]
  refine wpAny_loadName_local I.ok.kind hself hn mself ?_
  refine ks_wpAny_isType_cls hD1 hD2 ⟨rfl, ?_⟩
  obtain ⟨hp, g, dr, tk, os⟩ := s
  refine ks_wpAny_call_super hD1 hD2 ho rfl (fun c z => by cases z) (looks_mroIn KI D.subC) fun h1 hso k1 => ?_
  have I1 : Inv X [] σ H ⟨h1, g, dr, tk, os⟩ := I.kept (t' := tk) k1
  have ho1 := k1 _ _ ho
  have KI1 := I1.kIn
  have hx : hp.get? hp.objs.size = none := Heap.get?_none_of_le (Nat.le_refl _)
  have hI : Looks (model X.prog X.w) h1 (isInstance (.ref a) (.type "Exception")) true := (InstAt.type (C := C) (od := none) (ox := { cls := .ref C, dict := none, data := .fields #[.ref t1, .none, .none, .none, .bool false, .none] }) ⟨ho1, rfl, rfl, trivial⟩).andThen (looks_subIn KI1 T.exE)
  have hsub := D.sub
  unfold ks_superIn at hsub
  rw [hcd] at hsub
  have hne : a ≠ C := by
    rintro rfl
    rw [ho] at hD1
    cases hD1
    cases hD2
  refine kxs_getMethod kxs_Exception hso (looks_opaque KI1 D.opq) (l₀ := cdD.mro) (fun A Q E s k q => wpAny_bind ((looks_clsIn KI1 hcd) A _ E s k (wpAny_pure q))) rfl KI1 hsub hI hne (by decide) ?_
  have I2 : Inv X [] σ H ⟨h1.push (kxs_mw "Exception.__init__" a), g, dr, tk + 1, os⟩ := I1.kept (t' := tk + 1) fun b o q => Heap.get?_push_of_some _ q
  have hu : (h1.push (kxs_mw "Exception.__init__" a)).get? h1.objs.size = some (kxs_mw "Exception.__init__" a) := Heap.get?_push_size _ rfl
  have nu : H h1.objs.size = none := I1.hok.fresh (Nat.le_refl _)
  have I3 : Inv X [(h1.objs.size, kxs_mw "Exception.__init__" a)] σ H ⟨h1.push (kxs_mw "Exception.__init__" a), g, dr, tk + 1, os⟩ := I2.pins_of fun p hp => by
    have e' : p = (h1.objs.size, kxs_mw "Exception.__init__" a) := by simpa using hp
    subst e'
    exact ⟨hu, nu, Nat.ne_of_gt I1.lt, I1.nofs (Nat.le_refl _), fun v z => by cases z⟩
  show wpAny _ _ (callWith pos (.ref h1.objs.size) [] (backTo pos (starEach (e1 :: es) X.env)) []) _ _ _
  refine PySem.ESX.callWith_bound (x := a) (thn (ha.run pos _ _ σ H _ I3 hta) fun us s4 ⟨vs, H4, I4, r4, q4, q5⟩ => ?_) hst hpl
  subst q4
  refine ⟨(I4.pin _ (List.mem_append_right _ (List.mem_singleton.mpr rfl))).1, ?_⟩
  show wpAny _ _ (call (.ref h1.objs.size) us) _ _ _
  obtain ⟨nm, N', qn, bs, bm, hdct, sn, sub, ab, col, dd, k0, k1', k2, k3, k5, hC, hT⟩ := excInit_of I4.kIn T.ini
  obtain ⟨t4, ho4⟩ := exo_at I4.hok e
  have hu4 := (I4.pin _ (List.mem_append_right _ (List.mem_singleton.mpr rfl))).1
  obtain ⟨h4, g4, d4, tk4, os4⟩ := s4
  refine PySem.ESX.call_bw (C := C) hC ho4 hu4 (by rw [← r4.length]; exact q5) fun h5 t5 k5 hx5 => hk _ ?_
  have J := I4.write (t' := tk4) (x := a) (e := a) (o := exo a C none) (by rw [e]; exact True.intro) (.inl rfl) k5 ⟨_, hx5⟩ (exo_ok hx5)
  have eu : upd H4 a (exo a C none) = H4 := by
    funext b
    by_cases hb : b = a
    · rw [hb, upd_same, e]
    · rw [upd_ne hb]
  rw [eu] at J
  exact J.pins_of fun p hp => absurd hp (by simp)
end
end Mi
set_option linter.all false
set_option maxRecDepth 100000
set_option maxHeartbeats 2000000
/-! Mi: an own error is made and raised. -/
namespace Mi
open PySem L2 PySem.Spec PyProof.Rows PySem.W

section
variable {X : Cx} {σ : L2.St} {a C fI dx : Addr} {E : Value → Shared → Prop}
/-- where the values stand -/
def AtOk (X : Cx) (σ : L2.St) (fs : List Str) (ws : List V) : Prop := ∀ (j : Nat) (f : Str) (w : V), fs[j]? = some f → ws[j]? = some w → (∃ i : Nat, X.N[i]? = some f ∧ σ[i]? = some (some w)) ∧ Vis X.env.scope f ∧ (f == ("__debug__" : Str)) = false ∧ (f == ("__classdict__" : Str)) = false
theorem AtOk.tail {f : Str} {w : V} {fs : List Str} {ws : List V} (h : AtOk X σ (f :: fs) (w :: ws)) : AtOk X σ fs ws := fun j g u e1 e2 => h (j + 1) g u (by simpa using e1) (by simpa using e2)
theorem asg_one {f : Str} {w : V} {p1 p2 p3 p4 : Pos} {H : Hp} {s : Shared} {Q : Flow → Shared → Prop} (hN : X.N[0]? = some sSelf) (h0 : σ[0]? = some (some (.ref a))) (hs : Vis X.env.scope sSelf) (hf : (∃ i : Nat, X.N[i]? = some f ∧ σ[i]? = some (some w)) ∧ Vis X.env.scope f ∧ (f == ("__debug__" : Str)) = false ∧ (f == ("__classdict__" : Str)) = false)
    (I : Inv X [] σ H s) (h : ∀ s' u, Inv X [] σ H s' → RelV w u → wpAny (model X.prog X.w) X.A (setAttr (.ref a) f u) (fun _ s'' => Q .next s'') X.xe s') : wpAny (model X.prog X.w) X.A (exec (.Assign [.Attribute (.Name sSelf p1) f p2] (.Name f p3) p4) X.env) Q X.xe s := by
  obtain ⟨⟨i, e1, e2⟩, hv, hd, hcd⟩ := hf
  refine plainObj_wpAny_Assign_Attribute (thn ((pe_var (pos := p3) e1 hv hd hcd).run [] s σ H (fun y H1 => y = w ∧ H1 = H) I ⟨w, e2, rfl, rfl⟩) fun u s1 ⟨y, H1, I1, r1, q1, q2⟩ => ?_) rfl
  subst q1
  subst q2
  refine thn ((pe_var (pos := p1) hN hs (by decide) (by decide)).run [] s1 σ _ (fun z H2 => z = .ref a ∧ H2 = H1) I1 ⟨.ref a, h0, rfl, rfl⟩) fun u2 s2 ⟨z, H2, I2, r2, q1, q2⟩ => ?_
  subst q1
  subst q2
  obtain rfl : u2 = Value.ref a := r2
  exact h s2 u I2 r1
theorem asg_run (T : ExcC X.K C fI) (nad : dx ≠ a) (hN : X.N[0]? = some sSelf) (h0 : σ[0]? = some (some (.ref a))) (hs : Vis X.env.scope sSelf) {Q : Flow → Shared → Prop} : ∀ {fs : List Str} {rest : List Stmt}, AsgOk fs rest → ∀ {ws : List V} {done : List (Str × V)} {H : Hp} {s : Shared}, ws.length = fs.length → Inv X [] σ H s → AtOk X σ fs ws → (∀ f ∈ fs, findIn X.K (.ref C) f = some none) →
    H a = some (exo a C (some dx)) → H dx = some (exd dx done) → done.length + fs.length ≤ 900 →
    (∀ s' H', Inv X [] σ H' s' → H' a = some (exo a C (some dx)) → H' dx = some (exd dx ((fs.zip ws).reverse ++ done)) → (∀ b, b ≠ a → b ≠ dx → H' b = H b) → Q .next s') → wpAny (model X.prog X.w) X.A (execs rest X.env) Q X.xe s := by
  intro fs rest h
  induction h with
  | nil =>
    intro ws done H s hl I at_ noA ea ed hz k
    exact wpAny_execs_nil (k s H I ea (by simpa using ed) fun _ _ _ => rfl)
  | @cons f p1 p2 p3 p4 fs r h ih =>
    intro ws done H s hl I at_ noA ea ed hz k
    cases ws with
    | nil => cases hl
    | cons w ws =>
      refine wpAny_execs_cons (asg_one hN h0 hs (at_ 0 f w rfl rfl) I fun s1 u I1 ru => ostX_old T I1 ea ed (by simp at hz; omega) (noA f (List.mem_cons_self ..)) ru fun s2 I2 => ?_)
      refine ih (done := (f, w) :: done) (by simpa using hl) I2 at_.tail (fun g hg => noA g (List.mem_cons_of_mem _ hg)) ?_ upd_same (by simp at hz ⊢; omega) fun s3 H3 I3 ea3 ed3 fr => ?_
      · rw [upd_ne nad.symm]; exact ea
      · refine k s3 H3 I3 ea3 (by rw [ed3]; simp) fun b h1 h2 => ?_
        rw [fr b h1 h2, upd_ne h2]
end
theorem pa_names {X : Cx} {σ : L2.St} {H : Hp} {flds : List Str} (hv : ∀ f ∈ flds, ∃ (i : Nat) (v : V), X.N[i]? = some f ∧ σ[i]? = some (some v) ∧ Vis X.env.scope f ∧ (f == ("__debug__" : Str)) = false ∧ (f == ("__classdict__" : Str)) = false) : ∀ {es : List Expr}, NamesOk flds es →
    ∃ ta vs, PA X es ta ∧ (∀ Q : List V → Hp → Prop, Q vs H → ta σ H Q) ∧ vs.length = es.length ∧ noStar es = true := by
  intro es h
  induction h with
  | nil => exact ⟨tNil, [], pa_nil, fun _ q => q, rfl, rfl⟩
  | @cons f p r hf h ih =>
    obtain ⟨ta, vs, h1, h2, h3, h4⟩ := ih
    obtain ⟨i, v, e1, e2, e3, e4, e5⟩ := hv f hf
    exact ⟨tCons (tVar i) ta, v :: vs, pa_cons (pe_var e1 e3 e4 e5) h1 rfl, fun Q q => ⟨v, e2, h2 _ q⟩, by rw [List.length_cons, List.length_cons, h3], h4⟩
/-- the class's __init__ -/
theorem ini_run {Pm : Program} {w : World} {K : Frag} {mg : Str → Option Value} {base : Heap} {C fI a : Addr} {flds : List Str} {d : IniD} (T : ExcC K C fI) (D : IniOk Pm K mg C fI flds d) {A : Around} {outer : List Env} {s : Shared} {H : Hp} {us : List Value} {vs : List V}
    (hr : A.depth < recursionLimit) (hh : A.handled = none) (e0 : Env0 Pm w K mg base A outer s H) (ea : H a = some (exo a C none)) (rv : Vals vs us) (hl : vs.length = flds.length) (hne : flds ≠ []) (Q : VK)
    (hQ : ∀ H2 dx, H dx = none → dx ≠ a → H2 a = some (exo a C (some dx)) → H2 dx = some (exd dx (flds.zip vs).reverse) → (∀ b, b ≠ a → b ≠ dx → H2 b = H b) → Q .non H2) :
    codeAny (model Pm w) A (.call (.ref fI) ⟨.ref a :: us, []⟩) (CR (fun _ _ _ _ _ _ => False) outer Pm w H s Q (fun _ _ _ => False)) s := by
  have KI : K.In s.heap := e0.mod.kin.keeps fun b o e => (e0.bs b o e).1
  have lim : s.heap.NoLimit := e0.mod.nolimit.keeps fun b o e => (e0.bs b o e).1
  have hul : (Value.ref a :: us).length = flds.length + 1 := by rw [List.length_cons, ← rv.length, hl]
  have r2 : Vals (V.ref a :: vs) (Value.ref a :: us) := .cons rfl rv
  have hsel : ∀ y ∈ (sSelf :: flds).zip (Value.ref a :: us), d.fd.scope.names.lookup y.1 = some .local := fun ⟨n, v⟩ hy => D.sc.par n (List.of_mem_zip hy).1
  refine ks_codeAny_call_defAt (fd := d.fd) (body := d.body) (binds := (sSelf :: flds).zip (Value.ref a :: us)) hr (KI _ _ D.lk) rfl lim (codeRec_of KI D.cod) rfl (.of_eq (D.bind _ hul)) D.sc.nocell hsel (fun h₁ hns kp => ?_) D.sc.co D.sc.gen D.sc.kind
  obtain ⟨oc', hcc⟩ : ∃ o, s.heap.get? d.cc = some o ∧ o.data = .cell (some (.ref C)) := ⟨_, KI _ _ D.cell, rfl⟩
  have bcell : base.get? d.cc = some ⟨d.cl, d.cld, .cell (some (.ref C)), d.csl⟩ := e0.mod.kin _ _ D.cell
  have CA : NdefX.CellsAt d.F.cl [sCls] [none] s.heap H := by
    refine ⟨rfl, fun y c e => ?_, fun x y c e1 e2 => ?_, fun i y e => ?_⟩
    · have e : (if y == sCls then some d.cc else none) = some c := by
        have : List.lookup y [(sCls, d.cc)] = some c := e
        simp only [List.lookup_cons, List.lookup_nil] at this
        cases hb : y == sCls with
        | true => rw [hb] at this; exact this
        | false => rw [hb] at this; cases this
      split at e
      · cases e
        exact ⟨(e0.bs _ _ bcell).2, _, oc', hcc⟩
      · cases e
    · have key : ∀ {z : Str} {c : Addr}, List.lookup z [(sCls, d.cc)] = some c → z = sCls := fun {z c} h => by
        simp only [List.lookup_cons, List.lookup_nil] at h
        cases hb : z == sCls with
        | true => exact eq_of_beq hb
        | false => rw [hb] at h; cases h
      rw [key e1, key e2]
    · cases i with
      | zero =>
        cases e
        exact ⟨d.cc, by simp [List.lookup_cons], fun v ev => by cases ev⟩
      | succ i => cases e
  have J : Inv (NdefX.ncx (fun _ _ _ _ _ _ => False) Pm w K mg base (iniN flds) d.F fI A outer s H (fun _ _ _ => False)) [] (NdefX.startF (iniN flds) (V.ref a :: vs) [none]) H { s with heap := h₁, toks := s.toks + ((sSelf :: flds).zip (Value.ref a :: us)).length } :=
    NdefX.inv_startN D.sc hh e0 (by rw [List.length_cons, List.length_cons, hl]) r2 CA hns kp
  have hval : ∀ (j : Nat) (f : Str) (v : V), flds[j]? = some f → vs[j]? = some v → (iniN flds)[j + 1]? = some f ∧ (NdefX.startF (iniN flds) (V.ref a :: vs) [none])[j + 1]? = some (some v) := fun j f v e1 e2 => by
    refine ⟨?_, ?_⟩
    · unfold iniN
      rw [List.cons_append, List.getElem?_cons_succ, List.getElem?_append_left (List.getElem?_eq_some_iff.mp e1).1]
      exact e1
    · unfold NdefX.startF
      rw [List.getElem?_append_left (by rw [List.length_map, List.length_cons]; have := (List.getElem?_eq_some_iff.mp e2).1; omega), List.getElem?_map, List.getElem?_cons_succ, e2]
      rfl
  have vis : ∀ f ∈ flds, Vis d.scope f ∧ (f == ("__debug__" : Str)) = false ∧ (f == ("__classdict__" : Str)) = false := fun f hf => ⟨.inl (D.sc.par f (List.mem_cons_of_mem _ hf)), D.names f hf⟩
  obtain ⟨p0, p1, apos, e1, es, pos, pos', rest, hb, hargs, hfew, hasg, hc⟩ := D.body
  have hN : (iniN flds)[0]? = some sSelf := rfl
  have h0 : (NdefX.startF (iniN flds) (V.ref a :: vs) [none])[0]? = some (some (.ref a)) := rfl
  have hself : Vis d.scope sSelf := .inl (D.sc.par _ (List.mem_cons_self ..))
  obtain ⟨ta, vs0, ha, hta, hlv, hns'⟩ := pa_names (X := NdefX.ncx (fun _ _ _ _ _ _ => False) Pm w K mg base (iniN flds) d.F fI A outer s H (fun _ _ _ => False)) (σ := NdefX.startF (iniN flds) (V.ref a :: vs) [none]) (H := H) (flds := flds) (fun f hf => by
    obtain ⟨j, hj⟩ := List.mem_iff_getElem?.mp hf
    obtain ⟨v, hv⟩ := get_lt (xs := vs) (i := j) (by rw [hl]; exact (List.getElem?_eq_some_iff.mp hj).1)
    obtain ⟨k1, k2⟩ := hval j f v hj hv
    obtain ⟨v1, v2, v3⟩ := vis f hf
    exact ⟨j + 1, v, k1, k2, v1, v2, v3⟩) hargs
  have fin : ∀ s' H2, Inv (NdefX.ncx (fun _ _ _ _ _ _ => False) Pm w K mg base (iniN flds) d.F fI A outer s H (fun _ _ _ => False)) [] (NdefX.startF (iniN flds) (V.ref a :: vs) [none]) H2 s' → Q .non H2 →
      CR (fun _ _ _ _ _ _ => False) outer Pm w H s Q (fun _ _ _ => False) (.ok (.ret Value.none)) s' := fun s' H2 J2 q => ⟨.non, H2, J2.os, J2.bare, J2.base, J2.hok, rfl, q⟩
  show _root_.PySem.wpAt (model Pm w) (A.deeper (ksEnv d.qual d.scope s.heap.objs.size fI (.ref d.cda) d.cc)) (.func d.body (ksEnv d.qual d.scope s.heap.objs.size fI (.ref d.cda) d.cc)) (execs d.body (ksEnv d.qual d.scope s.heap.objs.size fI (.ref d.cda) d.cc)) _ _ _
  have st := starEach_cons (env := ksEnv d.qual d.scope s.heap.objs.size fI (.ref d.cda) d.cc) hns'
  rw [hb]
  refine ks_wpAt_execs_cons (super_init (X := NdefX.ncx (fun _ _ _ _ _ _ => False) Pm w K mg base (iniN flds) d.F fI A outer s H (fun _ _ _ => False)) (L := s.heap.objs.size) T D rfl J ea hN h0 ha (hta _ ⟨rfl, by rw [hlv, sz_eq]; unfold sizeMax; omega⟩) st.1 (noStar_any st.2) (hc _) fun s1 J1 => ?_)
  show _root_.PySem.wpAt _ _ _ (execs rest _) _ _ _
  refine _root_.PySem.wpAt_of_wpAny ?_
  cases hasg with
  | nil => exact absurd rfl hne
  | @cons f p1 p2 p3 p4 fs r h =>
    cases vs with
    | nil => cases hl
    | cons v vs =>
      have at_ : AtOk (NdefX.ncx (fun _ _ _ _ _ _ => False) Pm w K mg base (iniN (f :: fs)) d.F fI A outer s H (fun _ _ _ => False)) (NdefX.startF (iniN (f :: fs)) (V.ref a :: v :: vs) [none]) (f :: fs) (v :: vs) := fun j g u e1 e2 => by
        obtain ⟨k1, k2⟩ := hval j g u e1 e2
        obtain ⟨v1, v2, v3⟩ := vis g (List.mem_of_getElem? e1)
        exact ⟨⟨j + 1, k1, k2⟩, v1, v2, v3⟩
      refine wpAny_execs_cons (asg_one (X := NdefX.ncx (fun _ _ _ _ _ _ => False) Pm w K mg base (iniN (f :: fs)) d.F fI A outer s H (fun _ _ _ => False)) hN h0 hself (at_ 0 f v rfl rfl) J1 fun s2 u J2 ru => ostX_new (X := NdefX.ncx (fun _ _ _ _ _ _ => False) Pm w K mg base (iniN (f :: fs)) d.F fI A outer s H (fun _ _ _ => False)) T J2 ea (D.noA f (List.mem_cons_self ..)) ru fun dx s3 hdx dne J3 => ?_)
      refine asg_run (X := NdefX.ncx (fun _ _ _ _ _ _ => False) Pm w K mg base (iniN (f :: fs)) d.F fI A outer s H (fun _ _ _ => False)) (done := [(f, v)]) T dne hN h0 hself h (by simpa using hl) J3 at_.tail (fun g hg => D.noA g (List.mem_cons_of_mem _ hg)) upd_same ?_ (by have := D.few; simp at this ⊢; omega) fun s4 H4 J4 ea4 ed4 fr => ?_
      · rw [upd_ne dne, upd_same]
      · refine fin s4 H4 J4 (hQ H4 dx hdx dne ea4 (by rw [ed4]; simp) fun b h1 h2 => ?_)
        rw [fr b h1 h2, upd_ne h1, upd_ne h2]
end Mi
set_option linter.all false
set_option maxRecDepth 100000
set_option maxHeartbeats 2000000
/-! Mi: raise, try. -/
namespace Mi
open PySem L2 PySem.Spec PyProof.Rows PySem.W

def tX (T : Tb) (CL : CLs) (G : Gam) (W : WX) (c : Nat) (m : ME) : L2.St → Hp → XK → Prop := fun σ H E => ∃ hi ρ μ hd, HS (T.hide hi) μ hd H ∧ RL (T.hide hi) CL μ hd H ρ σ ∧
  wEs G m ρ hd (fun ds h => G.nw c ds h (fun _ _ => False) (Xx (T.hide hi) μ hd H E)) (Xx (T.hide hi) μ hd H fun c a => W c a σ)
theorem init_back {e : Addr} {R : Result → Shared → Prop} {r : Result} {s' : Shared} (h : match r with | .ok (.ret v) => v = .none ∧ R (.ok (.ret (.ref e))) s' | .ok _ => False | .error x => R (.error x) s') : InitBack e R r s' := by
  cases r with
  | error x => exact h
  | ok f =>
    cases f with
    | ret v =>
      obtain ⟨rfl, q⟩ := h
      exact ⟨rfl, q⟩
    | next => exact h.elim
    | brk => exact h.elim
    | cont => exact h.elim
section
variable {X : Cx} {T : Tb} {CL : CLs} {G : Gam} {W : WX} {m : ME} {e : Expr} {es : List Expr} {p pos : Pos} {x : Str} {c : Nat} {C fI : Addr} {d : IniD}
variable (hG : GMono G)
include hG
theorem pmk_exc (TC : ExcC X.K C fI) (D : IniOk X.prog X.K X.mg C fI (T.cf c) d) (hne : T.cf c ≠ []) (hca : T.ca c = some C) (hr : Room 2 X.A) (hg : Gl X x) (hm : X.mg x = some (.ref C)) (hdb : (x == ("__debug__" : Str)) = false) (hn : noStar (e :: es) = true)
    (hnw : ∀ ds hd Q Xd, G.nw c ds hd Q Xd → ds.length = (T.cf c).length ∧ Xd ⟨c, ds⟩ hd) (ha : PA X (e :: es) (tL T CL G W m)) : PMk X (.Call (.Name x p) (e :: es) [] pos) (tX T CL G W c m) := by
  intro pins s σ H Q I ⟨hi, ρ, μ, hd, hs, rl, w⟩
  obtain ⟨he, h2⟩ := starEach_cons (env := X.env) hn
  refine wpAny_Call_Name_kw (ld_glob I hg hm ?_ hdb)
  refine callWith_K (h₀ := X.base) I.ok.mod.kin TC.kC (thn (ha.run pos pins s σ H (fun vs H1 => ∃ μ1 hd1 ds, Stp μ hd H μ1 hd1 H1 ∧ HS (T.hide hi) μ1 hd1 H1 ∧ Rs (T.hide hi) μ1 (Live μ1 hd1) H1 ds vs ∧ G.nw c ds hd1 (fun _ _ => False) (Xx (T.hide hi) μ hd H Q)) I
    (tL.mk hG hs rl w id_X fun μ1 hd1 H1 ds xs st hs1 r1 rl1 q => ⟨μ1, hd1, ds, st, hs1, r1, q⟩)) fun us s1 ⟨vs, H1, I1, rv, μ1, hd1, ds, st, hs1, r1, q⟩ => ⟨I1.kIn, ?_⟩) he (noStar_any h2)
  show wpAny _ _ (call (.ref C) us) _ _ _
  obtain ⟨hl, hx⟩ := hnw _ _ _ _ q
  have hlv : vs.length = (T.cf c).length := by rw [Rs.length r1, hl]
  obtain ⟨hp, g, dr, tk, os⟩ := s1
  obtain ⟨nm, N', qn, bs, bm, hdct, sn, sub, ab, col, dd, k0, k1, k2, k3, k5, hC, hT⟩ := excInit_of I1.kIn TC.ini
  have hsz : hp.objs.size ≤ hp.objs.size + 1 := Nat.le_succ _
  have na : H1 (hp.objs.size + 1) = none := I1.hok.fresh hsz
  have kk : ∀ b o, hp.get? b = some o → ((hp.push (kdv_tup us)).push (PySem.HandSPX.excO C hp.objs.size)).get? b = some o := fun b o e => Heap.get?_push_of_some _ (Heap.get?_push_of_some _ e)
  have hget : ((hp.push (kdv_tup us)).push (PySem.HandSPX.excO C hp.objs.size)).get? (hp.objs.size + 1) = some (PySem.HandSPX.excO C hp.objs.size) := by heap_get
  have I2 : Inv X pins σ (upd H1 (hp.objs.size + 1) (exo (hp.objs.size + 1) C none)) ⟨(hp.push (kdv_tup us)).push (PySem.HandSPX.excO C hp.objs.size), g, dr, tk, os⟩ :=
    I1.laid (t' := tk) (a := hp.objs.size + 1) (o := exo (hp.objs.size + 1) C none) (h' := (hp.push (kdv_tup us)).push (PySem.HandSPX.excO C hp.objs.size)) kk hsz (exo_ok hget)
  have hus : us.length ≤ sizeLine := by
    have := D.few
    rw [← rv.length, hlv, sizeLine_eq]
    omega
  have rm := hr.make C us []
  refine wpAny_call (PySem.HandSPX.call_own F.excBase_Exception hT hC (looks_findIn I1.kIn TC.iC) (fun self => bind_fn I1.kIn self TC.tI) hus
    (codeAny_mono (ini_run TC D rm.depth rm.hd (I2.env0.make C us []) upd_same rv hlv hne (fun v H2 => v = .non ∧ ∃ dx, H1 dx = none ∧ dx ≠ hp.objs.size + 1 ∧ H2 (hp.objs.size + 1) = some (exo (hp.objs.size + 1) C (some dx)) ∧ H2 dx = some (exd dx ((T.cf c).zip vs).reverse) ∧ ∀ b, b ≠ hp.objs.size + 1 → b ≠ dx → H2 b = H1 b)
      (fun H2 dx hdx dne e1 e2 fr => ⟨rfl, dx, by rw [upd_ne dne] at hdx; exact hdx, dne, e1, e2, fun b h1 h2 => by rw [fr b h1 h2, upd_ne h1]⟩)) fun r s' hq' => init_back ?_))
  cases r with
  | error er => exact (show False from hq').elim
  | ok fl =>
    cases fl with
    | ret u =>
      obtain ⟨v, H2, os2, bare2, un2, hok2, rv2, ev, dx, hdx, dne, ea, ed, fr⟩ := hq'
      subst ev
      obtain ⟨h2, g2, d2, t2, os'⟩ := s'
      refine ⟨rv2, mk_end (raises_own TC.exC TC.tyC) I1 hsz kk un2 hok2 os2 bare2 ea ed hdx ?_⟩
      have eH : upd (del H2 (hp.objs.size + 1)) dx (.xd ((T.cf c).zip vs).reverse) = upd H1 dx (.xd ((T.cf c).zip vs).reverse) := by
        funext b
        by_cases hb : b = dx
        · subst hb
          rw [upd_same, upd_same]
        · rw [upd_ne hb, upd_ne hb]
          by_cases hb2 : b = hp.objs.size + 1
          · rw [hb2, del_same, na]
          · rw [del_ne hb2, fr b hb2 hb]
      rw [eH]
      have st2 : Stp μ1 hd1 H1 μ1 hd1 (upd H1 dx (.xd ((T.cf c).zip vs).reverse)) := Stp.new hdx
      exact hx μ1 _ C dx vs (st.trans st2) (hs1.new hdx) hca upd_same (Rs.stp hs1 st2 _ _ r1)
    | next => exact (show False from hq').elim
    | brk => exact (show False from hq').elim
    | cont => exact (show False from hq').elim
theorem rs_raise (hc : X.calm = true) (tk : Takes X W) (he : PMk X e (tX T CL G W c m)) : PS X (.Raise (some e) none pos) (tS T CL G W (.rais c m)) :=
  PS.wk (ps_raise hc tk he) fun D σ H ⟨hi, ρ, μ, hd, hs, rl, w⟩ =>
    ⟨hi, ρ, μ, hd, hs, rl, (mo hG m).es ρ hd _ _ _ _ (fun ds hd1 q => hG.nw _ _ _ _ _ _ _ (fun _ _ z => z) (fun x h z => XxS.xx hs rl x h z) q) (fun x h z => XxS.xx hs rl x h z)
      (show wEs G m ρ hd (fun ds h => G.nw c ds h (fun _ _ => False) (XxS (T.hide hi) CL μ hd H W ρ)) (XxS (T.hide hi) CL μ hd H W ρ) from w)⟩
end
end Mi
set_option linter.all false
set_option maxRecDepth 100000
set_option maxHeartbeats 2000000
/-! Mi: try with several clauses, each with a name or without. -/
namespace Mi
open PySem L2 PySem.Spec PyProof.Rows

/-- what a clause's suite may end in: the name of the error goes -/
def endAs (D : Ends) : Option Nat → Ends
  | none => D
  | some i => { nx := fun σ H => D.nx (σ.set i none) H, rt := D.rt, bk := fun σ H => D.bk (σ.set i none) H, ct := fun σ H => D.ct (σ.set i none) H }
def setAs (σ : L2.St) (a : Addr) : Option Nat → L2.St
  | none => σ
  | some i => σ.set i (some (.ref a))
abbrev HL := List (Value × Option Nat × (Addr → Value → Option Addr → TS))
def wCl (K : PySem.W.Frag) (Wout : WX) (D : Ends) : HL → WX
  | [] => Wout
  | (c, i, ts) :: r => fun cls d σ H => ∃ b, PySem.W.exmOne K cls c = some b ∧ (b = true → ∀ a, H a = none → ts a cls d (endAs D i) (setAs σ a i) H) ∧ (b = false → wCl K Wout D r cls d σ H)
inductive ClOk (X : Cx) : List ExceptHandler → HL → Prop
  | nil : ClOk X [] []
  | one {x : Str} {c : Value} {ts : Addr → Value → Option Addr → TS} {b₀ : Stmt} {suite : List Stmt} {np pos' : Pos} {hds : List ExceptHandler} {l : HL} (hc : Names X x c)
      (hsu : ∀ (a : Addr) (oe : Obj) (cls : Value) (d : Option Addr) (pn : List (Addr × Obj)), Zc cls d oe → (∃ vs, oe.data = .fields vs) → PSs (X.suite a ((a, oe) :: pn)) (b₀ :: suite) (ts a cls d)) (r : ClOk X hds l) :
      ClOk X (.ExceptHandler (some (.Name x np)) none (b₀ :: suite) pos' :: hds) ((c, none, ts) :: l)
  | as {x n : Str} {i : Nat} {c : Value} {ts : Addr → Value → Option Addr → TS} {b₀ : Stmt} {suite : List Stmt} {np pos' : Pos} {hds : List ExceptHandler} {l : HL} (hi : X.N[i]? = some n) (hln : X.env.kindOf n = some .local) (hc : Names X x c)
      (hsu : ∀ (a : Addr) (oe : Obj) (cls : Value) (d : Option Addr) (pn : List (Addr × Obj)), Zc cls d oe → (∃ vs, oe.data = .fields vs) → PSs (X.suite a ((a, oe) :: pn)) (b₀ :: suite) (ts a cls d)) (r : ClOk X hds l) :
      ClOk X (.ExceptHandler (some (.Name x np)) (some n) (b₀ :: suite) pos' :: hds) ((c, some i, ts) :: l)
section
variable {X : Cx} {body : List Stmt} {h₀ : ExceptHandler} {hds : List ExceptHandler} {l : HL} {pos : Pos} {tb : WX → TS} {Wout : WX}
theorem ps_try_cl (hs : X.stack = X.env :: X.outer) (hf : X.env.frame = some X.env.locals) (hN : X.N.Nodup) (tk : Takes X Wout)
    (hb : ∀ (W : WX) (pn : List (Addr × Obj)) (xe : Value → Shared → Prop), Takes (X.tr pn xe) W → PassesOwn (model X.prog X.w) X.A X.env xe → PSs (X.tr pn xe) body (tb W))
    (hh : ClOk X (h₀ :: hds) l) : PS X (.Try body (h₀ :: hds) [] [] pos) (fun D σ H => tb (wCl X.K Wout D l) D σ H) := by
  refine ⟨fun pins s σ H D I h => ?_⟩
  have ok := I.ok
  have hfr : X.A.frames = some (X.env :: X.outer) := by rw [ok.frames, hs]
  refine wpAny_Try_except ?_
  refine wpAny_mono ((hb (wCl X.K Wout D l) (X.pn ++ pins) (fun e s₁ => wpAny (model X.prog X.w) X.A (noteFrame e X.env) (fun _ s₂ => wpAny (model X.prog X.w) X.A (setFlight e none) (fun _ s₃ =>
    wpAny (model X.prog X.w) X.A (handleBy e X.env (h₀ :: hds)) (SP X pins D) X.xe s₃) X.xe s₂) X.xe s₁) (fun u s' xx => ?_) PassesOwn.looking).run [] s σ H D (I.toTry _) h) (fun f s1 hsp => ?_) (fun e s1 he => he)
  · obtain ⟨a, B, sI, pins', σ', H', cls, d, rfl, J', nb, up, sky, na, os, ag, w⟩ := xx
    have J : Inv X pins σ' H' sI := J'.ofTry ok
    have sky' : Sky B (X.env :: X.outer) a (Zc cls d) X.env.locals s'.heap := by rw [← hs]; exact sky
    show wpAny (model X.prog X.w) X.A (noteFrame (.ref a) X.env) _ _ _
    refine Sky.land Zc.steady hfr hf sky' fun h3 fl3 up3 => ?_
    have J3 : Inv X pins σ' H' { s' with heap := h3 } := J.landed nb fl3.1 (up.trans up3) os ag
    obtain ⟨oe3, vs3, he3, hz3, hd3⟩ := fl3.there
    have nfr : a ∉ frs (X.env :: X.outer) := fun hm => by
      obtain ⟨_, o', e', hnf⟩ := fl3.2.2.1.mem hm
      rw [he3] at e'; cases e'
      exact hnf _ hd3
    have nL : a ≠ X.env.locals := fun z => nfr (List.mem_filterMap.mpr ⟨X.env, List.mem_cons_self, by rw [hf, z]⟩)
    have nF : a ∉ X.fs := fun hm => by
      obtain ⟨e, he, q⟩ := List.mem_filterMap.mp hm
      exact nfr (List.mem_filterMap.mpr ⟨e, List.mem_cons_of_mem _ he, q⟩)
    have S3 := J3.suite he3 hd3 na nL nF
    have LT : PySem.W.Looks (model X.prog X.w) h3 (typeOf (.ref a)) cls := fun A Q E s k q => wpAny_typeOf_ref (k _ _ he3) (by rw [hz3.1]; exact q)
    have test : ∀ {x : Str} {c : Value} {np : Pos} {Q : Value → Shared → Prop} {E : Value → Shared → Prop}, Names X x c → Q c { s' with heap := h3 } → wpAny (model X.prog X.w) (X.A.mark (some (.ref a))) (eval (.Name x np) X.env) Q E { s' with heap := h3 } := fun {x c np Q E} hc q => by
      obtain ⟨hg, hdbg, hm | ⟨hm, hv, hnn⟩⟩ := hc
      · exact ld_glob (X := X.suite a ((a, oe3) :: (X.pn ++ pins))) S3 hg hm q hdbg
      · exact ld_blt (X := X.suite a ((a, oe3) :: (X.pn ++ pins))) S3 hg hm hv q hnn hdbg
    have go : ∀ {hds' : List ExceptHandler} {l' : HL}, ClOk X hds' l' → wCl X.K Wout D l' cls d σ' H' → wpAny (model X.prog X.w) X.A (handleBy (.ref a) X.env hds') (SP X pins D) X.xe { s' with heap := h3 } := by
      intro hds' l' hk
      induction hk with
      | nil =>
        intro w
        refine wpAny_handleBy_nil ?_
        obtain ⟨k1, k2, k3, oe, vs, T, oT, ts', he, hz, hd, h1, hr⟩ := id fl3
        unfold PySem.passOn
        refine wpAny_bind (wpAny_field he hd h1 ?_)
        rw [if_neg (show ¬ ((Value.ref T == Value.none) = true) from by simp)]
        have fin : wpAny (model X.prog X.w) X.A (setFlight (.ref a) X.env.frame) (fun _ s4 => wpAny (model X.prog X.w) X.A (throw (.ref a) : Sem Flow) (SP X pins D) X.xe s4) X.xe { s' with heap := h3 } := by
          rw [hf]
          refine HandSPX.setFlight_upZ fl3 fun h4 hh4 up4 => wpAny_throw (tk _ _ ?_)
          exact ⟨a, B, sI, pins, σ', H', cls, d, rfl, J, nb, (up.trans up3).trans up4, .inr (.inr (by rw [hs]; exact hh4)), na, os, ag, w⟩
        first
          | exact wpAny_bind (wpAny_pure (wpAny_bind fin))
          | exact wpAny_bind fin
      | @one x c ts b₀ suite np pos' hds2 l2 hc hsu r ih =>
        intro w
        obtain ⟨b, hb1, hyes, hno⟩ := w
        refine wpAny_handleBy_cons (codeAny_handlers_test ?_) (by intro q; cases q)
        have LM := PySem.W.exm_one (M := model X.prog X.w) (J3.kIn) LT hb1
        refine test hc (LM.here ?_)
        cases b with
        | true =>
          refine codeAny_handlers_suite ?_
          refine HandSPX.lands_againZ fl3 fun h4 fl4 up4 => ?_
          have J4 : Inv X pins σ' H' { s' with heap := h4 } := J.landed nb fl4.1 ((up.trans up3).trans up4) os ag
          obtain ⟨oe4, vs4, he4, hz4, hd4⟩ := fl4.there
          have S4 := J4.suite he4 hd4 na nL nF
          refine wpAny_mono ((hsu a oe4 cls d (X.pn ++ pins) hz4 ⟨_, hd4⟩).run [] _ _ H' _ S4 (hyes rfl a na)) (fun f s6 hsp => ?_) (fun _ _ z => False.elim z)
          cases f with
          | next => obtain ⟨σ6, H6, S6, q6⟩ := hsp; exact ⟨_, _, S6.unsuite ok, q6⟩
          | brk => obtain ⟨σ6, H6, S6, q6⟩ := hsp; exact ⟨_, _, S6.unsuite ok, q6⟩
          | cont => obtain ⟨σ6, H6, S6, q6⟩ := hsp; exact ⟨_, _, S6.unsuite ok, q6⟩
          | ret u => obtain ⟨v6, σ6, H6, S6, r6, q6⟩ := hsp; exact ⟨_, _, _, S6.unsuite ok, r6, q6⟩
        | false =>
          show wpAny _ X.A (handleBy (.ref a) X.env hds2) _ _ _
          exact ih (hno rfl)
      | @as x n i c ts b₀ suite np pos' hds2 l2 hi hln hc hsu r ih =>
        intro w
        obtain ⟨b, hb1, hyes, hno⟩ := w
        refine wpAny_handleBy_cons (codeAny_handlers_test ?_) (by intro q; cases q)
        have LM := PySem.W.exm_one (M := model X.prog X.w) (J3.kIn) LT hb1
        refine test hc (LM.here ?_)
        cases b with
        | true =>
          refine codeAny_handlers_suite_as ?_
          refine HandSPX.lands_againZ fl3 fun h4 fl4 up4 => ?_
          have J4 : Inv X pins σ' H' { s' with heap := h4 } := J.landed nb fl4.1 ((up.trans up3).trans up4) os ag
          obtain ⟨oe4, vs4, he4, hz4, hd4⟩ := fl4.there
          have S4 := J4.suite he4 hd4 na nL nF
          refine store_ok (X := X.suite a ((a, oe4) :: (X.pn ++ pins))) (v := .ref a) S4 hN hi (.inl hln) rfl (fun s5 S5 => ?_) (.inr hln)
          refine wpAny_mono ((hsu a oe4 cls d (X.pn ++ pins) hz4 ⟨_, hd4⟩).run [] s5 _ H' _ S5 (hyes rfl a na)) (fun f s6 hsp => ?_) (fun _ _ z => False.elim z)
          cases f with
          | next => obtain ⟨σ6, H6, S6, q6⟩ := hsp; exact gone_ok (S6.unsuite ok) hN hi hln fun s7 J7 => ⟨_, _, J7, q6⟩
          | brk => obtain ⟨σ6, H6, S6, q6⟩ := hsp; exact gone_ok (S6.unsuite ok) hN hi hln fun s7 J7 => ⟨_, _, J7, q6⟩
          | cont => obtain ⟨σ6, H6, S6, q6⟩ := hsp; exact gone_ok (S6.unsuite ok) hN hi hln fun s7 J7 => ⟨_, _, J7, q6⟩
          | ret u => obtain ⟨v6, σ6, H6, S6, r6, q6⟩ := hsp; exact gone_ok (S6.unsuite ok) hN hi hln fun s7 J7 => ⟨_, _, _, J7, r6, q6⟩
        | false =>
          show wpAny _ X.A (handleBy (.ref a) X.env hds2) _ _ _
          exact ih (hno rfl)
    exact go hh w
  · cases f with
    | next => obtain ⟨σ', H', J', q⟩ := hsp; exact wpAny_execs_nil ⟨σ', H', J'.ofTry ok, q⟩
    | brk => obtain ⟨σ', H', J', q⟩ := hsp; exact ⟨σ', H', J'.ofTry ok, q⟩
    | cont => obtain ⟨σ', H', J', q⟩ := hsp; exact ⟨σ', H', J'.ofTry ok, q⟩
    | ret u => obtain ⟨v, σ', H', J', r, q⟩ := hsp; exact ⟨v, σ', H', J'.ofTry ok, r, q⟩
end

/-! ### the clauses as they are told -/
/-- the clauses' suites: each by its own reading, the error at hand -/
inductive HsOk (X : Cx) (T : Tb) (CL : CLs) (G : Gam) : MS → List ExceptHandler → HL → Prop
  | nil : HsOk X T CL G .hn [] []
  | one {x : Str} {c : Nat} {C : Addr} {b r : MS} {b₀ : Stmt} {suite : List Stmt} {np pos' : Pos} {hds : List ExceptHandler} {l : HL} (hca : T.ca c = some C) (hc : Names X x (.ref C))
      (hsu : ∀ (a : Addr) (oe : Obj) (cls : Value) (d : Option Addr) (pn : List (Addr × Obj)), Zc cls d oe → (∃ vs, oe.data = .fields vs) → PSs (X.suite a ((a, oe) :: pn)) (b₀ :: suite) (tS T CL G W0 b)) (h : HsOk X T CL G r hds l) :
      HsOk X T CL G (.hc c none b r) (.ExceptHandler (some (.Name x np)) none (b₀ :: suite) pos' :: hds) ((.ref C, none, fun _ _ _ => tS T CL G W0 b) :: l)
  | as {x n : Str} {i c : Nat} {C : Addr} {b r : MS} {b₀ : Stmt} {suite : List Stmt} {np pos' : Pos} {hds : List ExceptHandler} {l : HL} (hca : T.ca c = some C) (hi : X.N[i]? = some n) (hln : X.env.kindOf n = some .local) (hc : Names X x (.ref C))
      (hsu : ∀ (a : Addr) (oe : Obj) (d : Addr) (pn : List (Addr × Obj)), Zc (.ref C) (some d) oe → (∃ vs, oe.data = .fields vs) → PSs (X.suite a ((a, oe) :: pn)) (b₀ :: suite) (tS T ⟨CL.clo, fun z => if z = a then some (C, d) else none⟩ G W0 b)) (h : HsOk X T CL G r hds l) :
      HsOk X T CL G (.hc c (some i) b r) (.ExceptHandler (some (.Name x np)) (some n) (b₀ :: suite) pos' :: hds) ((.ref C, some i, fun a cls d => fun D σ H => ∃ dd, cls = .ref C ∧ d = some dd ∧ tS T ⟨CL.clo, fun z => if z = a then some (C, dd) else none⟩ G W0 b D σ H) :: l)
section
variable {X : Cx} {T : Tb} {CL : CLs} {G : Gam} {W : WX} {b hs : MS} {body : List Stmt} {h₀ : ExceptHandler} {hds : List ExceptHandler} {l : HL} {pos : Pos}
theorem HsOk.cl {hds : List ExceptHandler} (h : HsOk X T CL G hs hds l) : ClOk X hds l := by
  induction h with
  | nil => exact .nil
  | one hca hc hsu _ ih => exact .one hc hsu ih
  | as hca hi hln hc hsu _ ih =>
    refine .as hi hln hc (fun a oe cls d pn hz hf => ⟨fun pins s σ H D I hw => ?_⟩) ih
    obtain ⟨dd, rfl, rfl, hw⟩ := hw
    exact (hsu a oe dd pn hz hf).run pins s σ H D I hw
theorem RL.back {μ : List Addr} {hd : Hd} {H : Hp} {ρ : Mi.Loc} {σ : L2.St} {T : Tb} {CL1 : CLs} (hc : CL1.clo = CL.clo) (h0 : CL.exn = fun _ => none) (rl : RL T CL1 μ hd H ρ σ) (n : noXL ρ = true) : RL T CL μ hd H ρ σ := ⟨rl.len, fun i d e => by
  obtain ⟨v, e1, r⟩ := rl.val i d e
  have nx : noX d = true := by
    unfold noXL at n
    rw [List.all_eq_true] at n
    exact n _ (List.mem_of_getElem? e)
  have := RA.drop d v nx r
  rw [hc, ← h0] at this
  exact ⟨v, e1, this⟩⟩
variable (hG : GMono G)
include hG
theorem HsOk.wish (hex : ∀ c c' C C', T.ca c = some C → T.ca c' = some C' → PySem.W.exmOne X.K (.ref C) (.ref C') = some (decide (c = c'))) (h0 : CL.exn = fun _ => none) {hds : List ExceptHandler} (h : HsOk X T CL G hs hds l) {hi : List Addr} {μ : List Addr} {hd : Hd} {H : Hp} {D : Ends} {x : Ex} {ρ : Mi.Loc} {hd1 : Hd}
    (w : wH G hs x ρ hd1 (EnX (T.hide hi) CL μ hd H D W)) : XxS (T.hide hi) CL μ hd H (wCl X.K W D l) ρ x hd1 := by
  induction h with
  | nil => exact w
  | @one xx c C b r b₀ suite np pos' hds l hca hc hsu h ih =>
    intro μ' H' σ' C' a ws st hs' rl' e1 e2 e3
    refine ⟨_, hex _ _ _ _ e1 hca, fun hb a' na => ?_, fun hb => ?_⟩
    · have hb := of_decide_eq_true hb
      have w : wS G b ρ hd1 { EnX (T.hide hi) CL μ hd H D W with ex := fun _ _ _ => False } := by
        simp only [wH, if_pos hb] at w
        exact w
      exact tS.mk hG hs' rl' w ⟨fun _ _ q => NxS.stp st q, fun _ _ q => Nx.stp st q, fun _ _ q => NxS.stp st q, fun _ _ q => NxS.stp st q, fun _ _ _ z => z.elim⟩
    · have hb := of_decide_eq_false hb
      simp only [wH, if_neg hb] at w
      exact ih w μ' H' σ' C' a ws st hs' rl' e1 e2 e3
  | @as xx n i c C b r b₀ suite np pos' hds l hca hi' hln hc hsu h ih =>
    intro μ' H' σ' C' a ws st hs' rl' e1 e2 e3
    refine ⟨_, hex _ _ _ _ e1 hca, fun hb a' na => ?_, fun hb => ?_⟩
    · have hb := of_decide_eq_true hb
      subst hb
      have hCC : C' = C := by
        have := e1.symm.trans hca
        exact Option.some.inj this
      subst hCC
      have w : i < ρ.length ∧ wS G b (ρ.set i (some (.exn x.c x.ds))) hd1 { EnX (T.hide hi) CL μ hd H D W with ex := fun _ _ _ => False, nx := fun ρ h => noXL (ρ.set i none) = true ∧ NxS (T.hide hi) CL μ hd H D.nx (ρ.set i none) h, bk := fun ρ h => noXL (ρ.set i none) = true ∧ NxS (T.hide hi) CL μ hd H D.bk (ρ.set i none) h, ct := fun ρ h => noXL (ρ.set i none) = true ∧ NxS (T.hide hi) CL μ hd H D.ct (ρ.set i none) h } := by
        simp only [wH, if_pos] at w
        exact w
      refine ⟨a, rfl, rfl, ?_⟩
      have le : CL.Le ⟨CL.clo, fun z => if z = a' then some (C', a) else none⟩ H' := ⟨fun _ _ _ _ z => z, fun y p z => by rw [h0] at z; cases z⟩
      have rl2 := (rl'.more le).set (i := i) (d := .exn x.c x.ds) (v := .ref a') ⟨a', a, C', ws, rfl, if_pos rfl, hca, e2, e3⟩
      have bk : ∀ {N : L2.St → Hp → Prop} {ρ1 : Mi.Loc} {hd2 : Hd}, noXL (ρ1.set i none) = true ∧ NxS (T.hide hi) CL μ hd H N (ρ1.set i none) hd2 → NxS (T.hide hi) ⟨CL.clo, fun z => if z = a' then some (C', a) else none⟩ μ' hd1 H' (fun σ H => N (σ.set i none) H) ρ1 hd2 := fun q μ2 H2 σ2 st2 hs2 rl3 =>
        q.2 μ2 H2 _ (st.trans st2) hs2 (RL.back (CL := CL) (CL1 := ⟨CL.clo, fun z => if z = a' then some (C', a) else none⟩) rfl h0 (RL.wipeOne (i := i) rl3) q.1)
      exact tS.mk hG hs' rl2 w.2 ⟨fun _ _ q => bk q, fun _ _ q => Nx.stp st q, fun _ _ q => bk q, fun _ _ q => bk q, fun _ _ _ z => z.elim⟩
    · have hb := of_decide_eq_false hb
      simp only [wH, if_neg hb] at w
      exact ih w μ' H' σ' C' a ws st hs' rl' e1 e2 e3
theorem rs_try (hst : X.stack = X.env :: X.outer) (hfr : X.env.frame = some X.env.locals) (hN : X.N.Nodup) (tk : Takes X W) (hex : ∀ c c' C C', T.ca c = some C → T.ca c' = some C' → PySem.W.exmOne X.K (.ref C) (.ref C') = some (decide (c = c'))) (h0 : CL.exn = fun _ => none)
    (hb : ∀ (W : WX) (pn : List (Addr × Obj)) (xe : Value → Shared → Prop), Takes (X.tr pn xe) W → PassesOwn (model X.prog X.w) X.A X.env xe → PSs (X.tr pn xe) body (tS T CL G W b))
    (hh : HsOk X T CL G hs (h₀ :: hds) l) : PS X (.Try body (h₀ :: hds) [] [] pos) (tS T CL G W (.tryS b hs)) :=
  PS.wk (ps_try_cl hst hfr hN tk hb hh.cl) fun D σ H ⟨hi, ρ, μ, hd, hs', rl, w⟩ => ⟨hi, ρ, μ, hd, hs', rl, (moS hG b).s ρ hd { EnX (T.hide hi) CL μ hd H D W with ex := fun ρ x h => wH G hs x ρ h (EnX (T.hide hi) CL μ hd H D W) } (EnX (T.hide hi) CL μ hd H D (wCl X.K W D l)) ⟨fun _ _ q => q, fun _ _ q => q, fun _ _ q => q, fun _ _ q => q, fun _ _ _ q => HsOk.wish hG hex h0 hh q⟩
    (show wS G b ρ hd { EnX (T.hide hi) CL μ hd H D W with ex := fun ρ x h => wH G hs x ρ h (EnX (T.hide hi) CL μ hd H D W) } from w)⟩
/-- err.f in an except suite -/
theorem re_fle {a : Addr} {oe : Obj} {C d : Addr} {pn : List (Addr × Obj)} {i c j : Nat} {n f : Str} {p pos : Pos} {clo : Addr → Option (Nat × List (Str × Addr) × List V)} (TC : XfC X.K C) (hno : PySem.W.findIn X.K (.ref C) f = some none) (hz : Zc (.ref C) (some d) oe) (hf : ∃ vs, oe.data = .fields vs)
    (hN : X.N[i]? = some n) (hv : Vis X.env.scope n) (hd : (n == ("__debug__" : Str)) = false) (hcd : (n == ("__classdict__" : Str)) = false) (hfj : (T.cf c)[j]? = some f) (hnd : (T.cf c).Nodup) :
    PE (X.suite a ((a, oe) :: pn)) (.Attribute (.Name n p) f pos) (tI T ⟨clo, fun z => if z = a then some (C, d) else none⟩ G W (.fle i c j)) :=
  PE.wk (pe_xf TC hno hz hf (pe_var (X := X.suite a ((a, oe) :: pn)) hN hv hd hcd) rfl) fun σ H Q ⟨hi, ρ, μ, hd, hs, rl, w⟩ => by
    obtain ⟨x, e1, w⟩ := opt_get (show opt (getL ρ i) _ from w)
    cases x <;> first | exact (show False from w).elim | skip
    rename_i c' ds
    obtain ⟨rfl, w2⟩ := (show c' = c ∧ _ from w)
    obtain ⟨dd, e2, w3⟩ := opt_get w2
    obtain ⟨v, e3, r⟩ := rl.get e1
    obtain ⟨a', d', C', ws, rfl, h1, h2, h3, h4⟩ := r
    have h1 : (if a' = a then some (C, d) else none) = some (C', d') := h1
    split at h1
    · rename_i ha
      cases h1
      subst ha
      obtain ⟨u, e4, ru⟩ := Rs.get h4 e2
      refine ⟨_, e3, rfl, rfl, d, _, u, rfl, h3, ?_, Nx.now w3 hs ru⟩
      have key : ∀ {fs : List Str} {ws : List V} {j : Nat}, fs.Nodup → fs[j]? = some f → ws[j]? = some u → ((fs.zip ws).reverse).lookup f = some u := by
        intro fs
        induction fs with
        | nil => intro ws j _ h _; cases h
        | cons g fs ih =>
          intro ws j nd h1 h2
          cases ws with
          | nil => cases h2
          | cons y ws =>
            cases j with
            | zero =>
              cases h1; cases h2
              have hn : ((fs.zip ws).reverse).lookup f = none := by
                cases hl : ((fs.zip ws).reverse).lookup f with
                | none => rfl
                | some z => exact absurd (List.of_mem_zip (List.mem_reverse.mp (PySem.mem_of_lookup hl))).1 (List.nodup_cons.mp nd).1
              rw [List.zip_cons_cons, List.reverse_cons, List.lookup_append, hn]
              simp [List.lookup_cons]
            | succ j =>
              rw [List.zip_cons_cons, List.reverse_cons, List.lookup_append, ih (List.nodup_cons.mp nd).2 (by simpa using h1) (by simpa using h2)]
              rfl
      exact key hnd hfj e4
    · cases h1
end
end Mi
set_option linter.all false
set_option maxRecDepth 100000
set_option maxHeartbeats 2000000
/-! Mi: does a text stand for what is told? Expressions. -/
namespace Mi
open PySem L2 PySem.Spec PyProof.Rows

/-- the module's names -/
structure NT where
  g : Str → Option Nat
  f : Str → Option Nat
  c : Str → Option Nat
  b : Str → Bool
  gcd : Bool
  cf : Nat → List Str
  fp : Nat → List Str
/-- where a text stands -/
structure SC where
  N : List Str
  sc : Scope
  fn : Str → Bool
  calm : Bool
  calls : Bool
  lam : Bool
  qual : Str
  exn : Option (Nat × Nat)
def SC.blk (S : SC) (scope : Scope) : SC := { S with sc := relS scope S.sc, fn := fun x => scope.names.lookup x == some .cell, lam := false, exn := none }
abbrev Ck := Option (List (Nat × LaC))
def need (b : Bool) : Ck := if b = true then some [] else none
def both : Ck → Ck → Ck
  | some a, some b => some (a ++ b)
  | _, _ => none
def Yes (T : Tb) (c : Ck) : Prop := ∃ l, c = some l ∧ ∀ p ∈ l, T.la p.1 = p.2
section
variable {T : Tb} {a b : Ck} {c : Bool}
theorem Yes.no (h : Yes T none) : False := by obtain ⟨l, e, _⟩ := h; cases e
theorem Yes.is (h : Yes T (need c)) : c = true := by
  cases c with
  | true => rfl
  | false => exact h.no.elim
theorem Yes.two (h : Yes T (both a b)) : Yes T a ∧ Yes T b := by
  cases a with
  | none => exact h.no.elim
  | some a => cases b with
    | none => exact h.no.elim
    | some b =>
      obtain ⟨l, e, k⟩ := h
      cases e
      exact ⟨⟨a, rfl, fun p hp => k p (List.mem_append_left _ hp)⟩, ⟨b, rfl, fun p hp => k p (List.mem_append_right _ hp)⟩⟩
end
def okN (x : Str) : Bool := !(x == ("__debug__" : Str)) && !(x == ("__classdict__" : Str))
def glB (S : SC) (x : Str) : Bool := decide (S.sc.names.lookup x = some .globalImplicit)
def kindV : Option NameKind → Bool
  | some .local => true
  | some .cell => true
  | some .free => true
  | _ => false
def visB (S : SC) (i : Nat) (x : Str) : Bool := decide (S.N[i]? = some x) && kindV (S.sc.names.lookup x) && okN x
def putB (S : SC) (i : Nat) (x : Str) : Bool := decide (S.N[i]? = some x) && (decide (S.sc.names.lookup x = some .local) || (decide (S.sc.names.lookup x = some .cell) && S.fn x))
def ckC : D → Expr → Bool
  | .int i, .Constant (.int j) _ _ => decide (i = j)
  | .bl i, .Constant (.bool j) _ _ => decide (i = j)
  | .non, .Constant .none _ _ => true
  | .str s, .Constant (.str x) _ _ => decide (x.cps.toList = s)
  | _, _ => false
def ckTy (nt : NT) (S : SC) (t : Ty) : Expr → Bool
  | .Name x _ => glB S x && okN x && (match t with
    | .cls c => decide (nt.c x = some c)
    | t => decide (x = tyN t) && nt.b x)
  | _ => false
def plainT : Expr → Bool
  | .UnaryOp .Not _ _ => false
  | .BoolOp _ _ _ => false
  | .IfExp _ _ _ _ => false
  | .Compare _ _ _ _ => false
  | _ => true
def notSet : Expr → Bool
  | .Set _ _ _ => false
  | _ => true
mutual
def ckP (S : SC) : Pat → Expr → Bool
  | .nm i, e => match e with | .Name x _ => putB S i x | _ => false
  | .tp p, e => match e with | .Tuple es _ _ => S.calm && noStar es && decide (es.length = patLen p) && ckPs S p es | _ => false
  | .nl, _ => false
  | .cn _ _, _ => false
def ckPs (S : SC) : Pat → List Expr → Bool
  | .nl, es => match es with | [] => true | _ => false
  | .cn p r, es => match es with | e :: es => noStar (e :: es) && ckP S p e && ckPs S r es | _ => false
  | .nm _, _ => false
  | .tp _, _ => false
end
def argNames (l : List Arg) : List Str := l.map (·.arg)
/-- no defaults, only names by place -/
def plainArgs (p : Arguments) : Bool := p.posonlyargs.isEmpty && p.vararg.isNone && p.kwonlyargs.isEmpty && p.kw_defaults.isEmpty && p.kwarg.isNone && p.defaults.isEmpty
def ownOf (N : List Str) (vs : List Nat) : List (Str × Nat) := vs.filterMap fun i => (N[i]?).map fun x => (x, i)
def lamB (S : SC) (params : Arguments) (scope : Scope) (js : List Nat) (fr : List Str) : Bool :=
  S.lam && plainArgs params && scope.names.all (fun y => !decide (y.2 = .free) || (decide (S.sc.names.lookup y.1 = some .cell) || decide (S.sc.names.lookup y.1 = some .free))) && fr.all (fun y => decide ((y, NameKind.free) ∈ scope.names)) && decide (js.map (fun j => S.N[j]?) = fr.map some)
def frOf (N : List Str) (js : List Nat) : List Str := js.filterMap fun j => N[j]?
def isGcd : Bf → Bool
  | .gcd => true
  | _ => false
mutual
def ckE (nt : NT) (S : SC) : ME → Expr → Ck
  | .c d, e => need (ckC d e)
  | .g k, e => match e with | .Name x _ => need (glB S x && okN x && decide (nt.g x = some k)) | _ => none
  | .v i, e => match e with | .Name x _ => need (visB S i x) | _ => none
  | .nl, _ => none
  | .cn _ _, _ => none
  | .tup m, e => match e with | .Tuple es _ _ => ckL nt S m es | _ => none
  | .lst m, e => match e with | .List es _ => ckL nt S m es | _ => none
  | .lsh m, e => match e with | .List es _ => ckL nt S m es | _ => none
  | .dic, _ => none
  | .neg a, e => match e with | .UnaryOp .USub x _ => ckE nt S a x | _ => none
  | .bin o a b, e => match e with | .BinOp x op y _ => both (need (decide (op = bo o))) (both (ckE nt S a x) (ckE nt S b y)) | _ => none
  | .cmp o a b, e => match e with | .Compare x [op] [y] _ => both (need (decide (op = co o) && !behindInMarks (co o) y)) (both (ckE nt S a x) (ckE nt S b y)) | _ => none
  | .chn o p a b c, e => match e with | .Compare x [op, oq] [y, z] _ => both (need (decide (op = co o) && decide (oq = co p) && !lastMarks [co o, co p] [y, z])) (both (ckE nt S a x) (both (ckE nt S b y) (ckE nt S c z))) | _ => none
  | .and a b, e => match e with
    | .BoolOp .And [x, y] _ => both (ckE nt S a x) (ckE nt S b y)
    | .BoolOp .And (x :: y :: z :: r) _ => both (ckE nt S a x) (ckAnd nt S b (y :: z :: r))
    | _ => none
  | .or a b, e => match e with
    | .BoolOp .Or [x, y] _ => both (ckE nt S a x) (ckE nt S b y)
    | .BoolOp .Or (x :: y :: z :: r) _ => both (ckE nt S a x) (ckOr nt S b (y :: z :: r))
    | _ => none
  | .not a, e => match e with | .UnaryOp .Not x _ => ckE nt S a x | _ => none
  | .ite t a b, e => match e with | .IfExp c x y _ => both (ckT nt S t c) (both (ckE nt S a x) (ckE nt S b y)) | _ => none
  | .isa a ts, e => match ts, e with
    | [t], .Call (.Name f _) [x, et] [] _ => both (need (decide (f = ("isinstance" : Str)) && glB S f && nt.b f && noStar [x, et] && ckTy nt S t et)) (ckE nt S a x)
    | _, _ => none
  | .ix a b, e => match e with | .Subscript x y _ => both (need (noSlice y)) (both (ckE nt S a x) (ckE nt S b y)) | _ => none
  | .slc a lo hi, e => match e with | .Subscript x (.Slice l h none _) _ => both (ckE nt S a x) (both (ckO nt S lo l) (ckO nt S hi h)) | _ => none
  | .call f es, e => match e with
    | .Call (.Name x _) [] [] _ => both (need (S.calls && glB S x && okN x && decide (nt.f x = some f))) (ckA nt S es [])
    | .Call (.Name x _) (a :: as) [] _ => both (need (S.calls && glB S x && okN x && decide (nt.f x = some f) && noStar (a :: as))) (ckA nt S es (a :: as))
    | .Call (.Name x _) [] (k :: ks) _ => both (need (S.calls && glB S x && okN x && decide (nt.f x = some f) && kwOk (k :: ks) && decide (kwNames (k :: ks) = nt.fp f))) (ckK nt S es (k :: ks))
    | _ => none
  | .clv i es, e => match e with
    | .Call (.Name x _) [] [] _ => both (need (S.calls && visB S i x)) (ckA nt S es [])
    | .Call (.Name x _) (a :: as) [] _ => both (need (S.calls && visB S i x && noStar (a :: as))) (ckA nt S es (a :: as))
    | _ => none
  | .new _ _, _ => none
  | .bf b es, e => match e with | .Call (.Name x _) (a :: as) [] _ => both (need (S.calm && decide (x = bfN b) && glB S x && (if isGcd b = true then nt.gcd else nt.b x) && noStar (a :: as))) (ckL nt S es (a :: as)) | _ => none
  | .mt m o es, e => match e with | .Call (.Attribute r f apos) (a :: as) [] pos => both (need (mtDone m && decide (f = mtN m) && baseOk r && noStar (a :: as) && decide ((a :: as).length < 30) && (apos.endLine == pos.line))) (both (ckE nt S o r) (ckL nt S es (a :: as))) | _ => none
  | .fld _ _, _ => none
  | .met _ _ _, _ => none
  | .lc p it cond elt vs, e => match e with
    | .ListComp el [⟨tg, iter, ifs, asy⟩] scope _ =>
      both (need (S.calm && decide (asy = 0) && blkC S.N S.sc scope (ownOf S.N vs) && decide ((ownOf S.N vs).map (·.2) = vs) && (patIx p).all (fun i => decide (i ∈ vs)) && notSet iter && ckP (S.blk scope) p tg))
        (both (ckI nt S it tg iter) (both (match ifs with
          | [] => (match cond with | .tr (.c (.bl true)) => some [] | _ => none)
          | [c] => ckT nt (S.blk scope) cond c
          | _ => none) (ckE nt (S.blk scope) elt el)))
    | _ => none
  | .it1 _ _, _ => none
  | .tr _, _ => none
  | .vl _, _ => none
  | .sm _, _ => none
  | .va _, _ => none
  | .lam _ _, _ => none
  | .fle i c j, e => match e with | .Attribute (.Name n _) f _ => need (decide (S.exn = some (i, c)) && visB S i n && decide ((nt.cf c)[j]? = some f)) | _ => none
def ckAnd (nt : NT) (S : SC) : ME → List Expr → Ck
  | .and a b, es => match es with
    | [x, y] => both (ckE nt S a x) (ckE nt S b y)
    | x :: y :: z :: r => both (ckE nt S a x) (ckAnd nt S b (y :: z :: r))
    | _ => none
  | _, _ => none
def ckOr (nt : NT) (S : SC) : ME → List Expr → Ck
  | .or a b, es => match es with
    | [x, y] => both (ckE nt S a x) (ckE nt S b y)
    | x :: y :: z :: r => both (ckE nt S a x) (ckOr nt S b (y :: z :: r))
    | _ => none
  | _, _ => none
def ckT (nt : NT) (S : SC) : ME → Expr → Ck
  | .and a b, e => match e with
    | .BoolOp .And [x, y] _ => both (ckT nt S a x) (ckT nt S b y)
    | .BoolOp .And (x :: y :: z :: r) _ => both (ckT nt S a x) (ckTA nt S b (y :: z :: r))
    | _ => none
  | .or a b, e => match e with
    | .BoolOp .Or [x, y] _ => both (ckT nt S a x) (ckT nt S b y)
    | .BoolOp .Or (x :: y :: z :: r) _ => both (ckT nt S a x) (ckTO nt S b (y :: z :: r))
    | _ => none
  | .not a, e => match e with | .UnaryOp .Not x _ => ckT nt S a x | _ => none
  | .cmp o a b, e => match e with | .Compare x [op] [y] _ => both (need (decide (op = co o) && !behindInMarks (co o) y)) (both (ckE nt S a x) (ckE nt S b y)) | _ => none
  | .chn o p a b c, e => match e with | .Compare x [op, oq] [y, z] _ => both (need (decide (op = co o) && decide (oq = co p) && !lastMarks [co o, co p] [y, z])) (both (ckE nt S a x) (both (ckE nt S b y) (ckE nt S c z))) | _ => none
  | .tr a, e => both (need (plainT e)) (ckE nt S a e)
  | _, _ => none
def ckTA (nt : NT) (S : SC) : ME → List Expr → Ck
  | .and a b, es => match es with
    | [x, y] => both (ckT nt S a x) (ckT nt S b y)
    | x :: y :: z :: r => both (ckT nt S a x) (ckTA nt S b (y :: z :: r))
    | _ => none
  | _, _ => none
def ckTO (nt : NT) (S : SC) : ME → List Expr → Ck
  | .or a b, es => match es with
    | [x, y] => both (ckT nt S a x) (ckT nt S b y)
    | x :: y :: z :: r => both (ckT nt S a x) (ckTO nt S b (y :: z :: r))
    | _ => none
  | _, _ => none
def ckL (nt : NT) (S : SC) : ME → List Expr → Ck
  | .nl, es => match es with | [] => some [] | _ => none
  | .cn a r, es => match es with | e :: es => both (need (noStar (e :: es))) (both (ckE nt S a e) (ckL nt S r es)) | _ => none
  | _, _ => none
def ckA (nt : NT) (S : SC) : ME → List Expr → Ck
  | .nl, es => match es with | [] => some [] | _ => none
  | .cn a r, es => match es with | e :: es => both (need (noStar (e :: es))) (both (ckA1 nt S a e) (ckA nt S r es)) | _ => none
  | _, _ => none
def ckK (nt : NT) (S : SC) : ME → List Keyword → Ck
  | .nl, es => match es with | [] => some [] | _ => none
  | .cn a r, es => match es with | ⟨_, e, _⟩ :: es => both (ckA1 nt S a e) (ckK nt S r es) | _ => none
  | _, _ => none
def ckA1 (nt : NT) (S : SC) : ME → Expr → Ck
  | .lam k js, e => match e with
    | .Lambda params body scope _ => both (need (lamB S params scope js (frOf S.N js))) (some [(k, ⟨S.qual ++ "<lambda>", params, body, scope, argNames params.args, frOf S.N js⟩)])
    | _ => none
  | .va i, e => match e with | .Name x _ => need (visB S i x) | _ => none
  | .vl a, e => ckE nt S a e
  | _, _ => none
def ckO (nt : NT) (S : SC) : ME → Option Expr → Ck
  | .nl, e => match e with | none => some [] | _ => none
  | .sm a, e => match e with | some e => ckE nt S a e | _ => none
  | _, _ => none
def ckI (nt : NT) (S : SC) : ME → Expr → Expr → Ck
  | .it1 .val (.cn m .nl), _, e => ckE nt S m e
  | .it1 .range (.cn m .nl), _, e => match e with | .Call (.Name f _) [x] [] _ => both (need (decide (f = ("range" : Str)) && glB S f && nt.b f && noStar [x])) (ckE nt S m x) | _ => none
  | .it1 .range (.cn m (.cn m2 .nl)), _, e => match e with | .Call (.Name f _) [x, y] [] _ => both (need (decide (f = ("range" : Str)) && glB S f && nt.b f && noStar [x, y])) (both (ckE nt S m x) (ckE nt S m2 y)) | _ => none
  | .it1 .enum (.cn m .nl), tg, e => match tg, e with | .Tuple _ _ _, .Call (.Name f _) [x] [] _ => both (need (decide (f = ("enumerate" : Str)) && glB S f && nt.b f && noStar [x])) (ckE nt S m x) | _, _ => none
  | .it1 .zip (.cn m (.cn m2 .nl)), tg, e => match tg, e with | .Tuple _ _ _, .Call (.Name f _) [x, y] [] _ => both (need (decide (f = ("zip" : Str)) && glB S f && nt.b f && noStar [x, y])) (both (ckE nt S m x) (ckE nt S m2 y)) | _, _ => none
  | _, _, _ => none
end
end Mi
set_option linter.all false
set_option maxRecDepth 100000
set_option maxHeartbeats 4000000
/-! Mi: what the looking at a text says: expressions. -/
namespace Mi
open PySem L2 PySem.Spec PyProof.Rows

/-- the context is as told -/
structure CxF (X : Cx) (T : Tb) (CL : CLs) (G : Gam) (W : WX) (nt : NT) (S : SC) : Prop where
  mono : GMono G
  K : X.K = T.K
  u : X.A.units + 64 < cLine
  N : X.N = S.N
  nd : S.N.Nodup
  sc : X.env.scope = S.sc
  fn : ∀ x, S.fn x = true → X.fn x = true
  calm : S.calm = true → X.calm = true
  qual : X.env.qual = S.qual
  g : ∀ x k, nt.g x = some k → ∃ u v, X.mg x = some u ∧ RelV v u ∧ ∀ hi μ Lv H, R (T.hide hi) μ Lv H (G.gc k) v
  b : ∀ x, nt.b x = true → X.mg x = none
  gcd : nt.gcd = true → X.mg "gcd" = some (.builtin "math.gcd")
  cls : ∀ x c, nt.c x = some c → ∃ C, T.ca c = some C ∧ X.mg x = some (.ref C) ∧ clsNot T.K C
  calls : S.calls = true → Takes X W ∧ CLx T CL X ∧ ∃ k, FnI T X.prog X.w X.K X.mg X.base G k ∧ LamI T X.prog X.w X.K X.mg X.base G k ∧ Room k X.A ∧ HandOk X T G ∧
    ∀ x fi, nt.f x = some fi → T.fp fi = nt.fp fi ∧ (∃ a, T.fa fi = some a ∧ X.mg x = some (.ref a)) ∧ ∀ us : List Value, us.length = (T.fp fi).length → bindArgs (T.fd fi) ⟨[], (T.fp fi).zip us⟩ = pure ((T.fp fi).zip us)
  lam : S.lam = true → ∃ c P, LamX.TabB X.base X.mg c P ∧ X.env.code = .ref c ∧ (P, X.env.qual ++ "<lambda>") ∈ T.tb ∧ ∀ p ∈ T.tb, p.1 = P → p.2 = X.env.qual ++ "<lambda>"
  fle : ∀ i c, S.exn = some (i, c) → ∀ (j : Nat) (n f : Str) (p pos : Pos), S.N[i]? = some n → Vis X.env.scope n → (n == ("__debug__" : Str)) = false → (n == ("__classdict__" : Str)) = false → (nt.cf c)[j]? = some f → PE X (.Attribute (.Name n p) f pos) (tI T CL G W (.fle i c j))

theorem okN_get {x : Str} (h : okN x = true) : (x == ("__debug__" : Str)) = false ∧ (x == ("__classdict__" : Str)) = false := by
  unfold okN at h
  simp only [Bool.and_eq_true, Bool.not_eq_true'] at h
  exact h
section
variable {X : Cx} {T : Tb} {CL : CLs} {G : Gam} {W : WX} {nt : NT} {S : SC}
theorem CxF.gl {x : Str} (F : CxF X T CL G W nt S) (h : glB S x = true) : Gl X x := by
  unfold glB at h
  show X.env.scope.names.lookup x = _
  rw [F.sc]
  exact of_decide_eq_true h
theorem CxF.vis {i : Nat} {x : Str} (F : CxF X T CL G W nt S) (h : visB S i x = true) : X.N[i]? = some x ∧ Vis X.env.scope x ∧ (x == ("__debug__" : Str)) = false ∧ (x == ("__classdict__" : Str)) = false := by
  unfold visB at h
  simp only [Bool.and_eq_true, decide_eq_true_eq] at h
  obtain ⟨⟨h1, h2⟩, h3⟩ := h
  refine ⟨by rw [F.N]; exact h1, ?_, okN_get h3⟩
  unfold Vis
  rw [F.sc]
  revert h2
  cases S.sc.names.lookup x with
  | none => intro h; cases h
  | some k => cases k <;> intro h <;> first | cases h; done | simp
theorem CxF.put {i : Nat} {x : Str} (F : CxF X T CL G W nt S) (h : putB S i x = true) : X.N[i]? = some x ∧ L2.Loc X.env.scope x ∧ (X.fn x = true ∨ X.env.scope.names.lookup x = some .local) := by
  unfold putB at h
  simp only [Bool.and_eq_true, Bool.or_eq_true, decide_eq_true_eq] at h
  obtain ⟨h1, h2⟩ := h
  refine ⟨by rw [F.N]; exact h1, ?_, ?_⟩
  · unfold L2.Loc
    rw [F.sc]
    rcases h2 with h2 | ⟨h2, _⟩
    · exact .inl h2
    · exact .inr h2
  · rcases h2 with h2 | ⟨_, h2⟩
    · exact .inr (by rw [F.sc]; exact h2)
    · exact .inl (F.fn _ h2)
theorem CxF.ty {t : Ty} {e : Expr} (F : CxF X T CL G W nt S) (h : ckTy nt S t e = true) : ∃ v u, tyVal T t v u ∧ PE X e (tC v) := by
  unfold ckTy at h
  split at h
  · rename_i x pos
    simp only [Bool.and_eq_true] at h
    obtain ⟨⟨h1, h2⟩, h3⟩ := h
    have ho := okN_get h2
    have bt : ∀ {t : Ty} {s : String}, (decide (x = tyN t) && nt.b x) = true → (∀ v u, v = V.ty s ∧ u = Value.type s → tyVal T t v u) → bootBuiltins (tyN t) = some (.type s) → tyN t ≠ "__name__" → ∃ v u, tyVal T t v u ∧ PE X (.Name x pos) (tC v) := by
      intro t s h k hb hn
      simp only [Bool.and_eq_true, decide_eq_true_eq] at h
      obtain ⟨rfl, h⟩ := h
      exact ⟨_, _, k _ _ ⟨rfl, rfl⟩, pe_bltn (F.gl h1) (F.b _ h) hb (show RelV (.ty s) (.type s) from rfl) hn ho.1⟩
    cases t with
    | cls c =>
      obtain ⟨C, e1, e2, e3⟩ := F.cls x c (of_decide_eq_true h3)
      exact ⟨.ref C, .ref C, ⟨C, e1, rfl, rfl, e3⟩, pe_glob (F.gl h1) e2 rfl ho.1⟩
    | int => exact bt h3 (fun _ _ z => z) rfl (by decide)
    | bool => exact bt h3 (fun _ _ z => z) rfl (by decide)
    | str => exact bt h3 (fun _ _ z => z) rfl (by decide)
    | tup => exact bt h3 (fun _ _ z => z) rfl (by decide)
    | lst => exact bt h3 (fun _ _ z => z) rfl (by decide)
  · cases h
theorem notSet_ok {e : Expr} {env : Env} (h : notSet e = true) (x : Value) : foldedSetIterable e env x = pure x := by
  cases e <;> first | rfl | cases h
theorem plainT_ok {e : Expr} {env : Env} (h : plainT e = true) (whole : Sem Value) : isTrue e env whole = (do let v ← whole; standAt e.pos; holding [v] (truthy v)) := by
  cases e with
  | UnaryOp op x p => cases op <;> first | rfl | cases h
  | BoolOp _ _ _ => cases h
  | IfExp _ _ _ _ => cases h
  | Compare _ _ _ _ => cases h
  | _ => rfl
/-- a comprehension's own context -/
theorem CxF.block (F : CxF X T CL G W nt S) (s : Shared) (H : Hp) (C : Addr) (cl : List (Str × Addr)) (fp : List Addr) (scope : Scope) : CxF (X.blk s H scope (compEnvC scope cl C X.env) fp) T CL0 G W0 nt (S.blk scope) where
  mono := F.mono
  K := F.K
  u := F.u
  N := F.N
  nd := F.nd
  sc := by
    show relabel scope X.env = relS scope S.sc
    rw [← F.sc]
    rfl
  fn := fun x h => h
  calm := F.calm
  qual := F.qual
  g := F.g
  b := F.b
  gcd := F.gcd
  cls := F.cls
  calls := fun h => by
    obtain ⟨_, _, k, h1, h2, h3, h4, h5⟩ := F.calls h
    refine ⟨fun u s' xx => ?_, ⟨fun _ _ _ _ z => (by cases z), fun _ _ _ _ z => (by cases z)⟩, k, h1, h2, h3, h4, h5⟩
    obtain ⟨a, B, sI, pins', σ', H', cls, d, rfl, J', nb, up, sky, na, os, ag, w⟩ := xx
    exact w
  lam := fun h => by cases h
  fle := fun _ _ h => by cases h
mutual
theorem ckP_ok (F : CxF X T CL G W nt S) : ∀ (p : Pat) (e : Expr), ckP S p e = true → PG X e (gP T CL p)
  | .nm i, e, h => by
    simp only [ckP] at h
    split at h
    · obtain ⟨h1, h2, h3⟩ := F.put h
      exact rg_nm (by rw [F.N]; exact F.nd) h1 h2 h3
    · cases h
  | .tp p, e, h => by
    simp only [ckP] at h
    split at h
    · simp only [Bool.and_eq_true, decide_eq_true_eq] at h
      obtain ⟨⟨⟨h1, h2⟩, h3⟩, h4⟩ := h
      exact rg_tp F.K (F.calm h1) (ckPs_ok F p _ h4) h2 h3
    · cases h
  | .nl, e, h => by cases h
  | .cn _ _, e, h => by cases h
theorem ckPs_ok (F : CxF X T CL G W nt S) : ∀ (p : Pat) (es : List Expr), ckPs S p es = true → PGs X es (gPs T CL p)
  | .nl, es, h => by
    simp only [ckPs] at h
    split at h
    · exact rg_nil
    · cases h
  | .cn p r, es, h => by
    simp only [ckPs] at h
    split at h
    · simp only [Bool.and_eq_true] at h
      obtain ⟨⟨h1, h2⟩, h3⟩ := h
      exact rg_cons (ckP_ok F p _ h2) (ckPs_ok F r _ h3) h1
    · cases h
  | .nm _, es, h => by cases h
  | .tp _, es, h => by cases h
end
end
end Mi
set_option linter.all false
set_option maxRecDepth 100000
set_option maxHeartbeats 8000000
/-! Mi: what the looking at a text says: expressions, all. -/
namespace Mi
open PySem L2 PySem.Spec PyProof.Rows
section
variable {T : Tb} {G : Gam} {nt : NT}
theorem noStar_head {a : Expr} {es : List Expr} (h : noStar (a :: es) = true) (env : Env) : starEach (a :: es) env = (false, eval a env) :: starEach es env := (starEach_cons h).1
theorem argsE {p : Arguments} {X : Cx} (h : plainArgs p = true) : defaultsOf p X.env = ([], []) := by
  obtain ⟨a, b, c, d, e, f, g⟩ := p
  unfold plainArgs at h
  simp only [Bool.and_eq_true] at h
  obtain ⟨⟨⟨⟨⟨h1, h2⟩, h3⟩, h4⟩, h5⟩, h6⟩ := h
  cases e with
  | nil => cases g with
    | nil => rfl
    | cons _ _ => cases h6
  | cons _ _ => cases h4
theorem CxF.call {X : Cx} {CL : CLs} {W : WX} {S : SC} {x : Str} {f : Nat} (F : CxF X T CL G W nt S) (hc : S.calls = true) (hf : nt.f x = some f) :
    ∃ k a, FnI T X.prog X.w X.K X.mg X.base G k ∧ Room k X.A ∧ Takes X W ∧ CLx T CL X ∧ T.fa f = some a ∧ X.mg x = some (.ref a) ∧ PySem.W.keepIn X.K (.ref a) = true ∧ (∀ us : List Value, us.length = (T.fp f).length → bindArgs (T.fd f) ⟨us, []⟩ = pure ((T.fp f).zip us)) ∧ (∀ ds hd Q E, G.cf f ds hd Q E → ds.length = (T.fp f).length) ∧
      T.fp f = nt.fp f ∧ (∀ us : List Value, us.length = (T.fp f).length → bindArgs (T.fd f) ⟨[], (T.fp f).zip us⟩ = pure ((T.fp f).zip us)) := by
  obtain ⟨tk, cx, k, h1, h2, h3, h4, h5⟩ := F.calls hc
  obtain ⟨e1, ⟨a, e2, e3⟩, e4⟩ := h5 x f hf
  obtain ⟨k1, k2, k3⟩ := h4 f a e2
  exact ⟨k, a, h1, h3, tk, cx, e2, e3, k1, k2, k3, e1, e4⟩
mutual
theorem ckE_ok : ∀ (m : ME) {X : Cx} {CL : CLs} {W : WX} {S : SC}, CxF X T CL G W nt S → ∀ (e : Expr), Yes T (ckE nt S m e) → PE X e (tI T CL G W m)
  | .c d, X, CL, W, S, F, e, h => by
    simp only [ckE] at h
    have h := h.is
    unfold ckC at h
    split at h
    · cases of_decide_eq_true h; exact re_c_int
    · cases of_decide_eq_true h; exact re_c_bl
    · exact re_c_non
    · exact re_c_str (of_decide_eq_true h)
    · cases h
  | .g k, X, CL, W, S, F, e, h => by
    simp only [ckE] at h
    split at h
    · have h := h.is
      simp only [Bool.and_eq_true, decide_eq_true_eq] at h
      obtain ⟨⟨h1, h2⟩, h3⟩ := h
      obtain ⟨u, v, k1, k2, k3⟩ := F.g _ _ h3
      exact re_g (F.gl h1) k1 k2 k3 (okN_get h2).1
    · exact h.no.elim
  | .v i, X, CL, W, S, F, e, h => by
    simp only [ckE] at h
    split at h
    · obtain ⟨k1, k2, k3, k4⟩ := F.vis h.is
      exact re_v k1 k2 k3 k4
    · exact h.no.elim
  | .nl, X, CL, W, S, F, e, h => h.no.elim
  | .cn _ _, X, CL, W, S, F, e, h => h.no.elim
  | .tup m, X, CL, W, S, F, e, h => by
    simp only [ckE] at h
    split at h
    · exact re_tup F.mono (ckL_ok m F _ h)
    · exact h.no.elim
  | .lst m, X, CL, W, S, F, e, h => by
    simp only [ckE] at h
    split at h
    · exact re_lst F.mono (ckL_ok m F _ h)
    · exact h.no.elim
  | .lsh m, X, CL, W, S, F, e, h => by
    simp only [ckE] at h
    split at h
    · exact re_lsh F.mono (ckL_ok m F _ h)
    · exact h.no.elim
  | .dic, X, CL, W, S, F, e, h => h.no.elim
  | .neg a, X, CL, W, S, F, e, h => by
    simp only [ckE] at h
    split at h
    · exact re_neg F.mono (ckE_ok a F _ h)
    · exact h.no.elim
  | .bin o a b, X, CL, W, S, F, e, h => by
    simp only [ckE] at h
    split at h
    · obtain ⟨h1, h⟩ := h.two
      obtain ⟨h2, h3⟩ := h.two
      cases of_decide_eq_true h1.is
      exact re_bin F.mono F.K o (ckE_ok a F _ h2) (ckE_ok b F _ h3)
    · exact h.no.elim
  | .cmp o a b, X, CL, W, S, F, e, h => by
    simp only [ckE] at h
    split at h
    · obtain ⟨h1, h⟩ := h.two
      obtain ⟨h2, h3⟩ := h.two
      have h1 := h1.is
      simp only [Bool.and_eq_true, decide_eq_true_eq, Bool.not_eq_true'] at h1
      obtain ⟨rfl, g1⟩ := h1
      exact re_cmp F.mono F.K F.u o (ckE_ok a F _ h2) (ckE_ok b F _ h3) g1
    · exact h.no.elim
  | .chn o p a b c, X, CL, W, S, F, e, h => by
    simp only [ckE] at h
    split at h
    · obtain ⟨h1, h⟩ := h.two
      obtain ⟨h2, h⟩ := h.two
      obtain ⟨h3, h4⟩ := h.two
      have h1 := h1.is
      simp only [Bool.and_eq_true, decide_eq_true_eq, Bool.not_eq_true'] at h1
      obtain ⟨⟨rfl, rfl⟩, g1⟩ := h1
      exact re_chn F.mono F.K F.u o p (ckE_ok a F _ h2) (ckE_ok b F _ h3) (ckE_ok c F _ h4) g1
    · exact h.no.elim
  | .and a b, X, CL, W, S, F, e, h => by
    simp only [ckE] at h
    split at h
    · obtain ⟨h1, h2⟩ := h.two
      exact re_and F.mono F.K (ckE_ok a F _ h1) (pe_one (ckE_ok b F _ h2))
    · obtain ⟨h1, h2⟩ := h.two
      exact re_and F.mono F.K (ckE_ok a F _ h1) (ckAnd_ok b F _ _ h2)
    · exact h.no.elim
  | .or a b, X, CL, W, S, F, e, h => by
    simp only [ckE] at h
    split at h
    · obtain ⟨h1, h2⟩ := h.two
      exact re_or F.mono F.K (ckE_ok a F _ h1) (pe_one (ckE_ok b F _ h2))
    · obtain ⟨h1, h2⟩ := h.two
      exact re_or F.mono F.K (ckE_ok a F _ h1) (ckOr_ok b F _ _ h2)
    · exact h.no.elim
  | .not a, X, CL, W, S, F, e, h => by
    simp only [ckE] at h
    split at h
    · exact re_not F.mono F.K (ckE_ok a F _ h)
    · exact h.no.elim
  | .ite t a b, X, CL, W, S, F, e, h => by
    simp only [ckE] at h
    split at h
    · obtain ⟨h1, h⟩ := h.two
      obtain ⟨h2, h3⟩ := h.two
      exact re_ite F.mono (ckT_ok t F _ h1) (ckE_ok a F _ h2) (ckE_ok b F _ h3)
    · exact h.no.elim
  | .isa a ts, X, CL, W, S, F, e, h => by
    simp only [ckE] at h
    split at h
    · obtain ⟨h1, h2⟩ := h.two
      have h1 := h1.is
      simp only [Bool.and_eq_true, decide_eq_true_eq] at h1
      obtain ⟨⟨⟨⟨rfl, k1⟩, k2⟩, k3⟩, k4⟩ := h1
      obtain ⟨v, u, hv, ht⟩ := F.ty k4
      exact re_isa1 F.mono F.K (F.gl k1) (F.b _ k2) hv ht k3 (ckE_ok a F _ h2)
    · exact h.no.elim
  | .ix a b, X, CL, W, S, F, e, h => by
    simp only [ckE] at h
    split at h
    · obtain ⟨h1, h⟩ := h.two
      obtain ⟨h2, h3⟩ := h.two
      exact re_ix F.mono F.K (ckE_ok a F _ h2) (ckE_ok b F _ h3) h1.is
    · exact h.no.elim
  | .slc a lo hi, X, CL, W, S, F, e, h => by
    simp only [ckE] at h
    split at h
    · obtain ⟨h1, h⟩ := h.two
      obtain ⟨h2, h3⟩ := h.two
      exact re_slc F.mono F.K (ckE_ok a F _ h1) (ckO_ok lo F _ h2) (ckO_ok hi F _ h3)
    · exact h.no.elim
  | .call f es, X, CL, W, S, F, e, h => by
    simp only [ckE] at h
    split at h
    · obtain ⟨h1, h2⟩ := h.two
      have h1 := h1.is
      simp only [Bool.and_eq_true, decide_eq_true_eq] at h1
      obtain ⟨⟨⟨k1, k2⟩, k3⟩, k4⟩ := h1
      obtain ⟨k, a, q1, q2, q3, q4, q5, q6, q7, q8, q9, _, _⟩ := F.call k1 k4
      cases es <;> first | exact h2.no.elim | skip
      exact re_call0 F.mono q1 q2 q3 q4 q5 (F.gl k2) q6 q7 (okN_get k3).1 q8 q9
    · obtain ⟨h1, h2⟩ := h.two
      have h1 := h1.is
      simp only [Bool.and_eq_true, decide_eq_true_eq] at h1
      obtain ⟨⟨⟨⟨k1, k2⟩, k3⟩, k4⟩, k5⟩ := h1
      obtain ⟨k, a, q1, q2, q3, q4, q5, q6, q7, q8, q9, _, _⟩ := F.call k1 k4
      exact re_call F.mono q1 q2 q3 q4 q5 (F.gl k2) q6 q7 (okN_get k3).1 q8 q9 (ckA_ok es F _ h2) k5
    · obtain ⟨h1, h2⟩ := h.two
      have h1 := h1.is
      simp only [Bool.and_eq_true, decide_eq_true_eq] at h1
      obtain ⟨⟨⟨⟨⟨k1, k2⟩, k3⟩, k4⟩, k5⟩, k6⟩ := h1
      obtain ⟨k, a, q1, q2, q3, q4, q5, q6, q7, q8, q9, q10, q11⟩ := F.call k1 k4
      exact re_callK F.mono q1 q2 q3 q4 q5 (F.gl k2) q6 q7 (okN_get k3).1 q11 q9 (ckK_ok es F _ h2) k5 (k6.trans q10.symm)
    · exact h.no.elim
  | .clv i es, X, CL, W, S, F, e, h => by
    simp only [ckE] at h
    split at h
    · obtain ⟨h1, h2⟩ := h.two
      have h1 := h1.is
      simp only [Bool.and_eq_true] at h1
      obtain ⟨k1, k2⟩ := h1
      obtain ⟨tk, cx, k, q1, q2, q3, q4, q5⟩ := F.calls k1
      obtain ⟨v1, v2, v3, v4⟩ := F.vis k2
      cases es <;> first | exact h2.no.elim | skip
      exact re_clv0 F.mono q1 q2 q4 q3 tk cx v1 v2 v3 v4
    · obtain ⟨h1, h2⟩ := h.two
      have h1 := h1.is
      simp only [Bool.and_eq_true] at h1
      obtain ⟨⟨k1, k2⟩, k3⟩ := h1
      obtain ⟨tk, cx, k, q1, q2, q3, q4, q5⟩ := F.calls k1
      obtain ⟨v1, v2, v3, v4⟩ := F.vis k2
      exact re_clv F.mono q1 q2 q4 q3 tk cx v1 v2 v3 v4 (ckA_ok es F _ h2) k3
    · exact h.no.elim
  | .new _ _, X, CL, W, S, F, e, h => h.no.elim
  | .bf b es, X, CL, W, S, F, e, h => by
    simp only [ckE] at h
    split at h
    · obtain ⟨h1, h2⟩ := h.two
      have h1 := h1.is
      simp only [Bool.and_eq_true, decide_eq_true_eq] at h1
      obtain ⟨⟨⟨⟨k1, rfl⟩, k2⟩, k3⟩, k4⟩ := h1
      refine re_bf F.mono F.K (F.calm k1) F.u b (F.gl k2) ?_ k4 (ckL_ok es F _ h2)
      cases b <;> first | exact F.b _ k3 | exact F.gcd k3
    · exact h.no.elim
  | .mt m o es, X, CL, W, S, F, e, h => by
    simp only [ckE] at h
    split at h
    · obtain ⟨h1, h⟩ := h.two
      obtain ⟨h2, h3⟩ := h.two
      have h1 := h1.is
      simp only [Bool.and_eq_true, decide_eq_true_eq] at h1
      obtain ⟨⟨⟨⟨⟨k1, rfl⟩, k2⟩, k3⟩, k4⟩, k5⟩ := h1
      exact re_mt F.mono F.K m k1 (ckE_ok o F _ h2) k2 k3 k4 k5 (ckL_ok es F _ h3)
    · exact h.no.elim
  | .fld _ _, X, CL, W, S, F, e, h => h.no.elim
  | .met _ _ _, X, CL, W, S, F, e, h => h.no.elim
  | .lc p it cond elt vs, X, CL, W, S, F, e, h => by
    simp only [ckE] at h
    split at h
    · obtain ⟨h1, h⟩ := h.two
      obtain ⟨h2, h⟩ := h.two
      obtain ⟨h3, h4⟩ := h.two
      have h1 := h1.is
      simp only [Bool.and_eq_true, decide_eq_true_eq, List.all_eq_true] at h1
      obtain ⟨⟨⟨⟨⟨⟨k1, rfl⟩, k2⟩, k3⟩, k4⟩, k5⟩, k6⟩ := h1
      rw [← k3]
      refine re_lc F.mono (F.calm k1) (by rw [F.N]; exact F.nd) (ckI_ok it F _ _ h2) (by rw [F.N, F.sc]; exact blkOk_by k2) (fun s H C cl fp => ckP_ok (F.block s H C cl fp _) p _ k6) (fun s H C cl fp => ?_) (fun s H C cl fp => ckE_ok elt (F.block s H C cl fp _) _ h4) (fun x => notSet_ok k5 x) (by rw [k3]; exact k4)
      split at h3
      · split at h3
        · exact rts_none F.mono
        · exact h3.no.elim
      · exact pts_one (ckT_ok cond (F.block s H C cl fp _) _ h3)
      · exact h3.no.elim
    · exact h.no.elim
  | .it1 _ _, X, CL, W, S, F, e, h => h.no.elim
  | .tr _, X, CL, W, S, F, e, h => h.no.elim
  | .vl _, X, CL, W, S, F, e, h => h.no.elim
  | .sm _, X, CL, W, S, F, e, h => h.no.elim
  | .va _, X, CL, W, S, F, e, h => h.no.elim
  | .lam _ _, X, CL, W, S, F, e, h => h.no.elim
  | .fle i c j, X, CL, W, S, F, e, h => by
    simp only [ckE] at h
    split at h
    · have h := h.is
      simp only [Bool.and_eq_true, decide_eq_true_eq] at h
      obtain ⟨⟨h1, h2⟩, h3⟩ := h
      obtain ⟨v1, v2, v3, v4⟩ := F.vis h2
      exact F.fle i c h1 j _ _ _ _ (by rw [← F.N]; exact v1) v2 v3 v4 h3
    · exact h.no.elim
theorem ckAnd_ok : ∀ (m : ME) {X : Cx} {CL : CLs} {W : WX} {S : SC}, CxF X T CL G W nt S → ∀ (es : List Expr) (pos : Pos), Yes T (ckAnd nt S m es) → PE X (.BoolOp .And es pos) (tI T CL G W m)
  | .and a b, X, CL, W, S, F, es, pos, h => by
    simp only [ckAnd] at h
    split at h
    · obtain ⟨h1, h2⟩ := h.two
      exact re_and F.mono F.K (ckE_ok a F _ h1) (pe_one (ckE_ok b F _ h2))
    · obtain ⟨h1, h2⟩ := h.two
      exact re_and F.mono F.K (ckE_ok a F _ h1) (ckAnd_ok b F _ _ h2)
    · exact h.no.elim
  | .c _, X, CL, W, S, F, es, pos, h => h.no.elim
  | .g _, X, CL, W, S, F, es, pos, h => h.no.elim
  | .v _, X, CL, W, S, F, es, pos, h => h.no.elim
  | .nl, X, CL, W, S, F, es, pos, h => h.no.elim
  | .cn _ _, X, CL, W, S, F, es, pos, h => h.no.elim
  | .tup _, X, CL, W, S, F, es, pos, h => h.no.elim
  | .lst _, X, CL, W, S, F, es, pos, h => h.no.elim
  | .lsh _, X, CL, W, S, F, es, pos, h => h.no.elim
  | .dic, X, CL, W, S, F, es, pos, h => h.no.elim
  | .neg _, X, CL, W, S, F, es, pos, h => h.no.elim
  | .bin _ _ _, X, CL, W, S, F, es, pos, h => h.no.elim
  | .cmp _ _ _, X, CL, W, S, F, es, pos, h => h.no.elim
  | .chn _ _ _ _ _, X, CL, W, S, F, es, pos, h => h.no.elim
  | .or _ _, X, CL, W, S, F, es, pos, h => h.no.elim
  | .not _, X, CL, W, S, F, es, pos, h => h.no.elim
  | .ite _ _ _, X, CL, W, S, F, es, pos, h => h.no.elim
  | .isa _ _, X, CL, W, S, F, es, pos, h => h.no.elim
  | .ix _ _, X, CL, W, S, F, es, pos, h => h.no.elim
  | .slc _ _ _, X, CL, W, S, F, es, pos, h => h.no.elim
  | .call _ _, X, CL, W, S, F, es, pos, h => h.no.elim
  | .clv _ _, X, CL, W, S, F, es, pos, h => h.no.elim
  | .new _ _, X, CL, W, S, F, es, pos, h => h.no.elim
  | .bf _ _, X, CL, W, S, F, es, pos, h => h.no.elim
  | .mt _ _ _, X, CL, W, S, F, es, pos, h => h.no.elim
  | .fld _ _, X, CL, W, S, F, es, pos, h => h.no.elim
  | .met _ _ _, X, CL, W, S, F, es, pos, h => h.no.elim
  | .lc _ _ _ _ _, X, CL, W, S, F, es, pos, h => h.no.elim
  | .it1 _ _, X, CL, W, S, F, es, pos, h => h.no.elim
  | .tr _, X, CL, W, S, F, es, pos, h => h.no.elim
  | .vl _, X, CL, W, S, F, es, pos, h => h.no.elim
  | .sm _, X, CL, W, S, F, es, pos, h => h.no.elim
  | .va _, X, CL, W, S, F, es, pos, h => h.no.elim
  | .lam _ _, X, CL, W, S, F, es, pos, h => h.no.elim
  | .fle _ _ _, X, CL, W, S, F, es, pos, h => h.no.elim
theorem ckOr_ok : ∀ (m : ME) {X : Cx} {CL : CLs} {W : WX} {S : SC}, CxF X T CL G W nt S → ∀ (es : List Expr) (pos : Pos), Yes T (ckOr nt S m es) → PE X (.BoolOp .Or es pos) (tI T CL G W m)
  | .or a b, X, CL, W, S, F, es, pos, h => by
    simp only [ckOr] at h
    split at h
    · obtain ⟨h1, h2⟩ := h.two
      exact re_or F.mono F.K (ckE_ok a F _ h1) (pe_one (ckE_ok b F _ h2))
    · obtain ⟨h1, h2⟩ := h.two
      exact re_or F.mono F.K (ckE_ok a F _ h1) (ckOr_ok b F _ _ h2)
    · exact h.no.elim
  | .c _, X, CL, W, S, F, es, pos, h => h.no.elim
  | .g _, X, CL, W, S, F, es, pos, h => h.no.elim
  | .v _, X, CL, W, S, F, es, pos, h => h.no.elim
  | .nl, X, CL, W, S, F, es, pos, h => h.no.elim
  | .cn _ _, X, CL, W, S, F, es, pos, h => h.no.elim
  | .tup _, X, CL, W, S, F, es, pos, h => h.no.elim
  | .lst _, X, CL, W, S, F, es, pos, h => h.no.elim
  | .lsh _, X, CL, W, S, F, es, pos, h => h.no.elim
  | .dic, X, CL, W, S, F, es, pos, h => h.no.elim
  | .neg _, X, CL, W, S, F, es, pos, h => h.no.elim
  | .bin _ _ _, X, CL, W, S, F, es, pos, h => h.no.elim
  | .cmp _ _ _, X, CL, W, S, F, es, pos, h => h.no.elim
  | .chn _ _ _ _ _, X, CL, W, S, F, es, pos, h => h.no.elim
  | .and _ _, X, CL, W, S, F, es, pos, h => h.no.elim
  | .not _, X, CL, W, S, F, es, pos, h => h.no.elim
  | .ite _ _ _, X, CL, W, S, F, es, pos, h => h.no.elim
  | .isa _ _, X, CL, W, S, F, es, pos, h => h.no.elim
  | .ix _ _, X, CL, W, S, F, es, pos, h => h.no.elim
  | .slc _ _ _, X, CL, W, S, F, es, pos, h => h.no.elim
  | .call _ _, X, CL, W, S, F, es, pos, h => h.no.elim
  | .clv _ _, X, CL, W, S, F, es, pos, h => h.no.elim
  | .new _ _, X, CL, W, S, F, es, pos, h => h.no.elim
  | .bf _ _, X, CL, W, S, F, es, pos, h => h.no.elim
  | .mt _ _ _, X, CL, W, S, F, es, pos, h => h.no.elim
  | .fld _ _, X, CL, W, S, F, es, pos, h => h.no.elim
  | .met _ _ _, X, CL, W, S, F, es, pos, h => h.no.elim
  | .lc _ _ _ _ _, X, CL, W, S, F, es, pos, h => h.no.elim
  | .it1 _ _, X, CL, W, S, F, es, pos, h => h.no.elim
  | .tr _, X, CL, W, S, F, es, pos, h => h.no.elim
  | .vl _, X, CL, W, S, F, es, pos, h => h.no.elim
  | .sm _, X, CL, W, S, F, es, pos, h => h.no.elim
  | .va _, X, CL, W, S, F, es, pos, h => h.no.elim
  | .lam _ _, X, CL, W, S, F, es, pos, h => h.no.elim
  | .fle _ _ _, X, CL, W, S, F, es, pos, h => h.no.elim
theorem ckT_ok : ∀ (m : ME) {X : Cx} {CL : CLs} {W : WX} {S : SC}, CxF X T CL G W nt S → ∀ (e : Expr), Yes T (ckT nt S m e) → PT X e (tT T CL G W m)
  | .and a b, X, CL, W, S, F, e, h => by
    simp only [ckT] at h
    split at h
    · obtain ⟨h1, h2⟩ := h.two
      exact PW.pt (ra_and F.mono (ckT_ok a F _ h1) (pw_and1 (ckT_ok b F _ h2)))
    · obtain ⟨h1, h2⟩ := h.two
      exact PW.pt (ra_and F.mono (ckT_ok a F _ h1) (ckTA_ok b F _ _ h2))
    · exact h.no.elim
  | .or a b, X, CL, W, S, F, e, h => by
    simp only [ckT] at h
    split at h
    · obtain ⟨h1, h2⟩ := h.two
      exact PW.pt (ra_or F.mono (ckT_ok a F _ h1) (pw_or1 (ckT_ok b F _ h2)))
    · obtain ⟨h1, h2⟩ := h.two
      exact PW.pt (ra_or F.mono (ckT_ok a F _ h1) (ckTO_ok b F _ _ h2))
    · exact h.no.elim
  | .not a, X, CL, W, S, F, e, h => by
    simp only [ckT] at h
    split at h
    · exact rt_not F.mono (ckT_ok a F _ h)
    · exact h.no.elim
  | .cmp o a b, X, CL, W, S, F, e, h => by
    simp only [ckT] at h
    split at h
    · obtain ⟨h1, h⟩ := h.two
      obtain ⟨h2, h3⟩ := h.two
      have h1 := h1.is
      simp only [Bool.and_eq_true, decide_eq_true_eq, Bool.not_eq_true'] at h1
      obtain ⟨rfl, g1⟩ := h1
      exact rt_cmp F.mono F.K F.u o (ckE_ok a F _ h2) (ckE_ok b F _ h3) g1
    · exact h.no.elim
  | .chn o p a b c, X, CL, W, S, F, e, h => by
    simp only [ckT] at h
    split at h
    · obtain ⟨h1, h⟩ := h.two
      obtain ⟨h2, h⟩ := h.two
      obtain ⟨h3, h4⟩ := h.two
      have h1 := h1.is
      simp only [Bool.and_eq_true, decide_eq_true_eq, Bool.not_eq_true'] at h1
      obtain ⟨⟨rfl, rfl⟩, g1⟩ := h1
      exact rt_chn F.mono F.K F.u o p (ckE_ok a F _ h2) (ckE_ok b F _ h3) (ckE_ok c F _ h4) g1
    · exact h.no.elim
  | .tr a, X, CL, W, S, F, e, h => by
    simp only [ckT] at h
    obtain ⟨h1, h2⟩ := h.two
    exact rt_tr F.mono F.K (ckE_ok a F _ h2) (fun wh => plainT_ok h1.is wh)
  | .c _, X, CL, W, S, F, e, h => h.no.elim
  | .g _, X, CL, W, S, F, e, h => h.no.elim
  | .v _, X, CL, W, S, F, e, h => h.no.elim
  | .nl, X, CL, W, S, F, e, h => h.no.elim
  | .cn _ _, X, CL, W, S, F, e, h => h.no.elim
  | .tup _, X, CL, W, S, F, e, h => h.no.elim
  | .lst _, X, CL, W, S, F, e, h => h.no.elim
  | .lsh _, X, CL, W, S, F, e, h => h.no.elim
  | .dic, X, CL, W, S, F, e, h => h.no.elim
  | .neg _, X, CL, W, S, F, e, h => h.no.elim
  | .bin _ _ _, X, CL, W, S, F, e, h => h.no.elim
  | .ite _ _ _, X, CL, W, S, F, e, h => h.no.elim
  | .isa _ _, X, CL, W, S, F, e, h => h.no.elim
  | .ix _ _, X, CL, W, S, F, e, h => h.no.elim
  | .slc _ _ _, X, CL, W, S, F, e, h => h.no.elim
  | .call _ _, X, CL, W, S, F, e, h => h.no.elim
  | .clv _ _, X, CL, W, S, F, e, h => h.no.elim
  | .new _ _, X, CL, W, S, F, e, h => h.no.elim
  | .bf _ _, X, CL, W, S, F, e, h => h.no.elim
  | .mt _ _ _, X, CL, W, S, F, e, h => h.no.elim
  | .fld _ _, X, CL, W, S, F, e, h => h.no.elim
  | .met _ _ _, X, CL, W, S, F, e, h => h.no.elim
  | .lc _ _ _ _ _, X, CL, W, S, F, e, h => h.no.elim
  | .it1 _ _, X, CL, W, S, F, e, h => h.no.elim
  | .vl _, X, CL, W, S, F, e, h => h.no.elim
  | .sm _, X, CL, W, S, F, e, h => h.no.elim
  | .va _, X, CL, W, S, F, e, h => h.no.elim
  | .lam _ _, X, CL, W, S, F, e, h => h.no.elim
  | .fle _ _ _, X, CL, W, S, F, e, h => h.no.elim
theorem ckTA_ok : ∀ (m : ME) {X : Cx} {CL : CLs} {W : WX} {S : SC}, CxF X T CL G W nt S → ∀ (es : List Expr) (pos : Pos), Yes T (ckTA nt S m es) → PW X (.BoolOp .And es pos) (tT T CL G W m)
  | .and a b, X, CL, W, S, F, es, pos, h => by
    simp only [ckTA] at h
    split at h
    · obtain ⟨h1, h2⟩ := h.two
      exact ra_and F.mono (ckT_ok a F _ h1) (pw_and1 (ckT_ok b F _ h2))
    · obtain ⟨h1, h2⟩ := h.two
      exact ra_and F.mono (ckT_ok a F _ h1) (ckTA_ok b F _ _ h2)
    · exact h.no.elim
  | .c _, X, CL, W, S, F, es, pos, h => h.no.elim
  | .g _, X, CL, W, S, F, es, pos, h => h.no.elim
  | .v _, X, CL, W, S, F, es, pos, h => h.no.elim
  | .nl, X, CL, W, S, F, es, pos, h => h.no.elim
  | .cn _ _, X, CL, W, S, F, es, pos, h => h.no.elim
  | .tup _, X, CL, W, S, F, es, pos, h => h.no.elim
  | .lst _, X, CL, W, S, F, es, pos, h => h.no.elim
  | .lsh _, X, CL, W, S, F, es, pos, h => h.no.elim
  | .dic, X, CL, W, S, F, es, pos, h => h.no.elim
  | .neg _, X, CL, W, S, F, es, pos, h => h.no.elim
  | .bin _ _ _, X, CL, W, S, F, es, pos, h => h.no.elim
  | .cmp _ _ _, X, CL, W, S, F, es, pos, h => h.no.elim
  | .chn _ _ _ _ _, X, CL, W, S, F, es, pos, h => h.no.elim
  | .or _ _, X, CL, W, S, F, es, pos, h => h.no.elim
  | .not _, X, CL, W, S, F, es, pos, h => h.no.elim
  | .ite _ _ _, X, CL, W, S, F, es, pos, h => h.no.elim
  | .isa _ _, X, CL, W, S, F, es, pos, h => h.no.elim
  | .ix _ _, X, CL, W, S, F, es, pos, h => h.no.elim
  | .slc _ _ _, X, CL, W, S, F, es, pos, h => h.no.elim
  | .call _ _, X, CL, W, S, F, es, pos, h => h.no.elim
  | .clv _ _, X, CL, W, S, F, es, pos, h => h.no.elim
  | .new _ _, X, CL, W, S, F, es, pos, h => h.no.elim
  | .bf _ _, X, CL, W, S, F, es, pos, h => h.no.elim
  | .mt _ _ _, X, CL, W, S, F, es, pos, h => h.no.elim
  | .fld _ _, X, CL, W, S, F, es, pos, h => h.no.elim
  | .met _ _ _, X, CL, W, S, F, es, pos, h => h.no.elim
  | .lc _ _ _ _ _, X, CL, W, S, F, es, pos, h => h.no.elim
  | .it1 _ _, X, CL, W, S, F, es, pos, h => h.no.elim
  | .tr _, X, CL, W, S, F, es, pos, h => h.no.elim
  | .vl _, X, CL, W, S, F, es, pos, h => h.no.elim
  | .sm _, X, CL, W, S, F, es, pos, h => h.no.elim
  | .va _, X, CL, W, S, F, es, pos, h => h.no.elim
  | .lam _ _, X, CL, W, S, F, es, pos, h => h.no.elim
  | .fle _ _ _, X, CL, W, S, F, es, pos, h => h.no.elim
theorem ckTO_ok : ∀ (m : ME) {X : Cx} {CL : CLs} {W : WX} {S : SC}, CxF X T CL G W nt S → ∀ (es : List Expr) (pos : Pos), Yes T (ckTO nt S m es) → PW X (.BoolOp .Or es pos) (tT T CL G W m)
  | .or a b, X, CL, W, S, F, es, pos, h => by
    simp only [ckTO] at h
    split at h
    · obtain ⟨h1, h2⟩ := h.two
      exact ra_or F.mono (ckT_ok a F _ h1) (pw_or1 (ckT_ok b F _ h2))
    · obtain ⟨h1, h2⟩ := h.two
      exact ra_or F.mono (ckT_ok a F _ h1) (ckTO_ok b F _ _ h2)
    · exact h.no.elim
  | .c _, X, CL, W, S, F, es, pos, h => h.no.elim
  | .g _, X, CL, W, S, F, es, pos, h => h.no.elim
  | .v _, X, CL, W, S, F, es, pos, h => h.no.elim
  | .nl, X, CL, W, S, F, es, pos, h => h.no.elim
  | .cn _ _, X, CL, W, S, F, es, pos, h => h.no.elim
  | .tup _, X, CL, W, S, F, es, pos, h => h.no.elim
  | .lst _, X, CL, W, S, F, es, pos, h => h.no.elim
  | .lsh _, X, CL, W, S, F, es, pos, h => h.no.elim
  | .dic, X, CL, W, S, F, es, pos, h => h.no.elim
  | .neg _, X, CL, W, S, F, es, pos, h => h.no.elim
  | .bin _ _ _, X, CL, W, S, F, es, pos, h => h.no.elim
  | .cmp _ _ _, X, CL, W, S, F, es, pos, h => h.no.elim
  | .chn _ _ _ _ _, X, CL, W, S, F, es, pos, h => h.no.elim
  | .and _ _, X, CL, W, S, F, es, pos, h => h.no.elim
  | .not _, X, CL, W, S, F, es, pos, h => h.no.elim
  | .ite _ _ _, X, CL, W, S, F, es, pos, h => h.no.elim
  | .isa _ _, X, CL, W, S, F, es, pos, h => h.no.elim
  | .ix _ _, X, CL, W, S, F, es, pos, h => h.no.elim
  | .slc _ _ _, X, CL, W, S, F, es, pos, h => h.no.elim
  | .call _ _, X, CL, W, S, F, es, pos, h => h.no.elim
  | .clv _ _, X, CL, W, S, F, es, pos, h => h.no.elim
  | .new _ _, X, CL, W, S, F, es, pos, h => h.no.elim
  | .bf _ _, X, CL, W, S, F, es, pos, h => h.no.elim
  | .mt _ _ _, X, CL, W, S, F, es, pos, h => h.no.elim
  | .fld _ _, X, CL, W, S, F, es, pos, h => h.no.elim
  | .met _ _ _, X, CL, W, S, F, es, pos, h => h.no.elim
  | .lc _ _ _ _ _, X, CL, W, S, F, es, pos, h => h.no.elim
  | .it1 _ _, X, CL, W, S, F, es, pos, h => h.no.elim
  | .tr _, X, CL, W, S, F, es, pos, h => h.no.elim
  | .vl _, X, CL, W, S, F, es, pos, h => h.no.elim
  | .sm _, X, CL, W, S, F, es, pos, h => h.no.elim
  | .va _, X, CL, W, S, F, es, pos, h => h.no.elim
  | .lam _ _, X, CL, W, S, F, es, pos, h => h.no.elim
  | .fle _ _ _, X, CL, W, S, F, es, pos, h => h.no.elim
theorem ckL_ok : ∀ (m : ME) {X : Cx} {CL : CLs} {W : WX} {S : SC}, CxF X T CL G W nt S → ∀ (es : List Expr), Yes T (ckL nt S m es) → PA X es (tL T CL G W m)
  | .nl, X, CL, W, S, F, es, h => by
    simp only [ckL] at h
    split at h
    · exact re_nil
    · exact h.no.elim
  | .cn a r, X, CL, W, S, F, es, h => by
    simp only [ckL] at h
    split at h
    · obtain ⟨h1, h⟩ := h.two
      obtain ⟨h2, h3⟩ := h.two
      exact re_cons F.mono (ckE_ok a F _ h2) (ckL_ok r F _ h3) (noStar_head h1.is _)
    · exact h.no.elim
  | .c _, X, CL, W, S, F, es, h => h.no.elim
  | .g _, X, CL, W, S, F, es, h => h.no.elim
  | .v _, X, CL, W, S, F, es, h => h.no.elim
  | .tup _, X, CL, W, S, F, es, h => h.no.elim
  | .lst _, X, CL, W, S, F, es, h => h.no.elim
  | .lsh _, X, CL, W, S, F, es, h => h.no.elim
  | .dic, X, CL, W, S, F, es, h => h.no.elim
  | .neg _, X, CL, W, S, F, es, h => h.no.elim
  | .bin _ _ _, X, CL, W, S, F, es, h => h.no.elim
  | .cmp _ _ _, X, CL, W, S, F, es, h => h.no.elim
  | .chn _ _ _ _ _, X, CL, W, S, F, es, h => h.no.elim
  | .and _ _, X, CL, W, S, F, es, h => h.no.elim
  | .or _ _, X, CL, W, S, F, es, h => h.no.elim
  | .not _, X, CL, W, S, F, es, h => h.no.elim
  | .ite _ _ _, X, CL, W, S, F, es, h => h.no.elim
  | .isa _ _, X, CL, W, S, F, es, h => h.no.elim
  | .ix _ _, X, CL, W, S, F, es, h => h.no.elim
  | .slc _ _ _, X, CL, W, S, F, es, h => h.no.elim
  | .call _ _, X, CL, W, S, F, es, h => h.no.elim
  | .clv _ _, X, CL, W, S, F, es, h => h.no.elim
  | .new _ _, X, CL, W, S, F, es, h => h.no.elim
  | .bf _ _, X, CL, W, S, F, es, h => h.no.elim
  | .mt _ _ _, X, CL, W, S, F, es, h => h.no.elim
  | .fld _ _, X, CL, W, S, F, es, h => h.no.elim
  | .met _ _ _, X, CL, W, S, F, es, h => h.no.elim
  | .lc _ _ _ _ _, X, CL, W, S, F, es, h => h.no.elim
  | .it1 _ _, X, CL, W, S, F, es, h => h.no.elim
  | .tr _, X, CL, W, S, F, es, h => h.no.elim
  | .vl _, X, CL, W, S, F, es, h => h.no.elim
  | .sm _, X, CL, W, S, F, es, h => h.no.elim
  | .va _, X, CL, W, S, F, es, h => h.no.elim
  | .lam _ _, X, CL, W, S, F, es, h => h.no.elim
  | .fle _ _ _, X, CL, W, S, F, es, h => h.no.elim
theorem ckA_ok : ∀ (m : ME) {X : Cx} {CL : CLs} {W : WX} {S : SC}, CxF X T CL G W nt S → ∀ (es : List Expr), Yes T (ckA nt S m es) → ArgP X T CL G W m es
  | .nl, X, CL, W, S, F, es, h => by
    simp only [ckA] at h
    split at h
    · exact ra_nil
    · exact h.no.elim
  | .cn a r, X, CL, W, S, F, es, h => by
    simp only [ckA] at h
    split at h
    · obtain ⟨h1, h⟩ := h.two
      obtain ⟨h2, h3⟩ := h.two
      exact ra_cons F.mono (ckA1_ok a F _ h2) (ckA_ok r F _ h3) h1.is
    · exact h.no.elim
  | .c _, X, CL, W, S, F, es, h => h.no.elim
  | .g _, X, CL, W, S, F, es, h => h.no.elim
  | .v _, X, CL, W, S, F, es, h => h.no.elim
  | .tup _, X, CL, W, S, F, es, h => h.no.elim
  | .lst _, X, CL, W, S, F, es, h => h.no.elim
  | .lsh _, X, CL, W, S, F, es, h => h.no.elim
  | .dic, X, CL, W, S, F, es, h => h.no.elim
  | .neg _, X, CL, W, S, F, es, h => h.no.elim
  | .bin _ _ _, X, CL, W, S, F, es, h => h.no.elim
  | .cmp _ _ _, X, CL, W, S, F, es, h => h.no.elim
  | .chn _ _ _ _ _, X, CL, W, S, F, es, h => h.no.elim
  | .and _ _, X, CL, W, S, F, es, h => h.no.elim
  | .or _ _, X, CL, W, S, F, es, h => h.no.elim
  | .not _, X, CL, W, S, F, es, h => h.no.elim
  | .ite _ _ _, X, CL, W, S, F, es, h => h.no.elim
  | .isa _ _, X, CL, W, S, F, es, h => h.no.elim
  | .ix _ _, X, CL, W, S, F, es, h => h.no.elim
  | .slc _ _ _, X, CL, W, S, F, es, h => h.no.elim
  | .call _ _, X, CL, W, S, F, es, h => h.no.elim
  | .clv _ _, X, CL, W, S, F, es, h => h.no.elim
  | .new _ _, X, CL, W, S, F, es, h => h.no.elim
  | .bf _ _, X, CL, W, S, F, es, h => h.no.elim
  | .mt _ _ _, X, CL, W, S, F, es, h => h.no.elim
  | .fld _ _, X, CL, W, S, F, es, h => h.no.elim
  | .met _ _ _, X, CL, W, S, F, es, h => h.no.elim
  | .lc _ _ _ _ _, X, CL, W, S, F, es, h => h.no.elim
  | .it1 _ _, X, CL, W, S, F, es, h => h.no.elim
  | .tr _, X, CL, W, S, F, es, h => h.no.elim
  | .vl _, X, CL, W, S, F, es, h => h.no.elim
  | .sm _, X, CL, W, S, F, es, h => h.no.elim
  | .va _, X, CL, W, S, F, es, h => h.no.elim
  | .lam _ _, X, CL, W, S, F, es, h => h.no.elim
  | .fle _ _ _, X, CL, W, S, F, es, h => h.no.elim
theorem ckK_ok : ∀ (m : ME) {X : Cx} {CL : CLs} {W : WX} {S : SC}, CxF X T CL G W nt S → ∀ (es : List Keyword), Yes T (ckK nt S m es) → ArgK X T CL G W m es
  | .nl, X, CL, W, S, F, es, h => by
    simp only [ckK] at h
    split at h
    · exact rk_nil
    · exact h.no.elim
  | .cn a r, X, CL, W, S, F, es, h => by
    simp only [ckK] at h
    split at h
    · obtain ⟨h2, h3⟩ := h.two
      exact rk_cons F.mono (ckA1_ok a F _ h2) (ckK_ok r F _ h3)
    · exact h.no.elim
  | .c _, X, CL, W, S, F, es, h => h.no.elim
  | .g _, X, CL, W, S, F, es, h => h.no.elim
  | .v _, X, CL, W, S, F, es, h => h.no.elim
  | .tup _, X, CL, W, S, F, es, h => h.no.elim
  | .lst _, X, CL, W, S, F, es, h => h.no.elim
  | .lsh _, X, CL, W, S, F, es, h => h.no.elim
  | .dic, X, CL, W, S, F, es, h => h.no.elim
  | .neg _, X, CL, W, S, F, es, h => h.no.elim
  | .bin _ _ _, X, CL, W, S, F, es, h => h.no.elim
  | .cmp _ _ _, X, CL, W, S, F, es, h => h.no.elim
  | .chn _ _ _ _ _, X, CL, W, S, F, es, h => h.no.elim
  | .and _ _, X, CL, W, S, F, es, h => h.no.elim
  | .or _ _, X, CL, W, S, F, es, h => h.no.elim
  | .not _, X, CL, W, S, F, es, h => h.no.elim
  | .ite _ _ _, X, CL, W, S, F, es, h => h.no.elim
  | .isa _ _, X, CL, W, S, F, es, h => h.no.elim
  | .ix _ _, X, CL, W, S, F, es, h => h.no.elim
  | .slc _ _ _, X, CL, W, S, F, es, h => h.no.elim
  | .call _ _, X, CL, W, S, F, es, h => h.no.elim
  | .clv _ _, X, CL, W, S, F, es, h => h.no.elim
  | .new _ _, X, CL, W, S, F, es, h => h.no.elim
  | .bf _ _, X, CL, W, S, F, es, h => h.no.elim
  | .mt _ _ _, X, CL, W, S, F, es, h => h.no.elim
  | .fld _ _, X, CL, W, S, F, es, h => h.no.elim
  | .met _ _ _, X, CL, W, S, F, es, h => h.no.elim
  | .lc _ _ _ _ _, X, CL, W, S, F, es, h => h.no.elim
  | .it1 _ _, X, CL, W, S, F, es, h => h.no.elim
  | .tr _, X, CL, W, S, F, es, h => h.no.elim
  | .vl _, X, CL, W, S, F, es, h => h.no.elim
  | .sm _, X, CL, W, S, F, es, h => h.no.elim
  | .va _, X, CL, W, S, F, es, h => h.no.elim
  | .lam _ _, X, CL, W, S, F, es, h => h.no.elim
  | .fle _ _ _, X, CL, W, S, F, es, h => h.no.elim
theorem ckA1_ok : ∀ (m : ME) {X : Cx} {CL : CLs} {W : WX} {S : SC}, CxF X T CL G W nt S → ∀ (e : Expr), Yes T (ckA1 nt S m e) → ArgE X T CL G W m e
  | .lam k js, X, CL, W, S, F, e, h => by
    simp only [ckA1] at h
    split at h
    · obtain ⟨h1, h2⟩ := h.two
      obtain ⟨l, e, hl⟩ := h2
      cases e
      have hT := hl _ (List.mem_cons_self ..)
      have h1 := h1.is
      unfold lamB at h1
      simp only [Bool.and_eq_true, decide_eq_true_eq, List.all_eq_true, Bool.or_eq_true, Bool.not_eq_true', decide_eq_false_iff_not] at h1
      obtain ⟨⟨⟨⟨k1, k2⟩, k3⟩, k4⟩, k5⟩ := h1
      obtain ⟨c, P, q1, q2, q3, q4⟩ := F.lam k1
      have hq : (T.la k).q = X.env.qual ++ "<lambda>" := by rw [hT, F.qual]
      have := ra_lam (X := X) (T := T) (CL := CL) (G := G) (W := W) (k0 := k) (js := js) (pos := by assumption) q1 q2 hq (by rw [hq]; exact q3) (by rw [hq]; exact q4) (by rw [hT]; exact argsE k2) (by
        rw [hT]
        intro y hy e
        rw [F.sc]
        exact (k3 y hy).elim (fun z => absurd e z) id) (by rw [hT]; exact k4) (by rw [hT, F.N]; exact k5)
      rw [hT] at this
      exact this
    · exact h.no.elim
  | .va i, X, CL, W, S, F, e, h => by
    simp only [ckA1] at h
    split at h
    · obtain ⟨v1, v2, v3, v4⟩ := F.vis h.is
      exact ra_va v1 v2 v3 v4
    · exact h.no.elim
  | .vl a, X, CL, W, S, F, e, h => ra_vl F.mono (ckE_ok a F _ h)
  | .c _, X, CL, W, S, F, e, h => h.no.elim
  | .g _, X, CL, W, S, F, e, h => h.no.elim
  | .v _, X, CL, W, S, F, e, h => h.no.elim
  | .nl, X, CL, W, S, F, e, h => h.no.elim
  | .cn _ _, X, CL, W, S, F, e, h => h.no.elim
  | .tup _, X, CL, W, S, F, e, h => h.no.elim
  | .lst _, X, CL, W, S, F, e, h => h.no.elim
  | .lsh _, X, CL, W, S, F, e, h => h.no.elim
  | .dic, X, CL, W, S, F, e, h => h.no.elim
  | .neg _, X, CL, W, S, F, e, h => h.no.elim
  | .bin _ _ _, X, CL, W, S, F, e, h => h.no.elim
  | .cmp _ _ _, X, CL, W, S, F, e, h => h.no.elim
  | .chn _ _ _ _ _, X, CL, W, S, F, e, h => h.no.elim
  | .and _ _, X, CL, W, S, F, e, h => h.no.elim
  | .or _ _, X, CL, W, S, F, e, h => h.no.elim
  | .not _, X, CL, W, S, F, e, h => h.no.elim
  | .ite _ _ _, X, CL, W, S, F, e, h => h.no.elim
  | .isa _ _, X, CL, W, S, F, e, h => h.no.elim
  | .ix _ _, X, CL, W, S, F, e, h => h.no.elim
  | .slc _ _ _, X, CL, W, S, F, e, h => h.no.elim
  | .call _ _, X, CL, W, S, F, e, h => h.no.elim
  | .clv _ _, X, CL, W, S, F, e, h => h.no.elim
  | .new _ _, X, CL, W, S, F, e, h => h.no.elim
  | .bf _ _, X, CL, W, S, F, e, h => h.no.elim
  | .mt _ _ _, X, CL, W, S, F, e, h => h.no.elim
  | .fld _ _, X, CL, W, S, F, e, h => h.no.elim
  | .met _ _ _, X, CL, W, S, F, e, h => h.no.elim
  | .lc _ _ _ _ _, X, CL, W, S, F, e, h => h.no.elim
  | .it1 _ _, X, CL, W, S, F, e, h => h.no.elim
  | .tr _, X, CL, W, S, F, e, h => h.no.elim
  | .sm _, X, CL, W, S, F, e, h => h.no.elim
  | .fle _ _ _, X, CL, W, S, F, e, h => h.no.elim
theorem ckO_ok : ∀ (m : ME) {X : Cx} {CL : CLs} {W : WX} {S : SC}, CxF X T CL G W nt S → ∀ (e : Option Expr), Yes T (ckO nt S m e) → PO X e (tO T CL G W m)
  | .nl, X, CL, W, S, F, e, h => by
    simp only [ckO] at h
    split at h
    · exact ro_none F.mono
    · exact h.no.elim
  | .sm a, X, CL, W, S, F, e, h => by
    simp only [ckO] at h
    split at h
    · exact ro_some F.mono (ckE_ok a F _ h)
    · exact h.no.elim
  | .c _, X, CL, W, S, F, e, h => h.no.elim
  | .g _, X, CL, W, S, F, e, h => h.no.elim
  | .v _, X, CL, W, S, F, e, h => h.no.elim
  | .cn _ _, X, CL, W, S, F, e, h => h.no.elim
  | .tup _, X, CL, W, S, F, e, h => h.no.elim
  | .lst _, X, CL, W, S, F, e, h => h.no.elim
  | .lsh _, X, CL, W, S, F, e, h => h.no.elim
  | .dic, X, CL, W, S, F, e, h => h.no.elim
  | .neg _, X, CL, W, S, F, e, h => h.no.elim
  | .bin _ _ _, X, CL, W, S, F, e, h => h.no.elim
  | .cmp _ _ _, X, CL, W, S, F, e, h => h.no.elim
  | .chn _ _ _ _ _, X, CL, W, S, F, e, h => h.no.elim
  | .and _ _, X, CL, W, S, F, e, h => h.no.elim
  | .or _ _, X, CL, W, S, F, e, h => h.no.elim
  | .not _, X, CL, W, S, F, e, h => h.no.elim
  | .ite _ _ _, X, CL, W, S, F, e, h => h.no.elim
  | .isa _ _, X, CL, W, S, F, e, h => h.no.elim
  | .ix _ _, X, CL, W, S, F, e, h => h.no.elim
  | .slc _ _ _, X, CL, W, S, F, e, h => h.no.elim
  | .call _ _, X, CL, W, S, F, e, h => h.no.elim
  | .clv _ _, X, CL, W, S, F, e, h => h.no.elim
  | .new _ _, X, CL, W, S, F, e, h => h.no.elim
  | .bf _ _, X, CL, W, S, F, e, h => h.no.elim
  | .mt _ _ _, X, CL, W, S, F, e, h => h.no.elim
  | .fld _ _, X, CL, W, S, F, e, h => h.no.elim
  | .met _ _ _, X, CL, W, S, F, e, h => h.no.elim
  | .lc _ _ _ _ _, X, CL, W, S, F, e, h => h.no.elim
  | .it1 _ _, X, CL, W, S, F, e, h => h.no.elim
  | .tr _, X, CL, W, S, F, e, h => h.no.elim
  | .vl _, X, CL, W, S, F, e, h => h.no.elim
  | .va _, X, CL, W, S, F, e, h => h.no.elim
  | .lam _ _, X, CL, W, S, F, e, h => h.no.elim
  | .fle _ _ _, X, CL, W, S, F, e, h => h.no.elim
theorem ckI_ok : ∀ (m : ME) {X : Cx} {CL : CLs} {W : WX} {S : SC}, CxF X T CL G W nt S → ∀ (tg e : Expr), Yes T (ckI nt S m tg e) → PI X tg e (tJ T CL G W m)
  | .it1 .val (.cn m .nl), X, CL, W, S, F, tg, e, h => rj_val F.mono F.K (ckE_ok m F _ h)
  | .it1 .range (.cn m .nl), X, CL, W, S, F, tg, e, h => by
    simp only [ckI] at h
    split at h
    · obtain ⟨h1, h0⟩ := h.two
      have h1 := h1.is
      simp only [Bool.and_eq_true, decide_eq_true_eq] at h1
      obtain ⟨⟨⟨rfl, k1⟩, k2⟩, k3⟩ := h1
      exact rj_range1 F.mono (F.gl k1) (F.b _ k2) (ckE_ok m F _ h0) k3
    · exact h.no.elim
  | .it1 .range (.cn m (.cn m2 .nl)), X, CL, W, S, F, tg, e, h => by
    simp only [ckI] at h
    split at h
    · obtain ⟨h1, h0⟩ := h.two
      have h1 := h1.is
      simp only [Bool.and_eq_true, decide_eq_true_eq] at h1
      obtain ⟨⟨⟨rfl, k1⟩, k2⟩, k3⟩ := h1
      obtain ⟨g2, g3⟩ := h0.two
      exact rj_range2 F.mono (F.gl k1) (F.b _ k2) (ckE_ok m F _ g2) (ckE_ok m2 F _ g3) k3
    · exact h.no.elim
  | .it1 .enum (.cn m .nl), X, CL, W, S, F, tg, e, h => by
    simp only [ckI] at h
    split at h
    · obtain ⟨h1, h0⟩ := h.two
      have h1 := h1.is
      simp only [Bool.and_eq_true, decide_eq_true_eq] at h1
      obtain ⟨⟨⟨rfl, k1⟩, k2⟩, k3⟩ := h1
      exact rj_enum F.mono F.K (F.gl k1) (F.b _ k2) (ckE_ok m F _ h0) k3
    · exact h.no.elim
  | .it1 .zip (.cn m (.cn m2 .nl)), X, CL, W, S, F, tg, e, h => by
    simp only [ckI] at h
    split at h
    · obtain ⟨h1, h0⟩ := h.two
      have h1 := h1.is
      simp only [Bool.and_eq_true, decide_eq_true_eq] at h1
      obtain ⟨⟨⟨rfl, k1⟩, k2⟩, k3⟩ := h1
      obtain ⟨g2, g3⟩ := h0.two
      exact rj_zip F.mono F.K (F.gl k1) (F.b _ k2) (ckE_ok m F _ g2) (ckE_ok m2 F _ g3) k3
    · exact h.no.elim
  | .it1 .val (.c _), X, CL, W, S, F, tg, e, h => h.no.elim
  | .it1 .val (.g _), X, CL, W, S, F, tg, e, h => h.no.elim
  | .it1 .val (.v _), X, CL, W, S, F, tg, e, h => h.no.elim
  | .it1 .val (.nl), X, CL, W, S, F, tg, e, h => h.no.elim
  | .it1 .val (.tup _), X, CL, W, S, F, tg, e, h => h.no.elim
  | .it1 .val (.lst _), X, CL, W, S, F, tg, e, h => h.no.elim
  | .it1 .val (.lsh _), X, CL, W, S, F, tg, e, h => h.no.elim
  | .it1 .val (.dic), X, CL, W, S, F, tg, e, h => h.no.elim
  | .it1 .val (.neg _), X, CL, W, S, F, tg, e, h => h.no.elim
  | .it1 .val (.bin _ _ _), X, CL, W, S, F, tg, e, h => h.no.elim
  | .it1 .val (.cmp _ _ _), X, CL, W, S, F, tg, e, h => h.no.elim
  | .it1 .val (.chn _ _ _ _ _), X, CL, W, S, F, tg, e, h => h.no.elim
  | .it1 .val (.and _ _), X, CL, W, S, F, tg, e, h => h.no.elim
  | .it1 .val (.or _ _), X, CL, W, S, F, tg, e, h => h.no.elim
  | .it1 .val (.not _), X, CL, W, S, F, tg, e, h => h.no.elim
  | .it1 .val (.ite _ _ _), X, CL, W, S, F, tg, e, h => h.no.elim
  | .it1 .val (.isa _ _), X, CL, W, S, F, tg, e, h => h.no.elim
  | .it1 .val (.ix _ _), X, CL, W, S, F, tg, e, h => h.no.elim
  | .it1 .val (.slc _ _ _), X, CL, W, S, F, tg, e, h => h.no.elim
  | .it1 .val (.call _ _), X, CL, W, S, F, tg, e, h => h.no.elim
  | .it1 .val (.clv _ _), X, CL, W, S, F, tg, e, h => h.no.elim
  | .it1 .val (.new _ _), X, CL, W, S, F, tg, e, h => h.no.elim
  | .it1 .val (.bf _ _), X, CL, W, S, F, tg, e, h => h.no.elim
  | .it1 .val (.mt _ _ _), X, CL, W, S, F, tg, e, h => h.no.elim
  | .it1 .val (.fld _ _), X, CL, W, S, F, tg, e, h => h.no.elim
  | .it1 .val (.met _ _ _), X, CL, W, S, F, tg, e, h => h.no.elim
  | .it1 .val (.lc _ _ _ _ _), X, CL, W, S, F, tg, e, h => h.no.elim
  | .it1 .val (.it1 _ _), X, CL, W, S, F, tg, e, h => h.no.elim
  | .it1 .val (.tr _), X, CL, W, S, F, tg, e, h => h.no.elim
  | .it1 .val (.vl _), X, CL, W, S, F, tg, e, h => h.no.elim
  | .it1 .val (.sm _), X, CL, W, S, F, tg, e, h => h.no.elim
  | .it1 .val (.va _), X, CL, W, S, F, tg, e, h => h.no.elim
  | .it1 .val (.lam _ _), X, CL, W, S, F, tg, e, h => h.no.elim
  | .it1 .val (.fle _ _ _), X, CL, W, S, F, tg, e, h => h.no.elim
  | .it1 .val (.cn _ (.c _)), X, CL, W, S, F, tg, e, h => h.no.elim
  | .it1 .val (.cn _ (.g _)), X, CL, W, S, F, tg, e, h => h.no.elim
  | .it1 .val (.cn _ (.v _)), X, CL, W, S, F, tg, e, h => h.no.elim
  | .it1 .val (.cn _ (.cn _ _)), X, CL, W, S, F, tg, e, h => h.no.elim
  | .it1 .val (.cn _ (.tup _)), X, CL, W, S, F, tg, e, h => h.no.elim
  | .it1 .val (.cn _ (.lst _)), X, CL, W, S, F, tg, e, h => h.no.elim
  | .it1 .val (.cn _ (.lsh _)), X, CL, W, S, F, tg, e, h => h.no.elim
  | .it1 .val (.cn _ (.dic)), X, CL, W, S, F, tg, e, h => h.no.elim
  | .it1 .val (.cn _ (.neg _)), X, CL, W, S, F, tg, e, h => h.no.elim
  | .it1 .val (.cn _ (.bin _ _ _)), X, CL, W, S, F, tg, e, h => h.no.elim
  | .it1 .val (.cn _ (.cmp _ _ _)), X, CL, W, S, F, tg, e, h => h.no.elim
  | .it1 .val (.cn _ (.chn _ _ _ _ _)), X, CL, W, S, F, tg, e, h => h.no.elim
  | .it1 .val (.cn _ (.and _ _)), X, CL, W, S, F, tg, e, h => h.no.elim
  | .it1 .val (.cn _ (.or _ _)), X, CL, W, S, F, tg, e, h => h.no.elim
  | .it1 .val (.cn _ (.not _)), X, CL, W, S, F, tg, e, h => h.no.elim
  | .it1 .val (.cn _ (.ite _ _ _)), X, CL, W, S, F, tg, e, h => h.no.elim
  | .it1 .val (.cn _ (.isa _ _)), X, CL, W, S, F, tg, e, h => h.no.elim
  | .it1 .val (.cn _ (.ix _ _)), X, CL, W, S, F, tg, e, h => h.no.elim
  | .it1 .val (.cn _ (.slc _ _ _)), X, CL, W, S, F, tg, e, h => h.no.elim
  | .it1 .val (.cn _ (.call _ _)), X, CL, W, S, F, tg, e, h => h.no.elim
  | .it1 .val (.cn _ (.clv _ _)), X, CL, W, S, F, tg, e, h => h.no.elim
  | .it1 .val (.cn _ (.new _ _)), X, CL, W, S, F, tg, e, h => h.no.elim
  | .it1 .val (.cn _ (.bf _ _)), X, CL, W, S, F, tg, e, h => h.no.elim
  | .it1 .val (.cn _ (.mt _ _ _)), X, CL, W, S, F, tg, e, h => h.no.elim
  | .it1 .val (.cn _ (.fld _ _)), X, CL, W, S, F, tg, e, h => h.no.elim
  | .it1 .val (.cn _ (.met _ _ _)), X, CL, W, S, F, tg, e, h => h.no.elim
  | .it1 .val (.cn _ (.lc _ _ _ _ _)), X, CL, W, S, F, tg, e, h => h.no.elim
  | .it1 .val (.cn _ (.it1 _ _)), X, CL, W, S, F, tg, e, h => h.no.elim
  | .it1 .val (.cn _ (.tr _)), X, CL, W, S, F, tg, e, h => h.no.elim
  | .it1 .val (.cn _ (.vl _)), X, CL, W, S, F, tg, e, h => h.no.elim
  | .it1 .val (.cn _ (.sm _)), X, CL, W, S, F, tg, e, h => h.no.elim
  | .it1 .val (.cn _ (.va _)), X, CL, W, S, F, tg, e, h => h.no.elim
  | .it1 .val (.cn _ (.lam _ _)), X, CL, W, S, F, tg, e, h => h.no.elim
  | .it1 .val (.cn _ (.fle _ _ _)), X, CL, W, S, F, tg, e, h => h.no.elim
  | .it1 .enum (.c _), X, CL, W, S, F, tg, e, h => h.no.elim
  | .it1 .enum (.g _), X, CL, W, S, F, tg, e, h => h.no.elim
  | .it1 .enum (.v _), X, CL, W, S, F, tg, e, h => h.no.elim
  | .it1 .enum (.nl), X, CL, W, S, F, tg, e, h => h.no.elim
  | .it1 .enum (.tup _), X, CL, W, S, F, tg, e, h => h.no.elim
  | .it1 .enum (.lst _), X, CL, W, S, F, tg, e, h => h.no.elim
  | .it1 .enum (.lsh _), X, CL, W, S, F, tg, e, h => h.no.elim
  | .it1 .enum (.dic), X, CL, W, S, F, tg, e, h => h.no.elim
  | .it1 .enum (.neg _), X, CL, W, S, F, tg, e, h => h.no.elim
  | .it1 .enum (.bin _ _ _), X, CL, W, S, F, tg, e, h => h.no.elim
  | .it1 .enum (.cmp _ _ _), X, CL, W, S, F, tg, e, h => h.no.elim
  | .it1 .enum (.chn _ _ _ _ _), X, CL, W, S, F, tg, e, h => h.no.elim
  | .it1 .enum (.and _ _), X, CL, W, S, F, tg, e, h => h.no.elim
  | .it1 .enum (.or _ _), X, CL, W, S, F, tg, e, h => h.no.elim
  | .it1 .enum (.not _), X, CL, W, S, F, tg, e, h => h.no.elim
  | .it1 .enum (.ite _ _ _), X, CL, W, S, F, tg, e, h => h.no.elim
  | .it1 .enum (.isa _ _), X, CL, W, S, F, tg, e, h => h.no.elim
  | .it1 .enum (.ix _ _), X, CL, W, S, F, tg, e, h => h.no.elim
  | .it1 .enum (.slc _ _ _), X, CL, W, S, F, tg, e, h => h.no.elim
  | .it1 .enum (.call _ _), X, CL, W, S, F, tg, e, h => h.no.elim
  | .it1 .enum (.clv _ _), X, CL, W, S, F, tg, e, h => h.no.elim
  | .it1 .enum (.new _ _), X, CL, W, S, F, tg, e, h => h.no.elim
  | .it1 .enum (.bf _ _), X, CL, W, S, F, tg, e, h => h.no.elim
  | .it1 .enum (.mt _ _ _), X, CL, W, S, F, tg, e, h => h.no.elim
  | .it1 .enum (.fld _ _), X, CL, W, S, F, tg, e, h => h.no.elim
  | .it1 .enum (.met _ _ _), X, CL, W, S, F, tg, e, h => h.no.elim
  | .it1 .enum (.lc _ _ _ _ _), X, CL, W, S, F, tg, e, h => h.no.elim
  | .it1 .enum (.it1 _ _), X, CL, W, S, F, tg, e, h => h.no.elim
  | .it1 .enum (.tr _), X, CL, W, S, F, tg, e, h => h.no.elim
  | .it1 .enum (.vl _), X, CL, W, S, F, tg, e, h => h.no.elim
  | .it1 .enum (.sm _), X, CL, W, S, F, tg, e, h => h.no.elim
  | .it1 .enum (.va _), X, CL, W, S, F, tg, e, h => h.no.elim
  | .it1 .enum (.lam _ _), X, CL, W, S, F, tg, e, h => h.no.elim
  | .it1 .enum (.fle _ _ _), X, CL, W, S, F, tg, e, h => h.no.elim
  | .it1 .enum (.cn _ (.c _)), X, CL, W, S, F, tg, e, h => h.no.elim
  | .it1 .enum (.cn _ (.g _)), X, CL, W, S, F, tg, e, h => h.no.elim
  | .it1 .enum (.cn _ (.v _)), X, CL, W, S, F, tg, e, h => h.no.elim
  | .it1 .enum (.cn _ (.cn _ _)), X, CL, W, S, F, tg, e, h => h.no.elim
  | .it1 .enum (.cn _ (.tup _)), X, CL, W, S, F, tg, e, h => h.no.elim
  | .it1 .enum (.cn _ (.lst _)), X, CL, W, S, F, tg, e, h => h.no.elim
  | .it1 .enum (.cn _ (.lsh _)), X, CL, W, S, F, tg, e, h => h.no.elim
  | .it1 .enum (.cn _ (.dic)), X, CL, W, S, F, tg, e, h => h.no.elim
  | .it1 .enum (.cn _ (.neg _)), X, CL, W, S, F, tg, e, h => h.no.elim
  | .it1 .enum (.cn _ (.bin _ _ _)), X, CL, W, S, F, tg, e, h => h.no.elim
  | .it1 .enum (.cn _ (.cmp _ _ _)), X, CL, W, S, F, tg, e, h => h.no.elim
  | .it1 .enum (.cn _ (.chn _ _ _ _ _)), X, CL, W, S, F, tg, e, h => h.no.elim
  | .it1 .enum (.cn _ (.and _ _)), X, CL, W, S, F, tg, e, h => h.no.elim
  | .it1 .enum (.cn _ (.or _ _)), X, CL, W, S, F, tg, e, h => h.no.elim
  | .it1 .enum (.cn _ (.not _)), X, CL, W, S, F, tg, e, h => h.no.elim
  | .it1 .enum (.cn _ (.ite _ _ _)), X, CL, W, S, F, tg, e, h => h.no.elim
  | .it1 .enum (.cn _ (.isa _ _)), X, CL, W, S, F, tg, e, h => h.no.elim
  | .it1 .enum (.cn _ (.ix _ _)), X, CL, W, S, F, tg, e, h => h.no.elim
  | .it1 .enum (.cn _ (.slc _ _ _)), X, CL, W, S, F, tg, e, h => h.no.elim
  | .it1 .enum (.cn _ (.call _ _)), X, CL, W, S, F, tg, e, h => h.no.elim
  | .it1 .enum (.cn _ (.clv _ _)), X, CL, W, S, F, tg, e, h => h.no.elim
  | .it1 .enum (.cn _ (.new _ _)), X, CL, W, S, F, tg, e, h => h.no.elim
  | .it1 .enum (.cn _ (.bf _ _)), X, CL, W, S, F, tg, e, h => h.no.elim
  | .it1 .enum (.cn _ (.mt _ _ _)), X, CL, W, S, F, tg, e, h => h.no.elim
  | .it1 .enum (.cn _ (.fld _ _)), X, CL, W, S, F, tg, e, h => h.no.elim
  | .it1 .enum (.cn _ (.met _ _ _)), X, CL, W, S, F, tg, e, h => h.no.elim
  | .it1 .enum (.cn _ (.lc _ _ _ _ _)), X, CL, W, S, F, tg, e, h => h.no.elim
  | .it1 .enum (.cn _ (.it1 _ _)), X, CL, W, S, F, tg, e, h => h.no.elim
  | .it1 .enum (.cn _ (.tr _)), X, CL, W, S, F, tg, e, h => h.no.elim
  | .it1 .enum (.cn _ (.vl _)), X, CL, W, S, F, tg, e, h => h.no.elim
  | .it1 .enum (.cn _ (.sm _)), X, CL, W, S, F, tg, e, h => h.no.elim
  | .it1 .enum (.cn _ (.va _)), X, CL, W, S, F, tg, e, h => h.no.elim
  | .it1 .enum (.cn _ (.lam _ _)), X, CL, W, S, F, tg, e, h => h.no.elim
  | .it1 .enum (.cn _ (.fle _ _ _)), X, CL, W, S, F, tg, e, h => h.no.elim
  | .it1 .range (.c _), X, CL, W, S, F, tg, e, h => h.no.elim
  | .it1 .range (.g _), X, CL, W, S, F, tg, e, h => h.no.elim
  | .it1 .range (.v _), X, CL, W, S, F, tg, e, h => h.no.elim
  | .it1 .range (.nl), X, CL, W, S, F, tg, e, h => h.no.elim
  | .it1 .range (.tup _), X, CL, W, S, F, tg, e, h => h.no.elim
  | .it1 .range (.lst _), X, CL, W, S, F, tg, e, h => h.no.elim
  | .it1 .range (.lsh _), X, CL, W, S, F, tg, e, h => h.no.elim
  | .it1 .range (.dic), X, CL, W, S, F, tg, e, h => h.no.elim
  | .it1 .range (.neg _), X, CL, W, S, F, tg, e, h => h.no.elim
  | .it1 .range (.bin _ _ _), X, CL, W, S, F, tg, e, h => h.no.elim
  | .it1 .range (.cmp _ _ _), X, CL, W, S, F, tg, e, h => h.no.elim
  | .it1 .range (.chn _ _ _ _ _), X, CL, W, S, F, tg, e, h => h.no.elim
  | .it1 .range (.and _ _), X, CL, W, S, F, tg, e, h => h.no.elim
  | .it1 .range (.or _ _), X, CL, W, S, F, tg, e, h => h.no.elim
  | .it1 .range (.not _), X, CL, W, S, F, tg, e, h => h.no.elim
  | .it1 .range (.ite _ _ _), X, CL, W, S, F, tg, e, h => h.no.elim
  | .it1 .range (.isa _ _), X, CL, W, S, F, tg, e, h => h.no.elim
  | .it1 .range (.ix _ _), X, CL, W, S, F, tg, e, h => h.no.elim
  | .it1 .range (.slc _ _ _), X, CL, W, S, F, tg, e, h => h.no.elim
  | .it1 .range (.call _ _), X, CL, W, S, F, tg, e, h => h.no.elim
  | .it1 .range (.clv _ _), X, CL, W, S, F, tg, e, h => h.no.elim
  | .it1 .range (.new _ _), X, CL, W, S, F, tg, e, h => h.no.elim
  | .it1 .range (.bf _ _), X, CL, W, S, F, tg, e, h => h.no.elim
  | .it1 .range (.mt _ _ _), X, CL, W, S, F, tg, e, h => h.no.elim
  | .it1 .range (.fld _ _), X, CL, W, S, F, tg, e, h => h.no.elim
  | .it1 .range (.met _ _ _), X, CL, W, S, F, tg, e, h => h.no.elim
  | .it1 .range (.lc _ _ _ _ _), X, CL, W, S, F, tg, e, h => h.no.elim
  | .it1 .range (.it1 _ _), X, CL, W, S, F, tg, e, h => h.no.elim
  | .it1 .range (.tr _), X, CL, W, S, F, tg, e, h => h.no.elim
  | .it1 .range (.vl _), X, CL, W, S, F, tg, e, h => h.no.elim
  | .it1 .range (.sm _), X, CL, W, S, F, tg, e, h => h.no.elim
  | .it1 .range (.va _), X, CL, W, S, F, tg, e, h => h.no.elim
  | .it1 .range (.lam _ _), X, CL, W, S, F, tg, e, h => h.no.elim
  | .it1 .range (.fle _ _ _), X, CL, W, S, F, tg, e, h => h.no.elim
  | .it1 .range (.cn _ (.c _)), X, CL, W, S, F, tg, e, h => h.no.elim
  | .it1 .range (.cn _ (.g _)), X, CL, W, S, F, tg, e, h => h.no.elim
  | .it1 .range (.cn _ (.v _)), X, CL, W, S, F, tg, e, h => h.no.elim
  | .it1 .range (.cn _ (.cn _ (.c _))), X, CL, W, S, F, tg, e, h => h.no.elim
  | .it1 .range (.cn _ (.cn _ (.g _))), X, CL, W, S, F, tg, e, h => h.no.elim
  | .it1 .range (.cn _ (.cn _ (.v _))), X, CL, W, S, F, tg, e, h => h.no.elim
  | .it1 .range (.cn _ (.cn _ (.cn _ _))), X, CL, W, S, F, tg, e, h => h.no.elim
  | .it1 .range (.cn _ (.cn _ (.tup _))), X, CL, W, S, F, tg, e, h => h.no.elim
  | .it1 .range (.cn _ (.cn _ (.lst _))), X, CL, W, S, F, tg, e, h => h.no.elim
  | .it1 .range (.cn _ (.cn _ (.lsh _))), X, CL, W, S, F, tg, e, h => h.no.elim
  | .it1 .range (.cn _ (.cn _ (.dic))), X, CL, W, S, F, tg, e, h => h.no.elim
  | .it1 .range (.cn _ (.cn _ (.neg _))), X, CL, W, S, F, tg, e, h => h.no.elim
  | .it1 .range (.cn _ (.cn _ (.bin _ _ _))), X, CL, W, S, F, tg, e, h => h.no.elim
  | .it1 .range (.cn _ (.cn _ (.cmp _ _ _))), X, CL, W, S, F, tg, e, h => h.no.elim
  | .it1 .range (.cn _ (.cn _ (.chn _ _ _ _ _))), X, CL, W, S, F, tg, e, h => h.no.elim
  | .it1 .range (.cn _ (.cn _ (.and _ _))), X, CL, W, S, F, tg, e, h => h.no.elim
  | .it1 .range (.cn _ (.cn _ (.or _ _))), X, CL, W, S, F, tg, e, h => h.no.elim
  | .it1 .range (.cn _ (.cn _ (.not _))), X, CL, W, S, F, tg, e, h => h.no.elim
  | .it1 .range (.cn _ (.cn _ (.ite _ _ _))), X, CL, W, S, F, tg, e, h => h.no.elim
  | .it1 .range (.cn _ (.cn _ (.isa _ _))), X, CL, W, S, F, tg, e, h => h.no.elim
  | .it1 .range (.cn _ (.cn _ (.ix _ _))), X, CL, W, S, F, tg, e, h => h.no.elim
  | .it1 .range (.cn _ (.cn _ (.slc _ _ _))), X, CL, W, S, F, tg, e, h => h.no.elim
  | .it1 .range (.cn _ (.cn _ (.call _ _))), X, CL, W, S, F, tg, e, h => h.no.elim
  | .it1 .range (.cn _ (.cn _ (.clv _ _))), X, CL, W, S, F, tg, e, h => h.no.elim
  | .it1 .range (.cn _ (.cn _ (.new _ _))), X, CL, W, S, F, tg, e, h => h.no.elim
  | .it1 .range (.cn _ (.cn _ (.bf _ _))), X, CL, W, S, F, tg, e, h => h.no.elim
  | .it1 .range (.cn _ (.cn _ (.mt _ _ _))), X, CL, W, S, F, tg, e, h => h.no.elim
  | .it1 .range (.cn _ (.cn _ (.fld _ _))), X, CL, W, S, F, tg, e, h => h.no.elim
  | .it1 .range (.cn _ (.cn _ (.met _ _ _))), X, CL, W, S, F, tg, e, h => h.no.elim
  | .it1 .range (.cn _ (.cn _ (.lc _ _ _ _ _))), X, CL, W, S, F, tg, e, h => h.no.elim
  | .it1 .range (.cn _ (.cn _ (.it1 _ _))), X, CL, W, S, F, tg, e, h => h.no.elim
  | .it1 .range (.cn _ (.cn _ (.tr _))), X, CL, W, S, F, tg, e, h => h.no.elim
  | .it1 .range (.cn _ (.cn _ (.vl _))), X, CL, W, S, F, tg, e, h => h.no.elim
  | .it1 .range (.cn _ (.cn _ (.sm _))), X, CL, W, S, F, tg, e, h => h.no.elim
  | .it1 .range (.cn _ (.cn _ (.va _))), X, CL, W, S, F, tg, e, h => h.no.elim
  | .it1 .range (.cn _ (.cn _ (.lam _ _))), X, CL, W, S, F, tg, e, h => h.no.elim
  | .it1 .range (.cn _ (.cn _ (.fle _ _ _))), X, CL, W, S, F, tg, e, h => h.no.elim
  | .it1 .range (.cn _ (.tup _)), X, CL, W, S, F, tg, e, h => h.no.elim
  | .it1 .range (.cn _ (.lst _)), X, CL, W, S, F, tg, e, h => h.no.elim
  | .it1 .range (.cn _ (.lsh _)), X, CL, W, S, F, tg, e, h => h.no.elim
  | .it1 .range (.cn _ (.dic)), X, CL, W, S, F, tg, e, h => h.no.elim
  | .it1 .range (.cn _ (.neg _)), X, CL, W, S, F, tg, e, h => h.no.elim
  | .it1 .range (.cn _ (.bin _ _ _)), X, CL, W, S, F, tg, e, h => h.no.elim
  | .it1 .range (.cn _ (.cmp _ _ _)), X, CL, W, S, F, tg, e, h => h.no.elim
  | .it1 .range (.cn _ (.chn _ _ _ _ _)), X, CL, W, S, F, tg, e, h => h.no.elim
  | .it1 .range (.cn _ (.and _ _)), X, CL, W, S, F, tg, e, h => h.no.elim
  | .it1 .range (.cn _ (.or _ _)), X, CL, W, S, F, tg, e, h => h.no.elim
  | .it1 .range (.cn _ (.not _)), X, CL, W, S, F, tg, e, h => h.no.elim
  | .it1 .range (.cn _ (.ite _ _ _)), X, CL, W, S, F, tg, e, h => h.no.elim
  | .it1 .range (.cn _ (.isa _ _)), X, CL, W, S, F, tg, e, h => h.no.elim
  | .it1 .range (.cn _ (.ix _ _)), X, CL, W, S, F, tg, e, h => h.no.elim
  | .it1 .range (.cn _ (.slc _ _ _)), X, CL, W, S, F, tg, e, h => h.no.elim
  | .it1 .range (.cn _ (.call _ _)), X, CL, W, S, F, tg, e, h => h.no.elim
  | .it1 .range (.cn _ (.clv _ _)), X, CL, W, S, F, tg, e, h => h.no.elim
  | .it1 .range (.cn _ (.new _ _)), X, CL, W, S, F, tg, e, h => h.no.elim
  | .it1 .range (.cn _ (.bf _ _)), X, CL, W, S, F, tg, e, h => h.no.elim
  | .it1 .range (.cn _ (.mt _ _ _)), X, CL, W, S, F, tg, e, h => h.no.elim
  | .it1 .range (.cn _ (.fld _ _)), X, CL, W, S, F, tg, e, h => h.no.elim
  | .it1 .range (.cn _ (.met _ _ _)), X, CL, W, S, F, tg, e, h => h.no.elim
  | .it1 .range (.cn _ (.lc _ _ _ _ _)), X, CL, W, S, F, tg, e, h => h.no.elim
  | .it1 .range (.cn _ (.it1 _ _)), X, CL, W, S, F, tg, e, h => h.no.elim
  | .it1 .range (.cn _ (.tr _)), X, CL, W, S, F, tg, e, h => h.no.elim
  | .it1 .range (.cn _ (.vl _)), X, CL, W, S, F, tg, e, h => h.no.elim
  | .it1 .range (.cn _ (.sm _)), X, CL, W, S, F, tg, e, h => h.no.elim
  | .it1 .range (.cn _ (.va _)), X, CL, W, S, F, tg, e, h => h.no.elim
  | .it1 .range (.cn _ (.lam _ _)), X, CL, W, S, F, tg, e, h => h.no.elim
  | .it1 .range (.cn _ (.fle _ _ _)), X, CL, W, S, F, tg, e, h => h.no.elim
  | .it1 .zip (.c _), X, CL, W, S, F, tg, e, h => h.no.elim
  | .it1 .zip (.g _), X, CL, W, S, F, tg, e, h => h.no.elim
  | .it1 .zip (.v _), X, CL, W, S, F, tg, e, h => h.no.elim
  | .it1 .zip (.nl), X, CL, W, S, F, tg, e, h => h.no.elim
  | .it1 .zip (.tup _), X, CL, W, S, F, tg, e, h => h.no.elim
  | .it1 .zip (.lst _), X, CL, W, S, F, tg, e, h => h.no.elim
  | .it1 .zip (.lsh _), X, CL, W, S, F, tg, e, h => h.no.elim
  | .it1 .zip (.dic), X, CL, W, S, F, tg, e, h => h.no.elim
  | .it1 .zip (.neg _), X, CL, W, S, F, tg, e, h => h.no.elim
  | .it1 .zip (.bin _ _ _), X, CL, W, S, F, tg, e, h => h.no.elim
  | .it1 .zip (.cmp _ _ _), X, CL, W, S, F, tg, e, h => h.no.elim
  | .it1 .zip (.chn _ _ _ _ _), X, CL, W, S, F, tg, e, h => h.no.elim
  | .it1 .zip (.and _ _), X, CL, W, S, F, tg, e, h => h.no.elim
  | .it1 .zip (.or _ _), X, CL, W, S, F, tg, e, h => h.no.elim
  | .it1 .zip (.not _), X, CL, W, S, F, tg, e, h => h.no.elim
  | .it1 .zip (.ite _ _ _), X, CL, W, S, F, tg, e, h => h.no.elim
  | .it1 .zip (.isa _ _), X, CL, W, S, F, tg, e, h => h.no.elim
  | .it1 .zip (.ix _ _), X, CL, W, S, F, tg, e, h => h.no.elim
  | .it1 .zip (.slc _ _ _), X, CL, W, S, F, tg, e, h => h.no.elim
  | .it1 .zip (.call _ _), X, CL, W, S, F, tg, e, h => h.no.elim
  | .it1 .zip (.clv _ _), X, CL, W, S, F, tg, e, h => h.no.elim
  | .it1 .zip (.new _ _), X, CL, W, S, F, tg, e, h => h.no.elim
  | .it1 .zip (.bf _ _), X, CL, W, S, F, tg, e, h => h.no.elim
  | .it1 .zip (.mt _ _ _), X, CL, W, S, F, tg, e, h => h.no.elim
  | .it1 .zip (.fld _ _), X, CL, W, S, F, tg, e, h => h.no.elim
  | .it1 .zip (.met _ _ _), X, CL, W, S, F, tg, e, h => h.no.elim
  | .it1 .zip (.lc _ _ _ _ _), X, CL, W, S, F, tg, e, h => h.no.elim
  | .it1 .zip (.it1 _ _), X, CL, W, S, F, tg, e, h => h.no.elim
  | .it1 .zip (.tr _), X, CL, W, S, F, tg, e, h => h.no.elim
  | .it1 .zip (.vl _), X, CL, W, S, F, tg, e, h => h.no.elim
  | .it1 .zip (.sm _), X, CL, W, S, F, tg, e, h => h.no.elim
  | .it1 .zip (.va _), X, CL, W, S, F, tg, e, h => h.no.elim
  | .it1 .zip (.lam _ _), X, CL, W, S, F, tg, e, h => h.no.elim
  | .it1 .zip (.fle _ _ _), X, CL, W, S, F, tg, e, h => h.no.elim
  | .it1 .zip (.cn _ (.c _)), X, CL, W, S, F, tg, e, h => h.no.elim
  | .it1 .zip (.cn _ (.g _)), X, CL, W, S, F, tg, e, h => h.no.elim
  | .it1 .zip (.cn _ (.v _)), X, CL, W, S, F, tg, e, h => h.no.elim
  | .it1 .zip (.cn _ .nl), X, CL, W, S, F, tg, e, h => h.no.elim
  | .it1 .zip (.cn _ (.cn _ (.c _))), X, CL, W, S, F, tg, e, h => h.no.elim
  | .it1 .zip (.cn _ (.cn _ (.g _))), X, CL, W, S, F, tg, e, h => h.no.elim
  | .it1 .zip (.cn _ (.cn _ (.v _))), X, CL, W, S, F, tg, e, h => h.no.elim
  | .it1 .zip (.cn _ (.cn _ (.cn _ _))), X, CL, W, S, F, tg, e, h => h.no.elim
  | .it1 .zip (.cn _ (.cn _ (.tup _))), X, CL, W, S, F, tg, e, h => h.no.elim
  | .it1 .zip (.cn _ (.cn _ (.lst _))), X, CL, W, S, F, tg, e, h => h.no.elim
  | .it1 .zip (.cn _ (.cn _ (.lsh _))), X, CL, W, S, F, tg, e, h => h.no.elim
  | .it1 .zip (.cn _ (.cn _ (.dic))), X, CL, W, S, F, tg, e, h => h.no.elim
  | .it1 .zip (.cn _ (.cn _ (.neg _))), X, CL, W, S, F, tg, e, h => h.no.elim
  | .it1 .zip (.cn _ (.cn _ (.bin _ _ _))), X, CL, W, S, F, tg, e, h => h.no.elim
  | .it1 .zip (.cn _ (.cn _ (.cmp _ _ _))), X, CL, W, S, F, tg, e, h => h.no.elim
  | .it1 .zip (.cn _ (.cn _ (.chn _ _ _ _ _))), X, CL, W, S, F, tg, e, h => h.no.elim
  | .it1 .zip (.cn _ (.cn _ (.and _ _))), X, CL, W, S, F, tg, e, h => h.no.elim
  | .it1 .zip (.cn _ (.cn _ (.or _ _))), X, CL, W, S, F, tg, e, h => h.no.elim
  | .it1 .zip (.cn _ (.cn _ (.not _))), X, CL, W, S, F, tg, e, h => h.no.elim
  | .it1 .zip (.cn _ (.cn _ (.ite _ _ _))), X, CL, W, S, F, tg, e, h => h.no.elim
  | .it1 .zip (.cn _ (.cn _ (.isa _ _))), X, CL, W, S, F, tg, e, h => h.no.elim
  | .it1 .zip (.cn _ (.cn _ (.ix _ _))), X, CL, W, S, F, tg, e, h => h.no.elim
  | .it1 .zip (.cn _ (.cn _ (.slc _ _ _))), X, CL, W, S, F, tg, e, h => h.no.elim
  | .it1 .zip (.cn _ (.cn _ (.call _ _))), X, CL, W, S, F, tg, e, h => h.no.elim
  | .it1 .zip (.cn _ (.cn _ (.clv _ _))), X, CL, W, S, F, tg, e, h => h.no.elim
  | .it1 .zip (.cn _ (.cn _ (.new _ _))), X, CL, W, S, F, tg, e, h => h.no.elim
  | .it1 .zip (.cn _ (.cn _ (.bf _ _))), X, CL, W, S, F, tg, e, h => h.no.elim
  | .it1 .zip (.cn _ (.cn _ (.mt _ _ _))), X, CL, W, S, F, tg, e, h => h.no.elim
  | .it1 .zip (.cn _ (.cn _ (.fld _ _))), X, CL, W, S, F, tg, e, h => h.no.elim
  | .it1 .zip (.cn _ (.cn _ (.met _ _ _))), X, CL, W, S, F, tg, e, h => h.no.elim
  | .it1 .zip (.cn _ (.cn _ (.lc _ _ _ _ _))), X, CL, W, S, F, tg, e, h => h.no.elim
  | .it1 .zip (.cn _ (.cn _ (.it1 _ _))), X, CL, W, S, F, tg, e, h => h.no.elim
  | .it1 .zip (.cn _ (.cn _ (.tr _))), X, CL, W, S, F, tg, e, h => h.no.elim
  | .it1 .zip (.cn _ (.cn _ (.vl _))), X, CL, W, S, F, tg, e, h => h.no.elim
  | .it1 .zip (.cn _ (.cn _ (.sm _))), X, CL, W, S, F, tg, e, h => h.no.elim
  | .it1 .zip (.cn _ (.cn _ (.va _))), X, CL, W, S, F, tg, e, h => h.no.elim
  | .it1 .zip (.cn _ (.cn _ (.lam _ _))), X, CL, W, S, F, tg, e, h => h.no.elim
  | .it1 .zip (.cn _ (.cn _ (.fle _ _ _))), X, CL, W, S, F, tg, e, h => h.no.elim
  | .it1 .zip (.cn _ (.tup _)), X, CL, W, S, F, tg, e, h => h.no.elim
  | .it1 .zip (.cn _ (.lst _)), X, CL, W, S, F, tg, e, h => h.no.elim
  | .it1 .zip (.cn _ (.lsh _)), X, CL, W, S, F, tg, e, h => h.no.elim
  | .it1 .zip (.cn _ (.dic)), X, CL, W, S, F, tg, e, h => h.no.elim
  | .it1 .zip (.cn _ (.neg _)), X, CL, W, S, F, tg, e, h => h.no.elim
  | .it1 .zip (.cn _ (.bin _ _ _)), X, CL, W, S, F, tg, e, h => h.no.elim
  | .it1 .zip (.cn _ (.cmp _ _ _)), X, CL, W, S, F, tg, e, h => h.no.elim
  | .it1 .zip (.cn _ (.chn _ _ _ _ _)), X, CL, W, S, F, tg, e, h => h.no.elim
  | .it1 .zip (.cn _ (.and _ _)), X, CL, W, S, F, tg, e, h => h.no.elim
  | .it1 .zip (.cn _ (.or _ _)), X, CL, W, S, F, tg, e, h => h.no.elim
  | .it1 .zip (.cn _ (.not _)), X, CL, W, S, F, tg, e, h => h.no.elim
  | .it1 .zip (.cn _ (.ite _ _ _)), X, CL, W, S, F, tg, e, h => h.no.elim
  | .it1 .zip (.cn _ (.isa _ _)), X, CL, W, S, F, tg, e, h => h.no.elim
  | .it1 .zip (.cn _ (.ix _ _)), X, CL, W, S, F, tg, e, h => h.no.elim
  | .it1 .zip (.cn _ (.slc _ _ _)), X, CL, W, S, F, tg, e, h => h.no.elim
  | .it1 .zip (.cn _ (.call _ _)), X, CL, W, S, F, tg, e, h => h.no.elim
  | .it1 .zip (.cn _ (.clv _ _)), X, CL, W, S, F, tg, e, h => h.no.elim
  | .it1 .zip (.cn _ (.new _ _)), X, CL, W, S, F, tg, e, h => h.no.elim
  | .it1 .zip (.cn _ (.bf _ _)), X, CL, W, S, F, tg, e, h => h.no.elim
  | .it1 .zip (.cn _ (.mt _ _ _)), X, CL, W, S, F, tg, e, h => h.no.elim
  | .it1 .zip (.cn _ (.fld _ _)), X, CL, W, S, F, tg, e, h => h.no.elim
  | .it1 .zip (.cn _ (.met _ _ _)), X, CL, W, S, F, tg, e, h => h.no.elim
  | .it1 .zip (.cn _ (.lc _ _ _ _ _)), X, CL, W, S, F, tg, e, h => h.no.elim
  | .it1 .zip (.cn _ (.it1 _ _)), X, CL, W, S, F, tg, e, h => h.no.elim
  | .it1 .zip (.cn _ (.tr _)), X, CL, W, S, F, tg, e, h => h.no.elim
  | .it1 .zip (.cn _ (.vl _)), X, CL, W, S, F, tg, e, h => h.no.elim
  | .it1 .zip (.cn _ (.sm _)), X, CL, W, S, F, tg, e, h => h.no.elim
  | .it1 .zip (.cn _ (.va _)), X, CL, W, S, F, tg, e, h => h.no.elim
  | .it1 .zip (.cn _ (.lam _ _)), X, CL, W, S, F, tg, e, h => h.no.elim
  | .it1 .zip (.cn _ (.fle _ _ _)), X, CL, W, S, F, tg, e, h => h.no.elim
  | .it1 .rev _, X, CL, W, S, F, tg, e, h => h.no.elim
  | .it1 .items _, X, CL, W, S, F, tg, e, h => h.no.elim
  | .it1 .keys _, X, CL, W, S, F, tg, e, h => h.no.elim
  | .c _, X, CL, W, S, F, tg, e, h => h.no.elim
  | .g _, X, CL, W, S, F, tg, e, h => h.no.elim
  | .v _, X, CL, W, S, F, tg, e, h => h.no.elim
  | .nl, X, CL, W, S, F, tg, e, h => h.no.elim
  | .cn _ _, X, CL, W, S, F, tg, e, h => h.no.elim
  | .tup _, X, CL, W, S, F, tg, e, h => h.no.elim
  | .lst _, X, CL, W, S, F, tg, e, h => h.no.elim
  | .lsh _, X, CL, W, S, F, tg, e, h => h.no.elim
  | .dic, X, CL, W, S, F, tg, e, h => h.no.elim
  | .neg _, X, CL, W, S, F, tg, e, h => h.no.elim
  | .bin _ _ _, X, CL, W, S, F, tg, e, h => h.no.elim
  | .cmp _ _ _, X, CL, W, S, F, tg, e, h => h.no.elim
  | .chn _ _ _ _ _, X, CL, W, S, F, tg, e, h => h.no.elim
  | .and _ _, X, CL, W, S, F, tg, e, h => h.no.elim
  | .or _ _, X, CL, W, S, F, tg, e, h => h.no.elim
  | .not _, X, CL, W, S, F, tg, e, h => h.no.elim
  | .ite _ _ _, X, CL, W, S, F, tg, e, h => h.no.elim
  | .isa _ _, X, CL, W, S, F, tg, e, h => h.no.elim
  | .ix _ _, X, CL, W, S, F, tg, e, h => h.no.elim
  | .slc _ _ _, X, CL, W, S, F, tg, e, h => h.no.elim
  | .call _ _, X, CL, W, S, F, tg, e, h => h.no.elim
  | .clv _ _, X, CL, W, S, F, tg, e, h => h.no.elim
  | .new _ _, X, CL, W, S, F, tg, e, h => h.no.elim
  | .bf _ _, X, CL, W, S, F, tg, e, h => h.no.elim
  | .mt _ _ _, X, CL, W, S, F, tg, e, h => h.no.elim
  | .fld _ _, X, CL, W, S, F, tg, e, h => h.no.elim
  | .met _ _ _, X, CL, W, S, F, tg, e, h => h.no.elim
  | .lc _ _ _ _ _, X, CL, W, S, F, tg, e, h => h.no.elim
  | .tr _, X, CL, W, S, F, tg, e, h => h.no.elim
  | .vl _, X, CL, W, S, F, tg, e, h => h.no.elim
  | .sm _, X, CL, W, S, F, tg, e, h => h.no.elim
  | .va _, X, CL, W, S, F, tg, e, h => h.no.elim
  | .lam _ _, X, CL, W, S, F, tg, e, h => h.no.elim
  | .fle _ _ _, X, CL, W, S, F, tg, e, h => h.no.elim
end
end
end Mi
set_option linter.all false
set_option maxRecDepth 100000
set_option maxHeartbeats 8000000
/-! Mi: does a text stand for what is told? Statements. -/
namespace Mi
open PySem L2 PySem.Spec PyProof.Rows

/-- name = [..] on one line: the name is set first -/
def compR (S : SC) (v tg : Expr) : Bool := match v with
  | .ListComp _ _ s _ | .SetComp _ _ s _ | .DictComp _ _ _ s _ => (match tg with
    | .Name t pos => S.sc.names.lookup t == some .local && pos.line == v.pos.line && !(s.names.any fun (n, k) => n == t && (k == .local || k == .cell))
    | _ => false)
  | _ => false
def compAny : Expr → Bool
  | .ListComp _ _ _ _ => true
  | .SetComp _ _ _ _ => true
  | .DictComp _ _ _ _ _ => true
  | _ => false
/-- which names are stored the other way round: none told, if it is refused -/
def swapR (S : SC) (tg v : Expr) : Option (Option (List Str)) := match tg, v with
  | .Tuple ts _ _, .Tuple vs _ _ | .List ts _, .Tuple vs _ _ =>
    if (!(ts.length == 2 || ts.length == 3) || vs.length != ts.length) = true then some none else
    if (vs.any fun | .Starred .. => true | _ => false) = true then some none else
    let line := (ts.head?.map (·.pos.line)).getD 0
    let names := ts.filterMap fun
      | .Name id pos => if S.sc.names.lookup id == some .local && pos.line == line then some id else none
      | _ => none
    if (names.length != ts.length || names.eraseDups.length != names.length) = true then some none else
    if vs.all (foldedForSure 8) = true then some none else
    if vs.all (constantsAlone 8) = true then none else some (some names)
  | _, _ => some none
def SC.sui (S : SC) (x : Option (Nat × Nat)) : SC := { S with calm := false, calls := false, lam := false, exn := x }
def asName : Option Nat → Option Str → SC → Bool
  | none, none, _ => true
  | some i, some n, S => decide (S.N[i]? = some n) && decide (S.sc.names.lookup n = some .local)
  | _, _, _ => false
def ckPair (nt : NT) (S : SC) (p : Pat) (e : ME) (tg v : Expr) : Ck := match p, e with
  | .tp (.cn (.nm i) (.cn (.nm j) .nl)), .tup m => (match tg, v with
    | .Tuple [.Name x _, .Name y _] _ _, .Tuple [a, b] _ _ => both (need (S.calm && decide (S.N[i]? = some x) && decide (S.N[j]? = some y) && decide (i ≠ j) && decide (S.sc.names.lookup x = some .local) && decide (S.sc.names.lookup y = some .local) && decide (swapR S tg v = some (some [x, y])))) (ckL nt S m [a, b])
    | _, _ => none)
  | _, _ => none
def ckLc (nt : NT) (S : SC) (p : Pat) (e : ME) (tg v : Expr) : Ck := match p, e, tg with
  | .nm i, .lc q it cond elt vs, .Name y _ => both (need (decide (S.N[i]? = some y) && decide (S.sc.names.lookup y = some .local))) (ckE nt S (.lc q it cond elt vs) v)
  | _, _, _ => none
def isSwap (S : SC) (tg v : Expr) : Bool := match swapR S tg v with
  | some none => false
  | _ => true
def ckAsg (nt : NT) (S : SC) (p : Pat) (e : ME) (tg v : Expr) : Ck :=
  if isSwap S tg v = true then ckPair nt S p e tg v else if compR S v tg = true then ckLc nt S p e tg v
  else both (need (ckP S p tg && noStar [tg])) (ckE nt S e v)
mutual
def ckB (nt : NT) (S : SC) : MS → List Stmt → Ck
  | .skip, l => match l with | [] => some [] | _ => none
  | .sq (.frz _) b, l => ckB nt S b l
  | .sq a b, l => match l with | st :: l => both (ckS nt S a st) (ckB nt S b l) | _ => none
  | _, _ => none
def ckS (nt : NT) (S : SC) : MS → Stmt → Ck
  | .skip, st => match st with | .Pass _ => some [] | _ => none
  | .set p e, st => match st with | .Assign [tg] v _ => ckAsg nt S p e tg v | _ => none
  | .setIx o i e, st => match st with | .Assign [.Subscript eo ei _] ev _ => both (need (noSlice ei)) (both (ckE nt S o eo) (both (ckE nt S i ei) (ckE nt S e ev))) | _ => none
  | .aug i o e, st => match st with | .AugAssign (.Name x _) op v _ => both (need (putB S i x && decide (op = bo o))) (ckE nt S e v) | _ => none
  | .exp e, st => match st with | .Expr v _ => both (need (!compAny v)) (ckE nt S e v) | _ => none
  | .ret e, st => match st with | .Return (some v) _ => ckE nt S e v | _ => none
  | .retn, st => match st with | .Return none _ => some [] | _ => none
  | .ifS t a b, st => match st with | .If c l l2 _ => both (ckT nt S t c) (both (ckB nt S a l) (ckB nt S b l2)) | _ => none
  | .whl t b, st => match st with | .While c l [] _ => both (need S.calm) (both (ckT nt S t c) (ckB nt S b l)) | _ => none
  | .forS p it b, st => match st with | .For tg iter l [] _ => both (need (S.calm && notSet iter && ckP S p tg)) (both (ckI nt S it tg iter) (ckB nt S b l)) | _ => none
  | .rais c es, st => match st with | .Raise (some (.Call (.Name x _) (a :: as) [] _)) none _ => both (need (S.calm && S.calls && glB S x && okN x && decide (nt.c x = some c) && noStar (a :: as))) (ckL nt S es (a :: as)) | _ => none
  | .tryS b hs, st => match st with | .Try l (h :: hs') [] [] _ => both (need S.calm) (both (ckB nt S b l) (ckH nt S hs (h :: hs'))) | _ => none
  | .brk, st => match st with | .Break _ => some [] | _ => none
  | .cnt, st => match st with | .Continue _ => some [] | _ => none
  | _, _ => none
def ckH (nt : NT) (S : SC) : MS → List ExceptHandler → Ck
  | .hn, l => match l with | [] => some [] | _ => none
  | .hc c slot b r, l => match l with
    | .ExceptHandler (some (.Name x _)) nm (b₀ :: suite) _ :: hds => both (need (glB S x && okN x && decide (nt.c x = some c) && asName slot nm S)) (both (ckB nt (S.sui (slot.map fun i => (i, c))) b (b₀ :: suite)) (ckH nt S r hds))
    | _ => none
  | _, _ => none
end
/-- the context of statements is as told -/
structure CxS (X : Cx) (T : Tb) (CL : CLs) (G : Gam) (W : WX) (nt : NT) (S : SC) : Prop extends CxF X T CL G W nt S where
  kind : S.sc.kind = .function
  stk : X.stack = X.env :: X.outer
  frm : X.env.frame = some X.env.locals
  own : S.calm = true → PassesOwn (model X.prog X.w) X.A X.env X.xe
  ex0 : S.calm = true → CL.exn = fun _ => none
  sx0 : S.calm = true → S.exn = none
  tk : S.calm = true → Takes X W
  rm : S.calls = true → Room 2 X.A
  hex : ∀ c c' C C', T.ca c = some C → T.ca c' = some C' → PySem.W.exmOne X.K (.ref C) (.ref C') = some (decide (c = c'))
  xcl : ∀ x c, nt.c x = some c → ∃ C fI d, T.ca c = some C ∧ X.mg x = some (.ref C) ∧ ExcC X.K C fI ∧ IniOk X.prog X.K X.mg C fI (T.cf c) d ∧ T.cf c ≠ [] ∧ T.cf c = nt.cf c ∧ (T.cf c).Nodup ∧ XfC X.K C ∧ ∀ f ∈ T.cf c, PySem.W.findIn X.K (.ref C) f = some none
  nw : ∀ c ds hd Q Xd, G.nw c ds hd Q Xd → ds.length = (T.cf c).length ∧ Xd ⟨c, ds⟩ hd
section
variable {X : Cx} {T : Tb} {CL : CLs} {G : Gam} {W : WX} {nt : NT} {S : SC}
theorem kindF {env : Env} (h : env.scope.kind = .function) : env.blockKind = .function := by
  unfold Env.blockKind
  rw [h]
  rfl
theorem compR_ok {v tg : Expr} {l : Nat} (hs : X.env.scope = S.sc) (hk : S.sc.kind = .function) : swapsWith v (some tg) l X.env = pure (compR S v tg) := by
  have e : X.env.kindOf = fun x => S.sc.names.lookup x := by funext x; unfold Env.kindOf; rw [hs]
  have k := kindF (env := X.env) (by rw [hs]; exact hk)
  cases v <;> first | rfl | skip
  all_goals
    cases tg <;> first | rfl | skip
    simp only [swapsWith, compR, k, e]
    rfl
theorem compNone {v : Expr} {l : Nat} {env : Env} (h : compAny v = false) : swapsWith v none l env = pure false := by
  cases v <;> first | rfl | cases h
theorem swap_ok {tg v : Expr} {r : Option (List Str)} (hs : X.env.scope = S.sc) (hk : S.sc.kind = .function) (h : swapR S tg v = some r) : swappedStores [tg] v X.env = pure r := by
  have e : X.env.kindOf = fun x => S.sc.names.lookup x := by funext x; unfold Env.kindOf; rw [hs]
  have k := kindF (env := X.env) (by rw [hs]; exact hk)
  have go : ∀ (ts vs : List Expr), (if (!(ts.length == 2 || ts.length == 3) || vs.length != ts.length) = true then some none else
      if (vs.any fun | .Starred .. => true | _ => false) = true then some none else
      let line := (ts.head?.map (·.pos.line)).getD 0
      let names := ts.filterMap fun
        | .Name id pos => if S.sc.names.lookup id == some .local && pos.line == line then some id else none
        | _ => none
      if (names.length != ts.length || names.eraseDups.length != names.length) = true then some none else
      if vs.all (foldedForSure 8) = true then some none else
      if vs.all (constantsAlone 8) = true then none else some (some names)) = some r →
      (do
        if !(ts.length == 2 || ts.length == 3) || vs.length != ts.length || X.env.blockKind != .function then return none
        if vs.any fun | .Starred .. => true | _ => false then return none
        let line := (ts.head?.map (·.pos.line)).getD 0
        let names := ts.filterMap fun
          | .Name id pos => if X.env.kindOf id == some .local && pos.line == line then some id else none
          | _ => none
        if names.length != ts.length || names.eraseDups.length != names.length then return none
        if vs.all (foldedForSure 8) then return none
        if vs.all (constantsAlone 8) then unsupported "assign.tuple-of-constant-expressions:order-of-the-stores"
        return some names : Sem (Option (List Str))) = pure r := by
    intro ts vs h
    rw [k, e]
    have kk : (ScopeKind.function != ScopeKind.function) = false := rfl
    rw [kk, Bool.or_false]
    split at h
    · rename_i c
      cases h
      rw [if_pos c]
    · rename_i c
      rw [if_neg c]
      split at h
      · rename_i c2
        cases h
        simp only [c2, if_true] <;> rfl
      · rename_i c2
        simp only [c2]
        dsimp only at h
        split at h
        · rename_i c3
          cases h
          simp only [c3, if_true] <;> rfl
        · rename_i c3
          simp only [c3]
          split at h
          · rename_i c4
            cases h
            simp only [c4, if_true] <;> rfl
          · rename_i c4
            simp only [c4]
            split at h
            · cases h
            · rename_i c5
              cases h
              simp only [c5] <;> rfl
  unfold swapR at h
  split at h
  · exact go _ _ h
  · exact go _ _ h
  · rename_i n1 n2
    cases h
    unfold swappedStores
    cases tg <;> first | rfl | skip
    · cases v <;> first | rfl | exact (n2 _ _ _ _ _ _ rfl rfl).elim | exact (n1 _ _ _ _ _ _ rfl rfl).elim | exact (n2 _ _ _ _ _ rfl rfl).elim
    · cases v <;> first | rfl | exact (n2 _ _ _ _ _ _ rfl rfl).elim | exact (n1 _ _ _ _ _ _ rfl rfl).elim | exact (n2 _ _ _ _ _ rfl rfl).elim
end
end Mi
set_option linter.all false
set_option maxRecDepth 100000
set_option maxHeartbeats 8000000
/-! Mi: what the looking at a text says: statements. -/
namespace Mi
open PySem L2 PySem.Spec PyProof.Rows
section
variable {T : Tb} {G : Gam} {nt : NT}
section
variable {X : Cx} {CL : CLs} {W : WX} {S : SC}
theorem rs_setLc {i : Nat} {y : Str} {py : Pos} {elt tg iter : Expr} {ifs : List Expr} {scope : Scope} {own : List (Str × Nat)} {pos spos : Pos} {mi mc me : ME} {p : Pat} (hG : GMono G) (hc : X.calm = true) (hN : X.N.Nodup) (hy : X.N[i]? = some y) (hyl : X.env.scope.names.lookup y = some .local)
    (hsw : swapsWith (.ListComp elt [⟨tg, iter, ifs, 0⟩] scope pos) (some (.Name y py)) spos.line X.env = pure true) (hit : PI X tg iter (tJ T CL G W mi)) (ok : BlkOk X.N X.env.scope scope own)
    (hg : ∀ (s : Shared) (H : Hp) (C : Addr) (cl : List (Str × Addr)) (fp : List Addr), PG (X.blk s H scope (compEnvC scope cl C X.env) fp) tg (gP T CL0 p))
    (ht : ∀ (s : Shared) (H : Hp) (C : Addr) (cl : List (Str × Addr)) (fp : List Addr), PTs (X.blk s H scope (compEnvC scope cl C X.env) fp) ifs (tT T CL0 G W0 mc))
    (he : ∀ (s : Shared) (H : Hp) (C : Addr) (cl : List (Str × Addr)) (fp : List Addr), PE (X.blk s H scope (compEnvC scope cl C X.env) fp) elt (tI T CL0 G W0 me))
    (hf : ∀ x, foldedSetIterable iter X.env x = pure x) (hp : ∀ i ∈ patIx p, i ∈ own.map (·.2)) :
    PS X (.Assign [.Name y py] (.ListComp elt [⟨tg, iter, ifs, 0⟩] scope pos) spos) (tS T CL G W (.set (.nm i) (.lc p mi mc me (own.map (·.2))))) :=
  PS.wk (ps_setLc hc hN hy hyl hsw hit ok hg ht he hf) fun D σ H ⟨hi, ρ, μ, hd, hs, rl, w⟩ =>
    lc_wk hG hp σ H _ (tI.mk hG hs rl (show wE G (.lc p mi mc me (own.map (·.2))) ρ hd (fun d h => opt (bindP (.nm i) d ρ) fun ρ' => NxS (T.hide hi) CL μ hd H D.nx ρ' h) (XxS (T.hide hi) CL μ hd H W ρ) from w) (XxS.xx hs rl) fun μ1 hd1 H1 d x st hs1 r1 rl1 q => by
      obtain ⟨ρ', e, n⟩ := opt_get q
      simp only [bindP] at e
      split at e
      · cases e
        exact n μ1 H1 _ st hs1 (rl1.set (RA.of r1))
      · cases e)
theorem sub_swap {v eo ei : Expr} {p2 : Pos} {l : Nat} {env : Env} : swapsWithSole [.Subscript eo ei p2] v l env = pure false := by cases v <;> rfl
theorem CxS.tr (F : CxS X T CL G W nt S) (hc : S.calm = true) (pn : List (Addr × Obj)) (xe : Value → Shared → Prop) {W' : WX} (tk : Takes (X.tr pn xe) W') (po : PassesOwn (model X.prog X.w) X.A X.env xe) : CxS (X.tr pn xe) T CL G W' nt S where
  mono := F.mono
  K := F.K
  u := F.u
  N := F.N
  nd := F.nd
  sc := F.sc
  fn := F.fn
  calm := F.calm
  qual := F.qual
  g := F.g
  b := F.b
  gcd := F.gcd
  cls := F.cls
  calls := fun h => by
    obtain ⟨_, c, k, h1, h2, h3, h4, h5⟩ := F.calls h
    exact ⟨tk, c, k, h1, h2, h3, h4, h5⟩
  lam := F.lam
  fle := fun i c h => by rw [F.sx0 hc] at h; cases h
  kind := F.kind
  stk := F.stk
  frm := F.frm
  own := fun _ => po
  ex0 := F.ex0
  sx0 := F.sx0
  tk := fun _ => tk
  rm := F.rm
  hex := F.hex
  xcl := F.xcl
  nw := F.nw
theorem CxS.suite (F : CxS X T CL G W nt S) (a : Addr) (pn : List (Addr × Obj)) (x : Option (Nat × Nat)) (CL1 : CLs)
    (hfle : ∀ i c, x = some (i, c) → ∀ (j : Nat) (n f : Str) (p pos : Pos), S.N[i]? = some n → Vis X.env.scope n → (n == ("__debug__" : Str)) = false → (n == ("__classdict__" : Str)) = false → (nt.cf c)[j]? = some f → PE (X.suite a pn) (.Attribute (.Name n p) f pos) (tI T CL1 G W0 (.fle i c j))) :
    CxS (X.suite a pn) T CL1 G W0 nt (S.sui x) where
  mono := F.mono
  K := F.K
  u := F.u
  N := F.N
  nd := F.nd
  sc := F.sc
  fn := F.fn
  calm := fun h => by cases h
  qual := F.qual
  g := F.g
  b := F.b
  gcd := F.gcd
  cls := F.cls
  calls := fun h => by cases h
  lam := fun h => by cases h
  fle := hfle
  kind := F.kind
  stk := F.stk
  frm := F.frm
  own := fun h => by cases h
  ex0 := fun h => by cases h
  sx0 := fun h => by cases h
  tk := fun h => by cases h
  rm := fun h => by cases h
  hex := F.hex
  xcl := F.xcl
  nw := F.nw
theorem ckAsg_ok {p : Pat} {e : ME} {tg v : Expr} {pos : Pos} (F : CxS X T CL G W nt S) (h : Yes T (ckAsg nt S p e tg v)) : PS X (.Assign [tg] v pos) (tS T CL G W (.set p e)) := by
  unfold ckAsg at h
  split at h
  · unfold ckPair at h
    split at h
    · split at h
      · obtain ⟨h1, h2⟩ := h.two
        have h1 := h1.is
        simp only [Bool.and_eq_true, decide_eq_true_eq] at h1
        obtain ⟨⟨⟨⟨⟨⟨k1, k2⟩, k3⟩, k4⟩, k5⟩, k6⟩, k7⟩ := h1
        exact rs_par (l := []) F.mono (F.calm k1) (by rw [F.N]; exact F.nd) (by rw [F.N]; exact k2) (by rw [F.N]; exact k3) k4 (by rw [F.sc]; exact k5) (by rw [F.sc]; exact k6) (ckL_ok _ F.toCxF _ h2) (fun _ => swap_ok F.sc F.kind k7)
      · exact h.no.elim
    · exact h.no.elim
  · rename_i hsw
    split at h
    · rename_i hcr
      unfold ckLc at h
      split at h
      · obtain ⟨h0, h⟩ := h.two
        have h0 := h0.is
        simp only [Bool.and_eq_true, decide_eq_true_eq] at h0
        obtain ⟨g1, g2⟩ := h0
        simp only [ckE] at h
        split at h
        · obtain ⟨h1, h⟩ := h.two
          obtain ⟨h2, h⟩ := h.two
          obtain ⟨h3, h4⟩ := h.two
          have h1 := h1.is
          simp only [Bool.and_eq_true, decide_eq_true_eq, List.all_eq_true] at h1
          obtain ⟨⟨⟨⟨⟨⟨k1, rfl⟩, k2⟩, k3⟩, k4⟩, k5⟩, k6⟩ := h1
          rw [← k3]
          refine rs_setLc F.mono (F.calm k1) (by rw [F.N]; exact F.nd) (by rw [F.N]; exact g1) (by rw [F.sc]; exact g2) (by rw [compR_ok F.sc F.kind, hcr]) (ckI_ok _ F.toCxF _ _ h2) (by rw [F.N, F.sc]; exact blkOk_by k2) (fun s H C cl fp => ckP_ok (F.toCxF.block s H C cl fp _) _ _ k6) (fun s H C cl fp => ?_) (fun s H C cl fp => ckE_ok _ (F.toCxF.block s H C cl fp _) _ h4) (fun x => notSet_ok k5 x) (by rw [k3]; exact k4)
          split at h3
          · split at h3
            · exact rts_none F.mono
            · exact h3.no.elim
          · exact pts_one (ckT_ok _ (F.toCxF.block s H C cl fp _) _ h3)
          · exact h3.no.elim
        · exact h.no.elim
      · exact h.no.elim
    · rename_i hcr
      obtain ⟨h1, h2⟩ := h.two
      have h1 := h1.is
      simp only [Bool.and_eq_true] at h1
      have hc0 : compR S v tg = false := by simpa using hcr
      refine rs_asg F.mono (ckE_ok _ F.toCxF _ h2) (ckP_ok F.toCxF _ _ h1.1) ?_ ?_ (by rw [assignEach_map h1.2]; rfl)
      · show swapsWith v (some tg) pos.line X.env = _
        rw [compR_ok F.sc F.kind, hc0]
      · unfold isSwap at hsw
        split at hsw
        · exact swap_ok F.sc F.kind (by assumption)
        · exact absurd rfl hsw
end
mutual
theorem ckB_ok : ∀ (m : MS) {X : Cx} {CL : CLs} {W : WX} {S : SC}, CxS X T CL G W nt S → ∀ (l : List Stmt), Yes T (ckB nt S m l) → PSs X l (tS T CL G W m)
  | .skip, X, CL, W, S, F, l, h => by
    simp only [ckB] at h
    split at h
    · exact rs_nil
    · exact h.no.elim
  | .sq (.frz i) b, X, CL, W, S, F, l, h => rs_frz F.mono (ckB_ok b F l h)
  | .sq .skip b, X, CL, W, S, F, l, h => by
    simp only [ckB] at h
    split at h
    · obtain ⟨h1, h2⟩ := h.two
      exact rs_cons F.mono (ckS_ok .skip F _ h1) (ckB_ok b F _ h2)
    · exact h.no.elim
  | .sq (.sq x0 x1) b, X, CL, W, S, F, l, h => by
    simp only [ckB] at h
    split at h
    · obtain ⟨h1, h2⟩ := h.two
      exact rs_cons F.mono (ckS_ok (.sq x0 x1) F _ h1) (ckB_ok b F _ h2)
    · exact h.no.elim
  | .sq (.set x0 x1) b, X, CL, W, S, F, l, h => by
    simp only [ckB] at h
    split at h
    · obtain ⟨h1, h2⟩ := h.two
      exact rs_cons F.mono (ckS_ok (.set x0 x1) F _ h1) (ckB_ok b F _ h2)
    · exact h.no.elim
  | .sq (.setIx x0 x1 x2) b, X, CL, W, S, F, l, h => by
    simp only [ckB] at h
    split at h
    · obtain ⟨h1, h2⟩ := h.two
      exact rs_cons F.mono (ckS_ok (.setIx x0 x1 x2) F _ h1) (ckB_ok b F _ h2)
    · exact h.no.elim
  | .sq (.setFl x0 x1 x2) b, X, CL, W, S, F, l, h => by
    simp only [ckB] at h
    split at h
    · obtain ⟨h1, h2⟩ := h.two
      exact rs_cons F.mono (ckS_ok (.setFl x0 x1 x2) F _ h1) (ckB_ok b F _ h2)
    · exact h.no.elim
  | .sq (.aug x0 x1 x2) b, X, CL, W, S, F, l, h => by
    simp only [ckB] at h
    split at h
    · obtain ⟨h1, h2⟩ := h.two
      exact rs_cons F.mono (ckS_ok (.aug x0 x1 x2) F _ h1) (ckB_ok b F _ h2)
    · exact h.no.elim
  | .sq (.augFl x0 x1 x2 x3) b, X, CL, W, S, F, l, h => by
    simp only [ckB] at h
    split at h
    · obtain ⟨h1, h2⟩ := h.two
      exact rs_cons F.mono (ckS_ok (.augFl x0 x1 x2 x3) F _ h1) (ckB_ok b F _ h2)
    · exact h.no.elim
  | .sq (.exp x0) b, X, CL, W, S, F, l, h => by
    simp only [ckB] at h
    split at h
    · obtain ⟨h1, h2⟩ := h.two
      exact rs_cons F.mono (ckS_ok (.exp x0) F _ h1) (ckB_ok b F _ h2)
    · exact h.no.elim
  | .sq (.ret x0) b, X, CL, W, S, F, l, h => by
    simp only [ckB] at h
    split at h
    · obtain ⟨h1, h2⟩ := h.two
      exact rs_cons F.mono (ckS_ok (.ret x0) F _ h1) (ckB_ok b F _ h2)
    · exact h.no.elim
  | .sq .retn b, X, CL, W, S, F, l, h => by
    simp only [ckB] at h
    split at h
    · obtain ⟨h1, h2⟩ := h.two
      exact rs_cons F.mono (ckS_ok .retn F _ h1) (ckB_ok b F _ h2)
    · exact h.no.elim
  | .sq (.ifS x0 x1 x2) b, X, CL, W, S, F, l, h => by
    simp only [ckB] at h
    split at h
    · obtain ⟨h1, h2⟩ := h.two
      exact rs_cons F.mono (ckS_ok (.ifS x0 x1 x2) F _ h1) (ckB_ok b F _ h2)
    · exact h.no.elim
  | .sq (.whl x0 x1) b, X, CL, W, S, F, l, h => by
    simp only [ckB] at h
    split at h
    · obtain ⟨h1, h2⟩ := h.two
      exact rs_cons F.mono (ckS_ok (.whl x0 x1) F _ h1) (ckB_ok b F _ h2)
    · exact h.no.elim
  | .sq (.forS x0 x1 x2) b, X, CL, W, S, F, l, h => by
    simp only [ckB] at h
    split at h
    · obtain ⟨h1, h2⟩ := h.two
      exact rs_cons F.mono (ckS_ok (.forS x0 x1 x2) F _ h1) (ckB_ok b F _ h2)
    · exact h.no.elim
  | .sq (.rais x0 x1) b, X, CL, W, S, F, l, h => by
    simp only [ckB] at h
    split at h
    · obtain ⟨h1, h2⟩ := h.two
      exact rs_cons F.mono (ckS_ok (.rais x0 x1) F _ h1) (ckB_ok b F _ h2)
    · exact h.no.elim
  | .sq (.tryS x0 x1) b, X, CL, W, S, F, l, h => by
    simp only [ckB] at h
    split at h
    · obtain ⟨h1, h2⟩ := h.two
      exact rs_cons F.mono (ckS_ok (.tryS x0 x1) F _ h1) (ckB_ok b F _ h2)
    · exact h.no.elim
  | .sq (.hc x0 x1 x2 x3) b, X, CL, W, S, F, l, h => by
    simp only [ckB] at h
    split at h
    · obtain ⟨h1, h2⟩ := h.two
      exact rs_cons F.mono (ckS_ok (.hc x0 x1 x2 x3) F _ h1) (ckB_ok b F _ h2)
    · exact h.no.elim
  | .sq .hn b, X, CL, W, S, F, l, h => by
    simp only [ckB] at h
    split at h
    · obtain ⟨h1, h2⟩ := h.two
      exact rs_cons F.mono (ckS_ok .hn F _ h1) (ckB_ok b F _ h2)
    · exact h.no.elim
  | .sq .brk b, X, CL, W, S, F, l, h => by
    simp only [ckB] at h
    split at h
    · obtain ⟨h1, h2⟩ := h.two
      exact rs_cons F.mono (ckS_ok .brk F _ h1) (ckB_ok b F _ h2)
    · exact h.no.elim
  | .sq .cnt b, X, CL, W, S, F, l, h => by
    simp only [ckB] at h
    split at h
    · obtain ⟨h1, h2⟩ := h.two
      exact rs_cons F.mono (ckS_ok .cnt F _ h1) (ckB_ok b F _ h2)
    · exact h.no.elim
  | .sq (.kill x0) b, X, CL, W, S, F, l, h => by
    simp only [ckB] at h
    split at h
    · obtain ⟨h1, h2⟩ := h.two
      exact rs_cons F.mono (ckS_ok (.kill x0) F _ h1) (ckB_ok b F _ h2)
    · exact h.no.elim
  | .set _ _, X, CL, W, S, F, l, h => h.no.elim
  | .setIx _ _ _, X, CL, W, S, F, l, h => h.no.elim
  | .setFl _ _ _, X, CL, W, S, F, l, h => h.no.elim
  | .aug _ _ _, X, CL, W, S, F, l, h => h.no.elim
  | .augFl _ _ _ _, X, CL, W, S, F, l, h => h.no.elim
  | .exp _, X, CL, W, S, F, l, h => h.no.elim
  | .ret _, X, CL, W, S, F, l, h => h.no.elim
  | .retn, X, CL, W, S, F, l, h => h.no.elim
  | .ifS _ _ _, X, CL, W, S, F, l, h => h.no.elim
  | .whl _ _, X, CL, W, S, F, l, h => h.no.elim
  | .forS _ _ _, X, CL, W, S, F, l, h => h.no.elim
  | .rais _ _, X, CL, W, S, F, l, h => h.no.elim
  | .tryS _ _, X, CL, W, S, F, l, h => h.no.elim
  | .hc _ _ _ _, X, CL, W, S, F, l, h => h.no.elim
  | .hn, X, CL, W, S, F, l, h => h.no.elim
  | .brk, X, CL, W, S, F, l, h => h.no.elim
  | .cnt, X, CL, W, S, F, l, h => h.no.elim
  | .frz _, X, CL, W, S, F, l, h => h.no.elim
  | .kill _, X, CL, W, S, F, l, h => h.no.elim
theorem ckS_ok : ∀ (m : MS) {X : Cx} {CL : CLs} {W : WX} {S : SC}, CxS X T CL G W nt S → ∀ (st : Stmt), Yes T (ckS nt S m st) → PS X st (tS T CL G W m)
  | .skip, X, CL, W, S, F, st, h => by
    simp only [ckS] at h
    split at h
    · exact rs_pass
    · exact h.no.elim
  | .set p e, X, CL, W, S, F, st, h => by
    simp only [ckS] at h
    split at h
    · exact ckAsg_ok F h
    · exact h.no.elim
  | .setIx o i e, X, CL, W, S, F, st, h => by
    simp only [ckS] at h
    split at h
    · obtain ⟨h1, h⟩ := h.two
      obtain ⟨h2, h⟩ := h.two
      obtain ⟨h3, h4⟩ := h.two
      exact rs_setIx F.mono (ckE_ok o F.toCxF _ h2) (ckE_ok i F.toCxF _ h3) (ckE_ok e F.toCxF _ h4) h1.is sub_swap
    · exact h.no.elim
  | .aug i o e, X, CL, W, S, F, st, h => by
    simp only [ckS] at h
    split at h
    · obtain ⟨h1, h2⟩ := h.two
      have h1 := h1.is
      simp only [Bool.and_eq_true, decide_eq_true_eq] at h1
      obtain ⟨k1, rfl⟩ := h1
      obtain ⟨v1, v2, v3⟩ := F.put k1
      exact rs_aug F.mono (by rw [F.N]; exact F.nd) v1 v2 v3 (ckE_ok e F.toCxF _ h2)
    · exact h.no.elim
  | .exp e, X, CL, W, S, F, st, h => by
    simp only [ckS] at h
    split at h
    · obtain ⟨h1, h2⟩ := h.two
      have h1 := h1.is
      exact rs_exp F.mono (ckE_ok e F.toCxF _ h2) (compNone (by simpa using h1))
    · exact h.no.elim
  | .ret e, X, CL, W, S, F, st, h => by
    simp only [ckS] at h
    split at h
    · exact rs_ret F.mono (ckE_ok e F.toCxF _ h)
    · exact h.no.elim
  | .retn, X, CL, W, S, F, st, h => by
    simp only [ckS] at h
    split at h
    · exact rs_retn
    · exact h.no.elim
  | .ifS t a b, X, CL, W, S, F, st, h => by
    simp only [ckS] at h
    split at h
    · obtain ⟨h1, h⟩ := h.two
      obtain ⟨h2, h3⟩ := h.two
      exact rs_if F.mono (ckT_ok t F.toCxF _ h1) (ckB_ok a F _ h2) (ckB_ok b F _ h3)
    · exact h.no.elim
  | .whl t b, X, CL, W, S, F, st, h => by
    simp only [ckS] at h
    split at h
    · obtain ⟨h1, h⟩ := h.two
      obtain ⟨h2, h3⟩ := h.two
      exact rs_while F.mono (F.own h1.is) (ckT_ok t F.toCxF _ h2) (ckB_ok b F _ h3)
    · exact h.no.elim
  | .forS p it b, X, CL, W, S, F, st, h => by
    simp only [ckS] at h
    split at h
    · obtain ⟨h1, h⟩ := h.two
      obtain ⟨h2, h3⟩ := h.two
      have h1 := h1.is
      simp only [Bool.and_eq_true] at h1
      obtain ⟨⟨k1, k2⟩, k3⟩ := h1
      exact rs_for F.mono (F.own k1) (F.calm k1) (ckI_ok it F.toCxF _ _ h2) (ckP_ok F.toCxF p _ k3) (ckB_ok b F _ h3) (fun x => notSet_ok k2 x)
    · exact h.no.elim
  | .rais c es, X, CL, W, S, F, st, h => by
    simp only [ckS] at h
    split at h
    · obtain ⟨h1, h2⟩ := h.two
      have h1 := h1.is
      simp only [Bool.and_eq_true, decide_eq_true_eq] at h1
      obtain ⟨⟨⟨⟨⟨k1, k2⟩, k3⟩, k4⟩, k5⟩, k6⟩ := h1
      obtain ⟨C, fI, d, q1, q2, q3, q4, q5, q6, q7, q8, q9⟩ := F.xcl _ _ k5
      exact rs_raise F.mono (F.calm k1) (F.tk k1) (pmk_exc F.mono q3 q4 q5 q1 (F.rm k2) (F.gl k3) q2 (okN_get k4).1 k6 (F.nw c) (ckL_ok es F.toCxF _ h2))
    · exact h.no.elim
  | .tryS b hs, X, CL, W, S, F, st, h => by
    simp only [ckS] at h
    split at h
    · obtain ⟨h1, h⟩ := h.two
      obtain ⟨h2, h3⟩ := h.two
      have hc := h1.is
      obtain ⟨l, hh⟩ := ckH_ok hs F hc _ h3
      exact rs_try F.mono F.stk F.frm (by rw [F.N]; exact F.nd) (F.tk hc) F.hex (F.ex0 hc) (fun W' pn xe tk po => ckB_ok b (F.tr hc pn xe tk po) _ h2) hh
    · exact h.no.elim
  | .brk, X, CL, W, S, F, st, h => by
    simp only [ckS] at h
    split at h
    · exact rs_brk
    · exact h.no.elim
  | .cnt, X, CL, W, S, F, st, h => by
    simp only [ckS] at h
    split at h
    · exact rs_cnt
    · exact h.no.elim
  | .sq _ _, X, CL, W, S, F, st, h => h.no.elim
  | .setFl _ _ _, X, CL, W, S, F, st, h => h.no.elim
  | .augFl _ _ _ _, X, CL, W, S, F, st, h => h.no.elim
  | .hc _ _ _ _, X, CL, W, S, F, st, h => h.no.elim
  | .hn, X, CL, W, S, F, st, h => h.no.elim
  | .frz _, X, CL, W, S, F, st, h => h.no.elim
  | .kill _, X, CL, W, S, F, st, h => h.no.elim
theorem ckH_ok : ∀ (m : MS) {X : Cx} {CL : CLs} {W : WX} {S : SC}, CxS X T CL G W nt S → S.calm = true → ∀ (hds : List ExceptHandler), Yes T (ckH nt S m hds) → ∃ l, HsOk X T CL G m hds l
  | .hn, X, CL, W, S, F, hc, hds, h => by
    simp only [ckH] at h
    split at h
    · exact ⟨_, .nil⟩
    · exact h.no.elim
  | .hc c slot b r, X, CL, W, S, F, hc, hds, h => by
    simp only [ckH] at h
    split at h
    · obtain ⟨h1, h⟩ := h.two
      obtain ⟨h2, h3⟩ := h.two
      have h1 := h1.is
      simp only [Bool.and_eq_true, decide_eq_true_eq] at h1
      obtain ⟨⟨⟨k1, k2⟩, k3⟩, k4⟩ := h1
      obtain ⟨l, hr⟩ := ckH_ok r F hc _ h3
      obtain ⟨C, fI, d, q1, q2, q3, q4, q5, q6, q7, q8, q9⟩ := F.xcl _ _ k3
      have nm : L2.Names X _ (.ref C) := ⟨F.gl k1, (okN_get k2).1, .inl q2⟩
      unfold asName at k4
      split at k4
      · exact ⟨_, .one q1 nm (fun a oe cls d' pn hz hf => ckB_ok b (F.suite a _ none CL (fun _ _ z => by cases z)) _ h2) hr⟩
      · rename_i i n _
        simp only [Bool.and_eq_true, decide_eq_true_eq] at k4
        refine ⟨_, .as q1 (by rw [F.N]; exact k4.1) (by show X.env.scope.names.lookup _ = _; rw [F.sc]; exact k4.2) nm (fun a oe d' pn hz hf => ckB_ok b (F.suite a _ (some (i, c)) _ (fun i' c' z j n' f p pos v1 v2 v3 v4 v5 => ?_)) _ h2) hr⟩
        cases z
        rw [← q6] at v5
        exact re_fle F.mono q8 (q9 f (List.mem_of_getElem? v5)) hz hf (by rw [F.N]; exact v1) v2 v3 v4 v5 q7
      · cases k4
    · exact h.no.elim
  | .skip, X, CL, W, S, F, hc, hds, h => h.no.elim
  | .sq _ _, X, CL, W, S, F, hc, hds, h => h.no.elim
  | .set _ _, X, CL, W, S, F, hc, hds, h => h.no.elim
  | .setIx _ _ _, X, CL, W, S, F, hc, hds, h => h.no.elim
  | .setFl _ _ _, X, CL, W, S, F, hc, hds, h => h.no.elim
  | .aug _ _ _, X, CL, W, S, F, hc, hds, h => h.no.elim
  | .augFl _ _ _ _, X, CL, W, S, F, hc, hds, h => h.no.elim
  | .exp _, X, CL, W, S, F, hc, hds, h => h.no.elim
  | .ret _, X, CL, W, S, F, hc, hds, h => h.no.elim
  | .retn, X, CL, W, S, F, hc, hds, h => h.no.elim
  | .ifS _ _ _, X, CL, W, S, F, hc, hds, h => h.no.elim
  | .whl _ _, X, CL, W, S, F, hc, hds, h => h.no.elim
  | .forS _ _ _, X, CL, W, S, F, hc, hds, h => h.no.elim
  | .rais _ _, X, CL, W, S, F, hc, hds, h => h.no.elim
  | .tryS _ _, X, CL, W, S, F, hc, hds, h => h.no.elim
  | .brk, X, CL, W, S, F, hc, hds, h => h.no.elim
  | .cnt, X, CL, W, S, F, hc, hds, h => h.no.elim
  | .frz _, X, CL, W, S, F, hc, hds, h => h.no.elim
  | .kill _, X, CL, W, S, F, hc, hds, h => h.no.elim
end
end
end Mi
set_option linter.all false
set_option maxRecDepth 100000
set_option maxHeartbeats 4000000
/-! Mi: a program's defs and lambdas, from what the looking at their texts says. -/
namespace Mi
open PySem L2 PySem.Spec PyProof.Rows

/-- the module is as told -/
structure Glo (T : Tb) (Pm : Program) (K : PySem.W.Frag) (mg : Str → Option Value) (P : Prg) (nt : NT) : Prop where
  eK : K = T.K
  g : ∀ x k, nt.g x = some k → ∃ u v, mg x = some u ∧ RelV v u ∧ ∀ hi μ Lv H, R (T.hide hi) μ Lv H (P.gc.getD k .non) v
  b : ∀ x, nt.b x = true → mg x = none
  gcd : nt.gcd = true → mg "gcd" = some (.builtin "math.gcd")
  cls : ∀ x c, nt.c x = some c → ∃ C, T.ca c = some C ∧ mg x = some (.ref C) ∧ clsNot T.K C
  f : ∀ x fi, nt.f x = some fi → T.fp fi = nt.fp fi ∧ (∃ a, T.fa fi = some a ∧ mg x = some (.ref a)) ∧ ∀ us : List Value, us.length = (T.fp fi).length → bindArgs (T.fd fi) ⟨[], (T.fp fi).zip us⟩ = pure ((T.fp fi).zip us)
  hand : ∀ (fi : Nat) (a : Addr), T.fa fi = some a → PySem.W.keepIn K (.ref a) = true ∧ (∀ us : List Value, us.length = (T.fp fi).length → bindArgs (T.fd fi) ⟨us, []⟩ = pure ((T.fp fi).zip us)) ∧ ∀ F, P.fns[fi]? = some F → F.np = (T.fp fi).length
  hex : ∀ c c' C C', T.ca c = some C → T.ca c' = some C' → PySem.W.exmOne K (.ref C) (.ref C') = some (decide (c = c'))
  xcl : ∀ x c, nt.c x = some c → ∃ C fI d, T.ca c = some C ∧ mg x = some (.ref C) ∧ ExcC K C fI ∧ IniOk Pm K mg C fI (T.cf c) d ∧ T.cf c ≠ [] ∧ T.cf c = nt.cf c ∧ (T.cf c).Nodup ∧ XfC K C ∧ ∀ f ∈ T.cf c, PySem.W.findIn K (.ref C) f = some none
  cl : ∀ c m, P.cls[c]? = some m → m = (T.cf c).length
section
variable {T : Tb} {Pm : Program} {w : World} {K : PySem.W.Frag} {mg : Str → Option Value} {base : Heap} {P : Prg} {nt : NT}
theorem callN_gc {n k : Nat} : (callN P n).gc k = P.gc.getD k .non := by cases n <;> rfl
theorem callN_nw (h : ∀ c m, P.cls[c]? = some m → m = (T.cf c).length) {n c : Nat} {ds : List D} {hd : Hd} {Q : KD} {Xd : KX} (q : (callN P n).nw c ds hd Q Xd) : ds.length = (T.cf c).length ∧ Xd ⟨c, ds⟩ hd := by
  cases n with
  | zero => exact (show False from q).elim
  | succ n =>
    obtain ⟨m, e, q⟩ := opt_get (show opt P.cls[c]? fun m => ds.length = m ∧ Xd ⟨c, ds⟩ hd from q)
    exact ⟨q.1.trans (h c m e), q.2⟩
theorem callN_cf {fi : Nat} (h : ∀ F, P.fns[fi]? = some F → F.np = (T.fp fi).length) {n : Nat} {ds : List D} {hd : Hd} {Q : KD} {Xd : KX} (q : (callN P n).cf fi ds hd Q Xd) : ds.length = (T.fp fi).length := by
  cases n with
  | zero => exact (show False from q).elim
  | succ n =>
    obtain ⟨F, e, q⟩ := opt_get (show opt P.fns[fi]? fun F => ds.length = F.np ∧ _ from q)
    exact q.1.trans (h F e)
/-- any context of the module -/
theorem CxS.of (g : Glo T Pm K mg P nt) {n k : Nat} (h0 : 2 ≤ k) (h1 : FnI T Pm w K mg base (callN P n) k) (h2 : LamI T Pm w K mg base (callN P n) k) {X : Cx} {S : SC} {CL : CLs} {W : WX}
    (eP : X.prog = Pm) (ew : X.w = w) (eK : X.K = K) (em : X.mg = mg) (eb : X.base = base) (hr : Room k X.A) (hN : X.N = S.N) (nd : S.N.Nodup) (sc : X.env.scope = S.sc) (fn : ∀ x, S.fn x = true → X.fn x = true) (calm : X.calm = true) (qual : X.env.qual = S.qual)
    (tk : Takes X W) (cx : CLx T CL X) (lam : S.lam = true → ∃ c P0, LamX.TabB base mg c P0 ∧ X.env.code = .ref c ∧ (P0, S.qual ++ "<lambda>") ∈ T.tb ∧ ∀ p ∈ T.tb, p.1 = P0 → p.2 = S.qual ++ "<lambda>") (ex : S.exn = none) (kind : S.sc.kind = .function)
    (stk : X.stack = X.env :: X.outer) (frm : X.env.frame = some X.env.locals) (own : PassesOwn (model X.prog X.w) X.A X.env X.xe) (ex0 : CL.exn = fun _ => none) : CxS X T CL (callN P n) W nt S := by
  subst eP ew eK em eb
  exact
  { mono := monoN P n
    K := g.eK
    u := hr.units
    N := hN
    nd := nd
    sc := sc
    fn := fn
    calm := fun _ => calm
    qual := qual
    g := fun x k' h => by
      obtain ⟨u, v, e1, e2, e3⟩ := g.g x k' h
      exact ⟨u, v, e1, e2, by rw [callN_gc]; exact e3⟩
    b := g.b
    gcd := g.gcd
    cls := g.cls
    calls := fun _ => ⟨tk, cx, k, h1, h2, hr, fun fi a ha => by
      obtain ⟨e1, e2, e3⟩ := g.hand fi a ha
      exact ⟨e1, e2, fun ds hd Q E q => callN_cf e3 q⟩, g.f⟩
    lam := fun h => by
      obtain ⟨c, P0, e1, e2, e3, e4⟩ := lam h
      rw [qual]
      exact ⟨c, P0, e1, e2, e3, e4⟩
    fle := fun _ _ h => by rw [ex] at h; cases h
    kind := kind
    stk := stk
    frm := frm
    own := fun _ => own
    ex0 := fun _ => ex0
    sx0 := fun _ => ex
    tk := fun _ => tk
    rm := fun _ => hr.mono h0
    hex := g.hex
    xcl := g.xcl
    nw := fun c ds hd Q Xd q => callN_nw g.cl q }
/-- where a def's body stands -/
def fnSC (N : List Str) (scope : Scope) (qual : Str) (lam : Bool) : SC := ⟨N, scope, fun _ => true, true, true, lam, qual ++ ".<locals>.", none⟩
theorem fnB_of (g : Glo T Pm K mg P nt) {fi : Nat} {F : Fn} {a : Addr} {name qual : Str} {params : Arguments} {body : List Stmt} {scope : Scope} {dV kV doc pm cdv ct oc : Value} {an od : Option Addr} {osl : Array (Option Value)} {N : List Str} {lam : Bool}
    (ha : T.fa fi = some a) (lk : K.lookup a = some ⟨oc, od, .func (PySem.W.fnOf name qual params body scope dV kV doc pm an cdv ct), osl⟩) (efd : T.fd fi = PySem.W.fnOf name qual params body scope dV kV doc pm an cdv ct) (hcd : PySem.W.codeIn K cdv qual = true) (S : FnScope N (T.fp fi) scope)
    (hnp : F.np = (T.fp fi).length) (hnl : F.nl = N.length)
    (hlam : lam = true → ∃ c P0, LamX.TabB base mg c P0 ∧ cdv = .ref c ∧ (P0, qual ++ ".<locals>." ++ "<lambda>") ∈ T.tb ∧ ∀ p ∈ T.tb, p.1 = P0 → p.2 = qual ++ ".<locals>." ++ "<lambda>")
    (hck : Yes T (ckB nt (fnSC N scope qual lam) F.body body)) : FnB T Pm w K mg base P fi F :=
  ⟨a, name, qual, params, body, scope, dV, kV, doc, pm, cdv, ct, oc, an, od, osl, N, ha, lk, efd, hcd, S, hnp, hnl, fun n k h0 h1 h2 A outer s H E CL hr hcl hex =>
    ckB_ok F.body (CxS.of (S := fnSC N scope qual lam) g h0 h1 h2 rfl rfl rfl rfl rfl hr rfl S.nd rfl (fun _ _ => rfl) rfl rfl (takes_of rfl rfl rfl rfl) hcl hlam rfl S.kind rfl rfl (passes_of rfl) hex) body hck⟩
/-- where a lambda's body stands -/
def lamSC (L : LaC) : SC := ⟨L.ps ++ L.fr, L.scope, fun _ => false, true, true, false, L.q ++ ".<locals>.", none⟩
theorem lamB_of (g : Glo T Pm K mg P nt) {k0 : Nat} {L : La} (hd : L.dfl = []) (hnp : L.np = (T.la k0).ps.length) (hS : NdefX.nscB ((T.la k0).ps ++ (T.la k0).fr) (T.la k0).ps (T.la k0).fr (T.la k0).scope = true)
    (hb : ∀ (cl : List (Str × Addr)) (pm cv ctv : Value) (us : List Value), us.length = (T.la k0).ps.length → bindArgs (PySem.W.kla_fn "<lambda>" (T.la k0).q (T.la k0).params (T.la k0).body (T.la k0).scope cl pm cv ctv) ⟨us, []⟩ = pure ((T.la k0).ps.zip us))
    (hck : Yes T (ckE nt (lamSC (T.la k0)) L.body (T.la k0).body)) : LamB T Pm w K mg base P k0 L :=
  ⟨hd, hnp, NdefX.nscope_by hS, hb, fun n k h0 h1 h2 f c' cl A outer s H E CL hr hcl hex =>
    ckE_ok L.body (CxS.of (S := lamSC (T.la k0)) g h0 h1 h2 rfl rfl rfl rfl rfl hr rfl (NdefX.nscope_by hS).nd rfl (fun _ h => by cases h) rfl rfl (takes_of rfl rfl rfl rfl) hcl (fun h => by cases h) rfl (NdefX.nscope_by hS).kind rfl rfl (passes_of rfl) hex).toCxF _ hck⟩
end
end Mi
set_option linter.all false
set_option maxRecDepth 100000
set_option maxHeartbeats 4000000
/-! Mi: plain parameters are bound. -/
namespace Mi
open PySem L2 PySem.Spec PyProof.Rows

theorem zip_cons_look {α : Type} {n : Str} {u : α} {l : List (Str × α)} : ((n, u) :: l).lookup n = some u := by simp [List.lookup]
theorem ne_look {α : Type} {n m : Str} {u : α} {l : List (Str × α)} (h : m ≠ n) : ((n, u) :: l).lookup m = l.lookup m := by
  have ne : (m == n) = false := by rw [beq_eq_false_iff_ne]; exact h
  simp [List.lookup, ne]
theorem zip_look {α : Type} : ∀ {ns : List Str} {us : List α}, ns.Nodup → us.length = ns.length → ns.filterMap (fun n => ((ns.zip us).lookup n).map fun v => (n, v)) = ns.zip us
  | [], us, _, _ => by cases us <;> rfl
  | n :: ns, [], _, h => by cases h
  | n :: ns, u :: us, nd, h => by
    obtain ⟨h1, h2⟩ := List.nodup_cons.mp nd
    have ih := zip_look (us := us) h2 (by simpa using h)
    rw [List.zip_cons_cons, List.filterMap_cons, zip_cons_look]
    show (n, u) :: ns.filterMap _ = _
    have key : ∀ (l : List Str), (∀ m ∈ l, m ≠ n) → l.filterMap (fun m => (((n, u) :: ns.zip us).lookup m).map fun v => (m, v)) = l.filterMap (fun m => ((ns.zip us).lookup m).map fun v => (m, v)) := by
      intro l
      induction l with
      | nil => intro _; rfl
      | cons m r ih2 =>
        intro hm
        rw [List.filterMap_cons, List.filterMap_cons, ne_look (hm m List.mem_cons_self), ih2 fun k hk => hm k (List.mem_cons_of_mem _ hk)]
    exact congrArg ((n, u) :: ·) ((key ns fun m hm => by rintro rfl; exact h1 hm).trans ih)
theorem zip_some {α : Type} : ∀ {ns : List Str} {us : List α}, us.length = ns.length → ∀ n ∈ ns, ((ns.zip us).lookup n).isSome = true
  | [], us, _, n, hn => by cases hn
  | m :: ns, [], h, n, hn => by cases h
  | m :: ns, u :: us, h, n, hn => by
    rw [List.zip_cons_cons]
    by_cases e : n = m
    · subst e
      rw [zip_cons_look]
      rfl
    · rw [ne_look e]
      exact zip_some (by simpa using h) n (by
        rcases List.mem_cons.mp hn with z | z
        · exact (e z).elim
        · exact z)
theorem zip_none {α : Type} : ∀ {ns : List Str} {us : List α} {n : Str}, n ∉ ns → (ns.zip us).lookup n = none
  | [], us, n, _ => by cases us <;> rfl
  | m :: ns, [], n, _ => rfl
  | m :: ns, u :: us, n, h => by
    rw [List.zip_cons_cons, ne_look (fun z => h (by rw [z]; exact List.mem_cons_self))]
    exact zip_none fun z => h (List.mem_cons_of_mem _ z)
theorem look_mem {α : Type} {x : Str} {v : α} : ∀ {l : List (Str × α)}, l.lookup x = some v → (x, v) ∈ l
  | [], h => by cases h
  | (y, u) :: r, h => by
    by_cases e : x = y
    · subst e
      rw [zip_cons_look] at h
      cases h
      exact List.mem_cons_self
    · rw [ne_look e] at h
      exact List.mem_cons_of_mem _ (look_mem h)
theorem forIn_pure {α β : Type} (l : List α) (f : α → β → Sem (ForInStep β)) (g : List α → β) (h : ∀ pre x post, l = pre ++ x :: post → f x (g pre) = pure (.yield (g (pre ++ [x])))) : forIn l (g []) f = (pure (g l) : Sem β) := by
  have key : ∀ (post pre : List α), l = pre ++ post → forIn post (g pre) f = (pure (g l) : Sem β) := by
    intro post
    induction post with
    | nil => intro pre e; rw [List.append_nil] at e; rw [e]; rfl
    | cons x r ih =>
      intro pre e
      rw [List.forIn_cons, h pre x r e, pure_bind]
      exact ih (pre ++ [x]) (by rw [e, List.append_assoc]; rfl)
  exact key l [] rfl
theorem mem_zip_fst {α : Type} {ns : List Str} {us : List α} {p : Str × α} (h : p ∈ ns.zip us) : p.1 ∈ ns := by
  obtain ⟨a, b⟩ := p
  exact (List.of_mem_zip h).1
theorem zip_split {α : Type} : ∀ {ns : List Str} {us : List α} {pre post : List (Str × α)} {x : Str × α}, ns.Nodup → ns.zip us = pre ++ x :: post → pre.lookup x.1 = none
  | ns, us, [], post, x, _, _ => rfl
  | [], us, y :: pre, post, x, _, h => by cases us <;> simp at h
  | n :: ns, [], y :: pre, post, x, _, h => by simp at h
  | n :: ns, u :: us, y :: pre, post, x, nd, h => by
    obtain ⟨h1, h2⟩ := List.nodup_cons.mp nd
    rw [List.zip_cons_cons, List.cons_append] at h
    injection h with e1 e2
    subst e1
    have hx : x.1 ∈ ns := mem_zip_fst (us := us) (by rw [e2]; simp)
    rw [ne_look (by intro z; rw [z] at hx; exact h1 hx)]
    exact zip_split h2 e2
structure PlainA (p : Arguments) : Prop where
  h1 : p.posonlyargs = []
  h2 : p.vararg = none
  h3 : p.kwonlyargs = []
  h4 : p.kw_defaults = []
  h5 : p.kwarg = none
  h6 : p.defaults = []
theorem plainA_of {p : Arguments} (h : plainArgs p = true) : PlainA p := by
  unfold plainArgs at h
  simp only [Bool.and_eq_true, List.isEmpty_iff, Option.isNone_iff_eq_none] at h
  obtain ⟨⟨⟨⟨⟨a, b⟩, c⟩, d⟩, e⟩, f⟩ := h
  exact ⟨a, b, c, d, e, f⟩
theorem mis_nil {α : Type} {l ns : List Str} {us : List α} (hl : us.length = ns.length) (hs : ∀ n ∈ l, n ∈ ns) : (l.filter fun n => ((ns.zip us).lookup n).isNone) = [] := by
  rw [List.filter_eq_nil_iff]
  intro n hn
  have := zip_some (us := us) hl n (hs n hn)
  cases q : (ns.zip us).lookup n with
  | none => rw [q] at this; cases this
  | some v => simp
theorem bind_pos {fd : FuncData} (hp : plainArgs fd.params = true) (hd : fd.defaults = .none) (nd : (argNames fd.params.args).Nodup) {us : List Value} (hl : us.length = (argNames fd.params.args).length) :
    bindArgs fd ⟨us, []⟩ = pure ((argNames fd.params.args).zip us) := by
  obtain ⟨h1, h2, h3, h4, h5, h6⟩ := plainA_of hp
  obtain ⟨n1, n2, n3, n4, n5, n6, n7, n8, n9, n10, n11, n12, n13, n14, n15⟩ := fd
  obtain ⟨p1, p2, p3, p4, p5, p6, p7⟩ := n3
  dsimp only at *
  subst h1 h2 h3 h4 h5 h6 hd
  unfold bindArgs
  have e1 : ((seqItems? Value.none : Sem (Option (Array Value)))) = pure none := rfl
  simp only [argNames] at nd hl ⊢
  generalize List.map (fun x => x.arg) p2 = ns at *
  have e3 := mis_nil (l := ns.take (ns.length - 0)) hl (fun n hn => List.mem_of_mem_take hn)
  have e4 := zip_look nd hl
  have e2 : ¬ ns.length < us.length := by omega
  simp [e1, e3, e4, e2, hl]
  intro x hx hn
  have h3 := zip_some (us := us) hl x hx
  cases q : (ns.zip us).lookup x with
  | none => rw [q] at h3; cases h3
  | some v => exact (hn v (look_mem q)).elim
theorem bind_kw {fd : FuncData} (hp : plainArgs fd.params = true) (hd : fd.defaults = .none) (nd : (argNames fd.params.args).Nodup) {us : List Value} (hl : us.length = (argNames fd.params.args).length) :
    bindArgs fd ⟨[], (argNames fd.params.args).zip us⟩ = pure ((argNames fd.params.args).zip us) := by
  obtain ⟨h1, h2, h3, h4, h5, h6⟩ := plainA_of hp
  obtain ⟨n1, n2, n3, n4, n5, n6, n7, n8, n9, n10, n11, n12, n13, n14, n15⟩ := fd
  obtain ⟨p1, p2, p3, p4, p5, p6, p7⟩ := n3
  dsimp only at *
  subst h1 h2 h3 h4 h5 h6 hd
  unfold bindArgs
  have e1 : ((seqItems? Value.none : Sem (Option (Array Value)))) = pure none := rfl
  simp only [argNames] at nd hl ⊢
  generalize List.map (fun x => x.arg) p2 = ns at *
  have e3 := mis_nil (l := ns.take (ns.length - 0)) hl (fun n hn => List.mem_of_mem_take hn)
  have e4 := zip_look nd hl
  simp [e1, hl]
  refine Eq.trans (congrArg (fun z => z >>= _) (forIn_pure (ns.zip us) _ (fun pre => (⟨pre, []⟩ : List (Str × Value) × List (Str × Value))) ?h)) ?_
  case h =>
    intro pre x post e
    have hx : x.1 ∈ ns := mem_zip_fst (us := us) (by rw [e]; simp)
    have hn := zip_split nd e
    simp [hx, hn]
  simp [e1, e3, e4, hl]
  intro x hx hn
  have h3 := zip_some (us := us) hl x hx
  cases q : (ns.zip us).lookup x with
  | none => rw [q] at h3; cases h3
  | some v => exact (hn v (look_mem q)).elim
end Mi
set_option linter.all false
set_option maxRecDepth 100000
set_option maxHeartbeats 4000000
/-! Mi: what the head tells of a module, by Bools over the observed part of the heap. -/
namespace Mi
open PySem L2 PySem.Spec PyProof.Rows

/-! ### values of the module -/
mutual
def relD (K : PySem.W.Frag) (fa : Nat → Option Addr) : D → Value → Bool
  | .non, .none => true
  | .bl b, .bool c => b == c
  | .int i, .int j _ => decide (i = j)
  | .str s, .str y _ => decide (y = ⟨s.toArray⟩)
  | .tup ds, .ref p => (match K.lookup p with
    | some ⟨.type c, _, .seq its _, _⟩ => decide (c = "tuple") && (decide (its.size ≤ sizeLine) && relDs K fa ds its.toList)
    | _ => false)
  | .glo f, .ref a => decide (fa f = some a)
  | _, _ => false
def relDs (K : PySem.W.Frag) (fa : Nat → Option Addr) : List D → List Value → Bool
  | [], [] => true
  | d :: ds, u :: us => relD K fa d u && relDs K fa ds us
  | _, _ => false
end
theorem relT {K : PySem.W.Frag} {fa : Nat → Option Addr} {ds : List D} {p : Addr} (h : relD K fa (.tup ds) (.ref p) = true) : ∃ oc od its n osl, K.lookup p = some ⟨.type oc, od, .seq its n, osl⟩ ∧ oc = "tuple" ∧ its.size ≤ sizeLine ∧ relDs K fa ds its.toList = true := by
  have h1 : (match K.lookup p with
    | some ⟨.type c, _, .seq its _, _⟩ => decide (c = "tuple") && (decide (its.size ≤ sizeLine) && relDs K fa ds its.toList)
    | _ => false) = true := h
  cases q : K.lookup p with
  | none => rw [q] at h1; cases h1
  | some o =>
    obtain ⟨oc, od, dt, osl⟩ := o
    rw [q] at h1
    cases oc with
    | type c =>
      cases dt with
      | seq its n =>
        obtain ⟨h2, h3⟩ := He.ba h1
        obtain ⟨h4, h5⟩ := He.ba h3
        exact ⟨c, od, its, n, osl, rfl, of_decide_eq_true h2, of_decide_eq_true h4, h5⟩
      | _ => cases h1
    | _ => cases dt <;> cases h1
mutual
theorem relD_ok {K : PySem.W.Frag} {fa : Nat → Option Addr} : ∀ (d : D) (u : Value), relD K fa d u = true → ∃ v, RelV v u ∧ ∀ (T : Tb), T.K = K → T.fa = fa → ∀ (μ : List Addr) (Lv : Addr → Prop) (H : Hp), R T μ Lv H d v
  | .non, u, h => by
    cases u with
    | none => exact ⟨.non, rfl, fun T _ _ μ Lv H => rfl⟩
    | _ => cases h
  | .bl b, u, h => by
    cases u with
    | bool c =>
      have e : b = c := eq_of_beq (show (b == c) = true from h)
      subst e
      exact ⟨.bl b, rfl, fun T _ _ μ Lv H => rfl⟩
    | _ => cases h
  | .int i, u, h => by
    cases u with
    | int j t =>
      have e : i = j := of_decide_eq_true h
      subst e
      exact ⟨.int i, ⟨t, rfl⟩, fun T _ _ μ Lv H => rfl⟩
    | _ => cases h
  | .str s, u, h => by
    cases u with
    | str y t =>
      have e : y = ⟨s.toArray⟩ := of_decide_eq_true h
      subst e
      exact ⟨.str ⟨s.toArray⟩, ⟨t, rfl⟩, fun T _ _ μ Lv H => rfl⟩
    | _ => cases h
  | .tup ds, u, h => by
    cases u with
    | ref p =>
      obtain ⟨oc, od, its, n, osl, lk, e1, e2, e3⟩ := relT h
      obtain ⟨vs, rv, r⟩ := relDs_ok ds its.toList e3
      refine ⟨.ref p, rfl, fun T eK eF μ Lv H => ⟨p, vs, rfl, .inr ⟨_, its, n, by rw [eK]; exact lk, congrArg Value.type e1, rfl, e2, rv⟩, r T eK eF μ Lv H⟩⟩
    | _ => cases h
  | .glo f, u, h => by
    cases u with
    | ref a =>
      have e : fa f = some a := of_decide_eq_true h
      exact ⟨.ref a, rfl, fun T _ eF μ Lv H => ⟨a, by rw [eF]; exact e, rfl⟩⟩
    | _ => cases h
  | .lst ds, u, h => by cases u <;> cases h
  | .ref n, u, h => by cases u <;> cases h
  | .clo k cs, u, h => by cases u <;> cases h
  | .exn c cs, u, h => by cases u <;> cases h
theorem relDs_ok {K : PySem.W.Frag} {fa : Nat → Option Addr} : ∀ (ds : List D) (us : List Value), relDs K fa ds us = true → ∃ vs, Vals vs us ∧ ∀ (T : Tb), T.K = K → T.fa = fa → ∀ (μ : List Addr) (Lv : Addr → Prop) (H : Hp), Rs T μ Lv H ds vs
  | [], us, h => by
    cases us with
    | nil => exact ⟨[], .nil, fun T _ _ μ Lv H => rfl⟩
    | cons u us => cases h
  | d :: ds, us, h => by
    cases us with
    | nil => cases h
    | cons u us =>
      obtain ⟨h1, h2⟩ := He.ba (show (relD K fa d u && relDs K fa ds us) = true from h)
      obtain ⟨v, r1, r2⟩ := relD_ok d u h1
      obtain ⟨vs, r3, r4⟩ := relDs_ok ds us h2
      exact ⟨v :: vs, .cons r1 r3, fun T eK eF μ Lv H => ⟨v, vs, rfl, r2 T eK eF μ Lv H, r4 T eK eF μ Lv H⟩⟩
end

/-! ### an own error -/
def excB (K : PySem.W.Frag) (C fI : Addr) : Bool :=
  PySem.W.excInitIn K C exT "Exception.__new__" && (PySem.W.excOver K C exT && (PySem.W.hasDictIn K C && (He.eqO (PySem.W.findIn K (.ref C) "__setattr__") (some (some (.builtin "object.__setattr__"))) &&
  (decide (PySem.W.subIn K (.ref C) (.type "BaseException") = some true) && (decide (PySem.W.subIn K (.ref C) (.type "Exception") = some true) && (decide (PySem.W.typeIn K (.ref C) = some (.type "type")) && (PySem.W.keepIn K (.ref C) &&
  (He.eqO (PySem.W.findIn K (.ref C) "__init__") (some (some (.ref fI))) && decide (PySem.W.typeIn K (.ref fI) = some (.type "function"))))))))))
theorem excB_ok {K : PySem.W.Frag} {C fI : Addr} (h : excB K C fI = true) : ExcC K C fI := by
  obtain ⟨h1, h⟩ := He.ba h
  obtain ⟨h2, h⟩ := He.ba h
  obtain ⟨h3, h⟩ := He.ba h
  obtain ⟨h4, h⟩ := He.ba h
  obtain ⟨h5, h⟩ := He.ba h
  obtain ⟨h6, h⟩ := He.ba h
  obtain ⟨h7, h⟩ := He.ba h
  obtain ⟨h8, h⟩ := He.ba h
  obtain ⟨h9, h10⟩ := He.ba h
  exact ⟨h1, h2, h3, He.eqO_ok h4, of_decide_eq_true h5, of_decide_eq_true h6, of_decide_eq_true h7, h8, He.eqO_ok h9, of_decide_eq_true h10⟩
def asgB : List Str → List Stmt → Bool
  | [], [] => true
  | f :: fs, .Assign [.Attribute (.Name s _) g _] (.Name k _) _ :: r => decide (s = "self") && (decide (g = f) && (decide (k = f) && asgB fs r))
  | _, _ => false
theorem asgB_ok : ∀ {fs : List Str} {r : List Stmt}, asgB fs r = true → AsgOk fs r
  | [], [], _ => .nil
  | [], _ :: _, h => by cases h
  | f :: fs, [], h => by cases h
  | f :: fs, st :: r, h => by
    unfold asgB at h
    split at h
    · rename_i e; cases e
    · rename_i e1 e2
      cases e1
      cases e2
      obtain ⟨h1, h⟩ := He.ba h
      obtain ⟨h2, h⟩ := He.ba h
      obtain ⟨h3, h4⟩ := He.ba h
      rw [of_decide_eq_true h1, of_decide_eq_true h2, of_decide_eq_true h3]
      exact .cons (asgB_ok h4)
    · cases h
def namesB (flds : List Str) : List Expr → Bool
  | [] => true
  | .Name f _ :: r => flds.contains f && namesB flds r
  | _ => false
theorem namesB_ok {flds : List Str} : ∀ {es : List Expr}, namesB flds es = true → NamesOk flds es
  | [], _ => .nil
  | e :: r, h => by
    cases e with
    | Name f p =>
      obtain ⟨h1, h2⟩ := He.ba (show (flds.contains f && namesB flds r) = true from h)
      exact .cons (by simpa using h1) (namesB_ok h2)
    | _ => cases h
def iniBody (flds : List Str) : List Stmt → Bool
  | .Expr (.Call (.Attribute (.Call (.Name s _) [] [] _) m apos) (e1 :: es) [] pos) _ :: rest =>
    decide (s = "super") && (decide (m = "__init__") && (namesB flds (e1 :: es) && (decide ((e1 :: es).length < 30) && (asgB flds rest && (apos.endLine == pos.line)))))
  | _ => false
theorem names_star {flds : List Str} {env : Env} {pos : Pos} : ∀ {es : List Expr}, NamesOk flds es → (backTo pos (starEach es env)).all (!·.1) = true := by
  intro es h
  induction h with
  | nil => rfl
  | cons hf h ih => first | exact ih | simp_all [starEach, backTo]
theorem iniBody_ok {flds : List Str} {body : List Stmt} (h : iniBody flds body = true) :
    ∃ p0 p1 apos e1 es pos pos' rest, body = .Expr (.Call (.Attribute (.Call (.Name "super" p0) [] [] p1) "__init__" apos) (e1 :: es) [] pos) pos' :: rest ∧ NamesOk flds (e1 :: es) ∧ (e1 :: es).length ≤ 800 ∧ AsgOk flds rest ∧
    ∀ env : Env, ∃ pl : Sem Bool, eval (.Call (.Attribute (.Call (.Name "super" p0) [] [] p1) "__init__" apos) (e1 :: es) [] pos) env = (do
      let ov ← attributeBase (.Call (.Name "super" p0) [] [] p1) "__init__" env (eval (.Call (.Name "super" p0) [] [] p1) env)
      standAt apos.atName
      let (f, first) ← holding [ov] (getMethod ov "__init__" pl)
      callWith pos f first (backTo pos (starEach (e1 :: es) env)) []) := by
  unfold iniBody at h
  split at h
  · rename_i s p0 p1 m apos e1 es pos pos' rest
    obtain ⟨h1, h⟩ := He.ba h
    obtain ⟨h2, h⟩ := He.ba h
    obtain ⟨h3, h⟩ := He.ba h
    obtain ⟨h4, h⟩ := He.ba h
    obtain ⟨h5, h6⟩ := He.ba h
    rw [of_decide_eq_true h1, of_decide_eq_true h2]
    have hn := namesB_ok h3
    have hl := of_decide_eq_true h4
    refine ⟨p0, p1, apos, e1, es, pos, pos', rest, rfl, hn, by omega, asgB_ok h5, fun env => ⟨plainOf (.Call (.Name "super" p0) [] [] p1) env, ?_⟩⟩
    show (do
      let ov ← attributeBase (.Call (.Name "super" p0) [] [] p1) "__init__" env (eval (.Call (.Name "super" p0) [] [] p1) env)
      standAt apos.atName
      methodCall (.Call (.Name "super" p0) [] [] p1) "__init__" apos pos env ov ((e1 :: es).length + 0) (backTo pos (starEach (e1 :: es) env)) (backToKw pos (keywordEach [] env))) = _
    refine congrArg _ (funext fun ov => congrArg _ (funext fun _ => ?_))
    refine mcall_line ?_ h6
    have e0 : backToKw pos (keywordEach [] env) = [] := rfl
    rw [e0]
    unfold methodCallForm
    rw [names_star hn]
    simpa using hl
  · cases h
end Mi
set_option linter.all false
set_option maxRecDepth 100000
set_option maxHeartbeats 4000000
/-! Mi: an own error's __init__, told by a Bool. -/
namespace Mi
open PySem L2 PySem.Spec PyProof.Rows

def noneV : Value → Bool
  | .none => true
  | _ => false
theorem noneV_ok {v : Value} (h : noneV v = true) : v = .none := by
  cases v with
  | none => rfl
  | _ => cases h
def iniFd (K : PySem.W.Frag) (file : Str) (C : Addr) (flds : List Str) (fd : FuncData) (cc cda : Addr) (body : List Stmt) : Bool :=
  decide (fd.globals = mainGlobals) && (decide (fd.builtins = builtinsNs) && (PySem.W.codeIn K (.ref cda) fd.qualname &&
  ((match K.lookup cda with
    | some ⟨_, _, .fields vs, _⟩ => (match (vs[2]? : Option Value) with
      | some (.str f _) => file == f
      | _ => false)
    | _ => false) &&
  ((match K.lookup cc with
    | some ⟨_, _, .cell (some (.ref C')), _⟩ => decide (C' = C)
    | _ => false) &&
  (NdefX.nscB (iniN flds) (sSelf :: flds) [sCls] fd.scope && (decide (fd.scope.names.lookup ("super" : Str) = some .globalImplicit) &&
  (plainArgs fd.params && (decide (argNames fd.params.args = sSelf :: flds) && (noneV fd.defaults && (decide (sSelf :: flds).Nodup &&
  (He.eqO (PySem.W.ks_superIn K C C "__init__") (some (some (.builtin "Exception.__init__"))) && (He.eqO (PySem.W.nsIn K cStatics "thirdparty.any") (some none) &&
  (decide (PySem.W.mroIn K C (.ref C) = some true) && ((PySem.W.clsIn K C).isSome && (flds.all (fun f => He.eqO (PySem.W.findIn K (.ref C) f) (some none)) && (decide (flds.length ≤ 800) &&
  (flds.all (fun f => !(f == ("__debug__" : Str)) && !(f == ("__classdict__" : Str))) && iniBody flds body)))))))))))))))))
def iniB (K : PySem.W.Frag) (file : Str) (C fI : Addr) (flds : List Str) : Bool := match K.lookup fI with
  | some ⟨_, _, .func fd, _⟩ => (match fd.closure, fd.code, fd.body with
    | [(x, cc)], .ref cda, .stmts body => decide (x = "__class__") && iniFd K file C flds fd cc cda body
    | _, _, _ => false)
  | _ => false
theorem iniB_ok {K : PySem.W.Frag} {Pm : Program} {mg : Str → Option Value} {C fI : Addr} {flds : List Str} (h : iniB K Pm.main.file C fI flds = true) (sup : mg "super" = none) (top : (Pm.main.scope.names.lookup ("super" : Str)).isSome = false) :
    ∃ d, IniOk Pm K mg C fI flds d := by
  unfold iniB at h
  split at h
  · rename_i oc od fd osl lk
    split at h
    · rename_i x cc cda body e1 e2 e3
      obtain ⟨n1, n2, n3, n4, n5, n6, n7, n8, n9, n10, n11, n12, n13, n14, n15⟩ := fd
      dsimp only at e1 e2 e3
      subst e1 e2 e3
      obtain ⟨h1, h⟩ := He.ba h
      unfold iniFd at h
      dsimp only at h
      obtain ⟨h2, h⟩ := He.ba h
      obtain ⟨h3, h⟩ := He.ba h
      obtain ⟨h4, h⟩ := He.ba h
      obtain ⟨h5, h⟩ := He.ba h
      obtain ⟨h6, h⟩ := He.ba h
      obtain ⟨h7, h⟩ := He.ba h
      obtain ⟨h8, h⟩ := He.ba h
      obtain ⟨h9, h⟩ := He.ba h
      obtain ⟨h10, h⟩ := He.ba h
      obtain ⟨h11, h⟩ := He.ba h
      obtain ⟨h12, h⟩ := He.ba h
      obtain ⟨h13, h⟩ := He.ba h
      obtain ⟨h14, h⟩ := He.ba h
      obtain ⟨h15, h⟩ := He.ba h
      obtain ⟨h16, h⟩ := He.ba h
      obtain ⟨h17, h⟩ := He.ba h
      obtain ⟨h18, h⟩ := He.ba h
      obtain ⟨h19, h20⟩ := He.ba h
      have g1 : x = "__class__" := of_decide_eq_true h1
      have g2 : n6 = mainGlobals := of_decide_eq_true h2
      have g3 : n15 = builtinsNs := of_decide_eq_true h3
      subst g1 g2 g3
      split at h5
      · rename_i ccl cdd vs ccs lkc
        split at h5
        · rename_i f tf hvs
          split at h6
          · rename_i cl cld C' csl lkl
            have g4 : C' = C := of_decide_eq_true h6
            subst g4
            have g9 := of_decide_eq_true h10
            have hN := NdefX.nscope_by h7
            have nd2 : (sSelf :: flds).Nodup := of_decide_eq_true h12
            obtain ⟨p1, p2, p3, p4, p5, p6, p7⟩ := n3
            dsimp only at *
            cases p2 with
            | nil => cases g9
            | cons ar rest =>
              have harn : ar.arg = sSelf := by
                have := congrArg List.head? g9
                simpa [argNames] using this
              have P := plainA_of h9
              have P1 : p1 = [] := P.h1
              refine ⟨⟨n1, n2, ⟨p1, ar :: rest, p3, p4, p5, p6, p7⟩, body, n5, n8, n9, n10, n11, n14, oc, cda, cc, n12, od, osl, ar, vs, f, tf, ccl, cdd, ccs, cl, cld, csl⟩, ?_⟩
              exact
              { lk := lk
                cod := h4
                lkc := lkc
                hvs := hvs
                hfile := h5
                cell := lkl
                sup := sup
                top := top
                sc := hN
                kss := of_decide_eq_true h8
                hp := by show (p1 ++ ar :: rest).head? = some ar; rw [P1]; rfl
                har := harn
                bind := fun us hl => by
                  have := bind_pos (fd := PySem.W.ksFn n1 n2 ⟨p1, ar :: rest, p3, p4, p5, p6, p7⟩ body n5 n8 n9 n10 n11 n12 (.ref cda) n14 cc) h9 (noneV_ok h11) (by show (argNames (ar :: rest)).Nodup; rw [g9]; exact nd2) (us := us) (by
                    show us.length = (argNames (ar :: rest)).length
                    rw [g9, hl]
                    rfl)
                  refine this.trans ?_
                  show pure ((argNames (ar :: rest)).zip us) = _
                  rw [g9]
                sub := He.eqO_ok h13
                opq := He.eqO_ok h14
                subC := of_decide_eq_true h15
                cls := by
                  cases q : PySem.W.clsIn K C' with
                  | none => rw [q] at h16; cases h16
                  | some cd => exact ⟨cd, rfl⟩
                noA := fun f hf => He.eqO_ok (List.all_eq_true.mp h17 f hf)
                nd := (List.nodup_cons.mp nd2).2
                few := of_decide_eq_true h18
                names := fun f hf => by
                  have z := List.all_eq_true.mp h19 f hf
                  simpa using z
                body := iniBody_ok h20 }
          · cases h6
        · cases h5
      · cases h5
    · cases h
  · cases h
end Mi
set_option linter.all false
set_option maxRecDepth 100000
set_option maxHeartbeats 4000000
/-! Mi: a module: what is asked of its text, what of the heap; the law's call. -/
namespace Mi
open PySem L2 PySem.Spec PyProof.Rows

structure Df where
  name : Str
  st : Stmt
  N : List Str
  ps : List Str
  lam : Bool
  ms : MS
structure Md where
  pm : Program
  dfs : List Df
  cls : List (Str × List Str)
  gcs : List (Str × D)
  bs : List Str
  gcd : Bool
  las : List La
def ixS (x : Str) : List Str → Option Nat
  | [] => none
  | y :: r => if (x == y) = true then some 0 else (ixS x r).map (· + 1)
theorem ixS_get {x : Str} : ∀ {l : List Str} {k : Nat}, ixS x l = some k → l[k]? = some x
  | [], k, h => by cases h
  | y :: r, k, h => by
    unfold ixS at h
    split at h
    · rename_i e
      cases h
      rw [eq_of_beq e]
      rfl
    · cases q : ixS x r with
      | none => rw [q] at h; cases h
      | some j =>
        rw [q] at h
        cases h
        exact ixS_get (l := r) q
variable (M : Md)
def Md.nt : NT := { g := fun x => ixS x (M.gcs.map (·.1)), f := fun x => ixS x (M.dfs.map (·.name)), c := fun x => ixS x (M.cls.map (·.1)), b := fun x => M.bs.contains x, gcd := M.gcd, cf := fun i => (M.cls[i]?.map (·.2)).getD [], fp := fun i => (M.dfs[i]?.map (·.ps)).getD [] }
def Md.prg : Prg := { gc := M.gcs.map (·.2), cls := M.cls.map (·.2.length), fns := M.dfs.map fun d => ⟨d.ps.length, d.N.length, d.ms⟩, las := M.las }
def Md.ck (d : Df) : Ck := ckB M.nt (fnSC d.N (defScope d.st) d.name d.lam) d.ms (defBody d.st)
def Md.laT : List (Nat × LaC) := M.dfs.flatMap fun d => (M.ck d).getD []
def laNo : LaC := ⟨"", ⟨[], [], none, [], [], none, []⟩, .Name "" ⟨0, 0, 0, 0⟩, ⟨.function, [], false, false, []⟩, [], []⟩
def Md.la (k : Nat) : LaC := (M.laT.lookup k).getD laNo
def fnsB (N P : List Str) (sc : Scope) : Bool :=
  decide (sc.kind = .function) && (!sc.isCoroutine && (!sc.isGenerator && (decide N.Nodup && (decide (N.take P.length = P) && (P.all (fun x => decide (sc.names.lookup x = some .local ∨ sc.names.lookup x = some .cell)) && sc.names.all (fun y => !decide (y.2 = .free)))))))
theorem fnsB_ok {N P : List Str} {sc : Scope} (h : fnsB N P sc = true) : FnScope N P sc := by
  unfold fnsB at h
  simp only [Bool.and_eq_true, Bool.not_eq_true', decide_eq_true_eq, List.all_eq_true, decide_eq_false_iff_not] at h
  obtain ⟨h1, h2, h3, h4, h5, h6, h7⟩ := h
  exact ⟨h1, h2, h3, h4, h5, h6, h7⟩
def Md.dfB (d : Df) : Bool := fnsB d.N d.ps (defScope d.st) && (plainArgs (defArgs d.st) && (decide (argNames (defArgs d.st).args = d.ps) && (decide d.ps.Nodup && (M.ck d).isSome)))
def ckNil : Ck → Bool
  | some [] => true
  | _ => false
def Md.laB (k : Nat) (L : La) : Bool := L.dfl.isEmpty && (decide (L.np = (M.la k).ps.length) && (NdefX.nscB ((M.la k).ps ++ (M.la k).fr) (M.la k).ps (M.la k).fr (M.la k).scope && (plainArgs (M.la k).params && (decide (argNames (M.la k).params.args = (M.la k).ps) && (decide (M.la k).ps.Nodup && ckNil (ckE M.nt (lamSC (M.la k)) L.body (M.la k).body))))))
/-- what is asked of the text -/
structure Md.Ok : Prop where
  df : ∀ d ∈ M.dfs, M.dfB d = true
  keys : (M.laT.map (·.1)).Nodup
  la : ∀ k L, M.las[k]? = some L → M.laB k L = true
  top : (M.pm.main.scope.names.lookup ("super" : Str)).isSome = false
  cf : ∀ c ∈ M.cls, c.2 ≠ [] ∧ c.2.Nodup
/-! ### the heap -/
def Md.faT (K : PySem.W.Frag) (i : Nat) : Option Addr := M.dfs[i]?.map fun d => He.ga K d.name
def Md.defn (d : Df) : He.Defn := (d.name, none)
def noFd : FuncData := { name := "", qualname := "", params := ⟨[], [], none, [], [], none, []⟩, body := .stmts [], scope := ⟨.function, [], false, false, []⟩, globals := 0, closure := [], defaults := .none, kwdefaults := .none }
def fdAt (K : PySem.W.Frag) (a : Addr) : FuncData := match K.lookup a with
  | some ⟨_, _, .func fd, _⟩ => fd
  | _ => noFd
def Md.tbs (K : PySem.W.Frag) : List (Addr × Str) := (M.dfs.filter (·.lam)).map fun d => ((He.cT K (d.name, none)).2, d.name ++ ".<locals>." ++ "<lambda>")
def Md.T (K : PySem.W.Frag) : Tb := { K := K, fa := M.faT K, ca := fun i => M.cls[i]?.map fun c => He.ga K c.1, at_ := fun _ => "", cf := M.nt.cf, la := M.la, fd := fun i => fdAt K (((M.faT K) i).getD 0), fp := M.nt.fp, tb := M.tbs K }
def kits : List String := ["NoneType", "bool", "int", "str", "tuple", "list"]
def clsB (K : PySem.W.Frag) (file : Str) (c : Str × List Str) : Bool :=
  excB K (He.ga K c.1) (He.ma K (He.ga K c.1) "__init__") && (iniB K file (He.ga K c.1) (He.ma K (He.ga K c.1) "__init__") c.2 && (xfB K (He.ga K c.1) && (c.2.all (fun f => He.eqO (PySem.W.findIn K (.ref (He.ga K c.1)) f) (some none)) &&
  kits.all fun s => decide (PySem.W.kitOne K (.type s) (.ref (He.ga K c.1)) = some false))))
def Md.hexB (K : PySem.W.Frag) : Bool := (List.range M.cls.length).all fun i => (List.range M.cls.length).all fun j => match M.cls[i]?, M.cls[j]? with
  | some c, some c' => decide (PySem.W.exmOne K (.ref (He.ga K c.1)) (.ref (He.ga K c'.1)) = some (decide (i = j)))
  | _, _ => true
def Md.gcB (K : PySem.W.Frag) (g : Str × D) : Bool := match PySem.W.nsIn K mainGlobals g.1 with
  | some (some u) => relD K (M.faT K) g.2 u
  | _ => false
def Md.ex (K : PySem.W.Frag) : Bool :=
  (!M.gcd || He.eqO (PySem.W.nsIn K mainGlobals "gcd") (some (some (.builtin "math.gcd")))) && (M.gcs.all (M.gcB K) && (M.cls.all (clsB K M.pm.main.file) && (M.hexB K && decide ((M.tbs K).map (·.1)).Nodup)))
def Md.fas : List He.Fa := M.dfs.map (fun d => .glo d.name) ++ (M.cls.map (fun c => .glo c.1) ++ (M.bs.map .free ++ [.free "super"]))
def Md.fns : List He.DefD := M.dfs.map fun d => ⟨(d.name, none), d.name, d.name, defArgs d.st, defBody d.st, defScope d.st, [], []⟩
def Md.tf : List He.Defn := (M.dfs.filter (·.lam)).map fun d => (d.name, none)
section
variable {M : Md} {K : PySem.W.Frag} {mg : Str → Option Value} {w : World} {h base : Heap}
theorem Md.Ok.laT (ok : M.Ok) {k : Nat} {L : LaC} (hm : (k, L) ∈ M.laT) : M.la k = L := by
  have key : ∀ (l : List (Nat × LaC)), (l.map (·.1)).Nodup → (k, L) ∈ l → l.lookup k = some L := by
    intro l
    induction l with
    | nil => intro _ h; cases h
    | cons p r ih =>
      intro nd hm
      obtain ⟨j, Lj⟩ := p
      rw [List.map_cons, List.nodup_cons] at nd
      rcases List.mem_cons.mp hm with e | e
      · cases e
        simp [List.lookup]
      · have ne : (k == j) = false := by
          rw [beq_eq_false_iff_ne]
          rintro rfl
          exact nd.1 (List.mem_map.mpr ⟨_, e, rfl⟩)
        show (match k == j with | true => some Lj | false => r.lookup k) = some L
        rw [ne]
        exact ih nd.2 e
  unfold Md.la
  rw [key _ ok.keys hm]
  rfl
theorem Md.Ok.yes (ok : M.Ok) {d : Df} (hd : d ∈ M.dfs) : Yes (M.T K) (M.ck d) := by
  obtain ⟨_, h⟩ := He.ba (ok.df d hd)
  obtain ⟨_, h⟩ := He.ba h
  obtain ⟨_, h⟩ := He.ba h
  obtain ⟨_, h⟩ := He.ba h
  cases q : M.ck d with
  | none => rw [q] at h; cases h
  | some l => exact ⟨l, rfl, fun p hp => ok.laT (List.mem_flatMap.mpr ⟨d, hd, by rw [q]; exact hp⟩)⟩
theorem mem_fas_d {d : Df} (hd : d ∈ M.dfs) : He.Fa.glo d.name ∈ M.fas := List.mem_append_left _ (List.mem_map.mpr ⟨d, hd, rfl⟩)
theorem mem_fas_c {c : Str × List Str} (hd : c ∈ M.cls) : He.Fa.glo c.1 ∈ M.fas := List.mem_append_right _ (List.mem_append_left _ (List.mem_map.mpr ⟨c, hd, rfl⟩))
theorem mem_fas_b {b : Str} (hd : b ∈ M.bs) : He.Fa.free b ∈ M.fas := List.mem_append_right _ (List.mem_append_right _ (List.mem_append_left _ (List.mem_map.mpr ⟨b, hd, rfl⟩)))
theorem mem_fas_s : He.Fa.free "super" ∈ M.fas := List.mem_append_right _ (List.mem_append_right _ (List.mem_append_right _ List.mem_cons_self))
/-- a def stands there -/
theorem def_at (c : He.SaysX M.fas M.fns [] M.tf M.ex w h K) {d : Df} (hd : d ∈ M.dfs) : ∃ fd, FunD K d.name d.name (defArgs d.st) (defBody d.st) (defScope d.st) [] [] (He.ga K d.name) fd := by
  have := He.SaysD.defs c.t.d (d := ⟨(d.name, none), d.name, d.name, defArgs d.st, defBody d.st, defScope d.st, [], []⟩) (List.mem_map.mpr ⟨d, hd, rfl⟩)
  exact this
theorem fdAt_eq {K : PySem.W.Frag} {a : Addr} {oc : Value} {od : Option Addr} {fd : FuncData} {osl : Array (Option Value)} (lk : K.lookup a = some ⟨oc, od, .func fd, osl⟩) : fdAt K a = fd := by
  unfold fdAt
  rw [lk]
/-- .. and is bound -/
theorem bind_at (ok : M.Ok) (c : He.SaysX M.fas M.fns [] M.tf M.ex w h K) {i : Nat} {d : Df} (hd : M.dfs[i]? = some d) :
    (M.T K).fp i = d.ps ∧ (∀ us : List Value, us.length = d.ps.length → bindArgs ((M.T K).fd i) ⟨us, []⟩ = pure (d.ps.zip us)) ∧ (∀ us : List Value, us.length = d.ps.length → bindArgs ((M.T K).fd i) ⟨[], d.ps.zip us⟩ = pure (d.ps.zip us)) := by
  have hm := List.mem_of_getElem? hd
  obtain ⟨fd, F⟩ := def_at c hm
  obtain ⟨oc, od, dV, kV, doc, pm, an, cdv, ct, osl, rfl, lk, hcd, hdf, _⟩ := F.ex
  obtain ⟨_, hb⟩ := He.ba (ok.df d hm)
  obtain ⟨h1, hb⟩ := He.ba hb
  obtain ⟨h2, hb⟩ := He.ba hb
  obtain ⟨h3, _⟩ := He.ba hb
  have e2 : argNames (defArgs d.st).args = d.ps := of_decide_eq_true h2
  have e3 : d.ps.Nodup := of_decide_eq_true h3
  have dn : dV = .none := by
    rcases hdf with ⟨_, z⟩ | ⟨z, _⟩
    · first | exact z | exact ‹dV = .none› | (rename_i z2; exact z2)
    · exact (z rfl).elim
  have e : (M.T K).fd i = PySem.W.fnOf d.name d.name (defArgs d.st) (defBody d.st) (defScope d.st) dV kV doc pm an cdv ct := by
    have : (M.T K).fd i = fdAt K (((M.faT K) i).getD 0) := rfl
    rw [this]
    unfold Md.faT
    rw [hd]
    exact fdAt_eq lk
  refine ⟨?_, fun us hl => ?_, fun us hl => ?_⟩
  · show (M.dfs[i]?.map (·.ps)).getD [] = d.ps
    rw [hd]
    rfl
  · rw [e]
    have := bind_pos (fd := PySem.W.fnOf d.name d.name (defArgs d.st) (defBody d.st) (defScope d.st) dV kV doc pm an cdv ct) h1 dn (by rw [e2]; exact e3) (us := us) (by rw [e2]; exact hl)
    rw [this, e2]
  · rw [e]
    have := bind_kw (fd := PySem.W.fnOf d.name d.name (defArgs d.st) (defBody d.st) (defScope d.st) dV kV doc pm an cdv ct) h1 dn (by rw [e2]; exact e3) (us := us) (by rw [e2]; exact hl)
    rw [← e2]
    exact this
theorem glo_of (ok : M.Ok) (KX : K.In h) (G : h.Ns mainGlobals mg) (c : He.SaysX M.fas M.fns [] M.tf M.ex w h K) : Glo (M.T K) M.pm K mg M.prg M.nt := by
  have fact : ∀ {f : He.Fa}, f ∈ M.fas → f.ok K = true := fun hf => He.SaysD.facts c.t.d hf
  obtain ⟨x1, x⟩ := He.ba c.more
  obtain ⟨x2, x⟩ := He.ba x
  obtain ⟨x3, x⟩ := He.ba x
  obtain ⟨x4, x5⟩ := He.ba x
  have hex : ∀ (i j : Nat) (ci cj : Str × List Str), M.cls[i]? = some ci → M.cls[j]? = some cj → PySem.W.exmOne K (.ref (He.ga K ci.1)) (.ref (He.ga K cj.1)) = some (decide (i = j)) := fun i j ci cj e1 e2 => by
    have li : i < M.cls.length := (List.getElem?_eq_some_iff.mp e1).1
    have lj : j < M.cls.length := (List.getElem?_eq_some_iff.mp e2).1
    have z := List.all_eq_true.mp (List.all_eq_true.mp x4 i (List.mem_range.mpr li)) j (List.mem_range.mpr lj)
    simp only [e1, e2] at z
    exact of_decide_eq_true z
  have cl_ : ∀ (x : Str) (k : Nat), M.nt.c x = some k → ∃ cc, M.cls[k]? = some cc ∧ cc.1 = x ∧ mg x = some (.ref (He.ga K cc.1)) ∧ clsB K M.pm.main.file cc = true := fun x k e => by
    have e2 := ixS_get (show ixS x (M.cls.map (·.1)) = some k from e)
    rw [List.getElem?_map] at e2
    cases q : M.cls[k]? with
    | none => rw [q] at e2; cases e2
    | some cc =>
      rw [q] at e2
      have e3 : cc.1 = x := Option.some.inj e2
      have hm := List.mem_of_getElem? q
      exact ⟨cc, rfl, e3, by rw [← e3]; exact He.glo_ok KX G (fact (mem_fas_c hm)), List.all_eq_true.mp x3 cc hm⟩
  exact
  { eK := rfl
    g := fun x k e => by
      have e2 := ixS_get (show ixS x (M.gcs.map (·.1)) = some k from e)
      rw [List.getElem?_map] at e2
      cases q : M.gcs[k]? with
      | none => rw [q] at e2; cases e2
      | some gc =>
        rw [q] at e2
        have e3 : gc.1 = x := Option.some.inj e2
        subst e3
        have z := List.all_eq_true.mp x2 gc (List.mem_of_getElem? q)
        unfold Md.gcB at z
        cases n : PySem.W.nsIn K mainGlobals gc.1 with
        | none => rw [n] at z; cases z
        | some o =>
          rw [n] at z
          cases o with
          | none => cases z
          | some u =>
            obtain ⟨v, r1, r2⟩ := relD_ok gc.2 u z
            refine ⟨u, v, PySem.W.mg_of KX G n, r1, fun hi μ Lv H => ?_⟩
            have e4 : M.prg.gc.getD k .non = gc.2 := by
              show (M.gcs.map (·.2)).getD k .non = gc.2
              rw [List.getD_eq_getElem?_getD, List.getElem?_map, q]
              rfl
            rw [e4]
            exact r2 _ rfl rfl μ Lv H
    b := fun x e => He.free_ok KX G (fact (mem_fas_b (by simpa using (show M.bs.contains x = true from e))))
    gcd := fun e => by
      have e2 : M.gcd = true := e
      rw [e2] at x1
      exact PySem.W.mg_of KX G (He.eqO_ok x1)
    cls := fun x k e => by
      obtain ⟨cc, q, e3, m, z⟩ := cl_ x k e
      obtain ⟨_, z⟩ := He.ba z
      obtain ⟨_, z⟩ := He.ba z
      obtain ⟨_, z⟩ := He.ba z
      obtain ⟨_, z⟩ := He.ba z
      refine ⟨He.ga K cc.1, ?_, m, fun s hs => of_decide_eq_true (List.all_eq_true.mp z s hs)⟩
      show M.cls[k]?.map _ = _
      rw [q]
      rfl
    f := fun x fi e => by
      have e2 := ixS_get (show ixS x (M.dfs.map (·.name)) = some fi from e)
      rw [List.getElem?_map] at e2
      cases q : M.dfs[fi]? with
      | none => rw [q] at e2; cases e2
      | some d =>
        rw [q] at e2
        have e3 : d.name = x := Option.some.inj e2
        subst e3
        obtain ⟨b1, b2, b3⟩ := bind_at ok c q
        refine ⟨rfl, ⟨He.ga K d.name, ?_, He.glo_ok KX G (fact (mem_fas_d (List.mem_of_getElem? q)))⟩, fun us hl => ?_⟩
        · show M.dfs[fi]?.map _ = _
          rw [q]
          rfl
        · rw [b1] at hl ⊢
          exact b3 us hl
    hand := fun fi a e => by
      have e1 : M.dfs[fi]?.map (fun d => He.ga K d.name) = some a := e
      cases q : M.dfs[fi]? with
      | none => rw [q] at e1; cases e1
      | some d =>
        rw [q] at e1
        have e3 : He.ga K d.name = a := Option.some.inj e1
        obtain ⟨b1, b2, b3⟩ := bind_at ok c q
        obtain ⟨fd, F⟩ := def_at c (List.mem_of_getElem? q)
        refine ⟨by rw [← e3]; exact F.kp, fun us hl => ?_, fun F hF => ?_⟩
        · rw [b1] at hl ⊢
          exact b2 us hl
        · rw [b1]
          have hF2 : (M.dfs.map fun d => (⟨d.ps.length, d.N.length, d.ms⟩ : Fn))[fi]? = some F := hF
          rw [List.getElem?_map, q] at hF2
          rw [← Option.some.inj hF2]
    hex := fun i j C C' e1 e2 => by
      have e1 : M.cls[i]?.map (fun c => He.ga K c.1) = some C := e1
      have e2 : M.cls[j]?.map (fun c => He.ga K c.1) = some C' := e2
      cases q1 : M.cls[i]? with
      | none => rw [q1] at e1; cases e1
      | some ci =>
        cases q2 : M.cls[j]? with
        | none => rw [q2] at e2; cases e2
        | some cj =>
          rw [q1] at e1
          rw [q2] at e2
          rw [← Option.some.inj e1, ← Option.some.inj e2]
          exact hex i j ci cj q1 q2
    xcl := fun x k e => by
      obtain ⟨cc, q, e3, m, z⟩ := cl_ x k e
      obtain ⟨z1, z⟩ := He.ba z
      obtain ⟨z2, z⟩ := He.ba z
      obtain ⟨z3, z⟩ := He.ba z
      obtain ⟨z4, z5⟩ := He.ba z
      obtain ⟨d, D⟩ := iniB_ok (Pm := M.pm) (mg := mg) z2 (He.free_ok KX G (fact mem_fas_s)) ok.top
      have ecf : (M.T K).cf k = cc.2 := by
        show (M.cls[k]?.map (·.2)).getD [] = _
        rw [q]
        rfl
      obtain ⟨c1, c2⟩ := ok.cf cc (List.mem_of_getElem? q)
      refine ⟨He.ga K cc.1, _, d, ?_, m, excB_ok z1, by rw [ecf]; exact D, by rw [ecf]; exact c1, rfl, by rw [ecf]; exact c2, xfB_ok z3, fun f hf => ?_⟩
      · show M.cls[k]?.map _ = _
        rw [q]
        rfl
      · rw [ecf] at hf
        exact He.eqO_ok (List.all_eq_true.mp z4 f hf)
    cl := fun k m e => by
      have e1 : (M.cls.map (·.2.length))[k]? = some m := e
      show m = ((M.cls[k]?.map (·.2)).getD []).length
      rw [List.getElem?_map] at e1
      cases q : M.cls[k]? with
      | none => rw [q] at e1; cases e1
      | some cc =>
        rw [q] at e1
        rw [← Option.some.inj e1]
        rfl }
end
end Mi
set_option linter.all false
set_option maxRecDepth 100000
set_option maxHeartbeats 4000000
/-! Mi: the law's call. -/
namespace Mi
open PySem L2 PySem.Spec PyProof.Rows

section
variable {M : Md} {K : PySem.W.Frag} {mg : Str → Option Value} {w : World} {h base : Heap}
theorem cT_ref {d : Df} (c : He.SaysX M.fas M.fns [] M.tf M.ex w h K) (hd : d ∈ M.dfs) {oc od dV kV doc pm an cdv ct osl} (lk : K.lookup (He.ga K d.name) = some ⟨oc, od, .func (PySem.W.fnOf d.name d.name (defArgs d.st) (defBody d.st) (defScope d.st) dV kV doc pm an cdv ct), osl⟩) (hcd : PySem.W.codeIn K cdv d.name = true) :
    cdv = .ref (He.cT K (d.name, none)).1 := by
  obtain ⟨cc, rfl⟩ := He.codeIn_ref hcd
  have : He.codeOf K (d.name, none) = cc := He.codeOf_eq (p := (d.name, none)) lk rfl
  show Value.ref cc = Value.ref (He.codeOf K (d.name, none))
  rw [this]
theorem fn_all (ok : M.Ok) (KX : K.In h) (G : h.Ns mainGlobals mg) (c : He.SaysX M.fas M.fns [] M.tf M.ex w h K) (TB : ∀ p ∈ M.tf.map (He.cT K), LamX.TabB base mg p.1 p.2) :
    ∀ fi F, M.prg.fns[fi]? = some F → FnB (M.T K) M.pm w K mg base M.prg fi F := by
  intro fi F hF
  have g := glo_of ok KX G c
  have hF2 : (M.dfs.map fun d => (⟨d.ps.length, d.N.length, d.ms⟩ : Fn))[fi]? = some F := hF
  rw [List.getElem?_map] at hF2
  cases q : M.dfs[fi]? with
  | none => rw [q] at hF2; cases hF2
  | some d =>
    rw [q] at hF2
    obtain rfl := Option.some.inj hF2
    have hm := List.mem_of_getElem? q
    obtain ⟨fd, Fd⟩ := def_at c hm
    obtain ⟨oc, od, dV, kV, doc, pm, an, cdv, ct, osl, rfl, lk, hcd, hdf, _⟩ := Fd.ex
    obtain ⟨b1, b2, b3⟩ := bind_at ok c q
    obtain ⟨f1, _⟩ := He.ba (ok.df d hm)
    refine fnB_of (a := He.ga K d.name) (N := d.N) (lam := d.lam) g ?_ lk ?_ hcd (by rw [b1]; exact fnsB_ok f1) (by rw [b1]) rfl (fun hl => ?_) (ok.yes hm)
    · show M.dfs[fi]?.map _ = _
      rw [q]
      rfl
    · show fdAt K (((M.faT K) fi).getD 0) = _
      unfold Md.faT
      rw [q]
      exact fdAt_eq lk
    · have hmem : d ∈ M.dfs.filter (·.lam) := List.mem_filter.mpr ⟨hm, hl⟩
      have htf : (d.name, none) ∈ M.tf := List.mem_map.mpr ⟨d, hmem, rfl⟩
      obtain ⟨_, x⟩ := He.ba c.more
      obtain ⟨_, x⟩ := He.ba x
      obtain ⟨_, x⟩ := He.ba x
      obtain ⟨_, x5⟩ := He.ba x
      have nd : ((M.tbs K).map (·.1)).Nodup := of_decide_eq_true x5
      have hin : ((He.cT K (d.name, none)).2, d.name ++ ".<locals>." ++ "<lambda>") ∈ M.tbs K := List.mem_map.mpr ⟨d, hmem, rfl⟩
      refine ⟨(He.cT K (d.name, none)).1, (He.cT K (d.name, none)).2, TB _ (List.mem_map.mpr ⟨_, htf, rfl⟩), cT_ref c hm lk hcd, hin, fun p hp e => ?_⟩
      have key : ∀ (l : List (Addr × Str)), (l.map (·.1)).Nodup → ∀ p ∈ l, ∀ q ∈ l, p.1 = q.1 → p = q := by
        intro l
        induction l with
        | nil => intro _ p hp; cases hp
        | cons x r ih =>
          intro nd p hp q hq e
          rw [List.map_cons, List.nodup_cons] at nd
          rcases List.mem_cons.mp hp with e1 | e1
          · rcases List.mem_cons.mp hq with e2 | e2
            · rw [e1, e2]
            · exact absurd (List.mem_map.mpr ⟨q, e2, by rw [← e, e1]⟩) nd.1
          · rcases List.mem_cons.mp hq with e2 | e2
            · exact absurd (List.mem_map.mpr ⟨p, e1, by rw [e, e2]⟩) nd.1
            · exact ih nd.2 p e1 q e2 e
      rw [key _ nd p hp _ hin e]
theorem la_all (ok : M.Ok) (KX : K.In h) (G : h.Ns mainGlobals mg) (c : He.SaysX M.fas M.fns [] M.tf M.ex w h K) : ∀ k L, M.prg.las[k]? = some L → LamB (M.T K) M.pm w K mg base M.prg k L := by
  intro k L hL
  have g := glo_of ok KX G c
  obtain ⟨h1, x⟩ := He.ba (ok.la k L hL)
  obtain ⟨h2, x⟩ := He.ba x
  obtain ⟨h3, x⟩ := He.ba x
  obtain ⟨h4, x⟩ := He.ba x
  obtain ⟨h5, x⟩ := He.ba x
  obtain ⟨h6, h7⟩ := He.ba x
  have e5 : argNames (M.la k).params.args = (M.la k).ps := of_decide_eq_true h5
  have e6 : (M.la k).ps.Nodup := of_decide_eq_true h6
  refine lamB_of g (by simpa using h1) (of_decide_eq_true h2) h3 (fun cl pm cv ctv us hl => ?_) ?_
  · have := bind_pos (fd := PySem.W.kla_fn "<lambda>" (M.la k).q (M.la k).params (M.la k).body (M.la k).scope cl pm cv ctv) h4 rfl (by rw [e5]; exact e6) (us := us) (by rw [e5]; exact hl)
    refine Eq.trans this ?_
    show pure ((argNames (M.la k).params.args).zip us) = pure ((M.la k).ps.zip us)
    rw [e5]
  · show Yes (M.T K) (ckE M.nt (lamSC (M.la k)) L.body (M.la k).body)
    unfold ckNil at h7
    split at h7
    · rename_i q
      exact ⟨[], q, fun p hp => by cases hp⟩
    · cases h7
/-- the law's promise -/
def lawSp (M : Md) (K : PySem.W.Frag) : Sp := fun vs H Q _ => ∃ (a : Addr) (ns : List Int), vs = [.ref a] ∧ SqL K H a (ns.map V.int) ∧ LamX.Tabs (M.tbs K) H ∧ ns.length ≤ 63 ∧ (∀ z ∈ ns, Builtin.Int.intBits z ≤ 1048576) ∧ ∀ v H', v = .bl true → Q v H'
/-- the law in plain Lean: the def fi, run on the script, gives true -/
def Md.Law (M : Md) (fi n fu : Nat) : Prop := ∀ ns : List Int, ns.length ≤ 63 → (∀ z ∈ ns, Builtin.Int.intBits z ≤ 1048576) → ∃ h', (evN M.prg fu n).cf fi [.ref 0] [.rol (ns.map .int)] = .ok (.bl true) h'
theorem rs_ints {T : Tb} {μ : List Addr} {Lv : Addr → Prop} {H : Hp} : ∀ ns : List Int, Rs T μ Lv H (ns.map .int) (ns.map V.int)
  | [] => rfl
  | n :: r => ⟨.int n, r.map V.int, rfl, rfl, rs_ints r⟩
theorem law_fn {fi n fu : Nat} {d : Df} (ok : M.Ok) (KX : K.In h) (G : h.Ns mainGlobals mg) (c : He.SaysX M.fas M.fns [] M.tf M.ex w h K) (TB : ∀ p ∈ M.tf.map (He.cT K), LamX.TabB base mg p.1 p.2) (hd : M.dfs[fi]? = some d) (hp : d.ps = [("script" : Str)]) (L : M.Law fi n fu) :
    FnOk M.pm w K mg base (L2.CX M.pm w) (n + 2) (He.ga K d.name) ((M.T K).fd fi) ["script"] (lawSp M K) := by
  refine ⟨fun vs H Q E ⟨a, ns, e, _⟩ => by rw [e]; rfl, fun A outer s H args us vs Q E hr e0 hb rv sp => ?_⟩
  obtain ⟨a, ns, rfl, hS, hT, hl, hbits, hQ⟩ := sp
  obtain ⟨f1, f2⟩ := all_ok (w := w) (base := base) (mg := mg) (fn_all ok KX G c TB) (la_all ok KX G c) 2 (Nat.le_refl _) n
  have b1 := (bind_at ok c hd).1
  have hx : (M.T K).fa fi = some (He.ga K d.name) := by
    show M.dfs[fi]?.map _ = _
    rw [hd]
    rfl
  have hs : HS ((M.T K).hide []) [a] [.rol (ns.map .int)] H := by
    refine ⟨rfl, fun i j b oi oj e1 m1 _ e2 m2 _ => ?_, fun k o b e1 e2 => ?_, hT, fun b hb => by cases hb⟩
    · cases i with
      | zero => cases e1; cases m1
      | succ i => cases e1
    · cases k with
      | zero =>
        cases e1
        cases e2
        refine ⟨ns.map V.int, ?_, rs_ints ns⟩
        rcases hS with z | z
        · refine .inl ⟨z, ?_, fun q => by cases q⟩
          rintro ⟨k, o, e3, m3, _⟩
          cases k with
          | zero => cases e3; cases m3
          | succ k => cases e3
        · exact .inr z
      | succ k => cases e1
  obtain ⟨h', ev⟩ := L ns hl hbits
  have w0 : (callN M.prg n).cf fi [.ref 0] [.rol (ns.map .int)] (fun d _ => d = .bl true) (fun _ _ => False) := (evN_ok M.prg fu n).cf _ _ _ _ _ (by rw [ev]; rfl)
  exact f1 fi _ hx A outer s H args us [.ref a] Q E ⟨fun _ => none, fun _ => none⟩ [a] [.rol (ns.map .int)] [] [.ref 0] hr e0 (by rw [b1, hp]; exact hb) rv hs ⟨.ref a, [], rfl, ⟨a, rfl, rfl⟩, rfl⟩ rfl (fun f k cl ws z => by cases z)
    ((monoN M.prg n).cf _ _ _ _ _ _ _ (fun d hd2 e μ' H' v st hs' r => hQ v H' (by rw [e] at r; exact r)) (fun _ _ z => z.elim) w0)
theorem law_at {fi n fu : Nat} {d : Df} {l : PySem.W.OpenLaw} {fa : Addr} (hl : l.prog = M.pm) (ok : M.Ok) (KX : K.In h) (G : h.Ns mainGlobals mg) (c : He.SaysX M.fas M.fns [] M.tf M.ex w h K) (hd : M.dfs[fi]? = some d) (hp : d.ps = [("script" : Str)]) (hfa : mg d.name = some (.ref fa)) (L : M.Law fi n fu) :
    LamX.LawAtS l w K (L2.CX M.pm w) (n + 2) 63 "script" mg fa h := by
  have hga : fa = He.ga K d.name := by
    have z := He.glo_ok KX G (He.SaysD.facts c.t.d (mem_fas_d (List.mem_of_getElem? hd)))
    rw [hfa] at z
    cases z
    rfl
  subst hga
  obtain ⟨b1, b2, b3⟩ := bind_at ok c hd
  refine ⟨(M.T K).fd fi, M.tf.map (He.cT K), lawSp M K, fun p hp => ?_, fun p hp => ?_, fun p hp => ?_, fun s u => ?_, fun H a ns hn hbits hT hS => ⟨a, ns, rfl, hS, fun p hp => ?_, hn, hbits, fun v H' e => e⟩, fun base hK hN TB => ?_⟩
  · obtain ⟨q, hq, rfl⟩ := List.mem_map.mp hp
    exact c.empty q hq
  · obtain ⟨q, hq, rfl⟩ := List.mem_map.mp hp
    exact c.out q hq
  · obtain ⟨q, hq, rfl⟩ := List.mem_map.mp hp
    exact PySem.W.codeHd_of_K KX (c.hd q hq)
  · have := b2 [u] (by rw [hp]; rfl)
    rw [hp] at this
    exact .of_eq this
  · obtain ⟨d', hd', rfl⟩ := List.mem_map.mp hp
    exact LamX.TabS.nil (hT _ (List.mem_map.mpr ⟨(d'.name, none), List.mem_map.mpr ⟨d', hd', rfl⟩, rfl⟩))
  · rw [hl]
    exact law_fn ok KX G c TB hd hp L
end
end Mi
set_option linter.all false
set_option maxRecDepth 100000
set_option maxHeartbeats 4000000
/-! Mi: the Hook (the statics are looked at too), the ends. -/
namespace Mi
open PySem L2 PySem.Spec PyProof.Rows

def asM (g : Addr → Option Obj) (n : Nat) : List Addr := cStatics :: He.asD g n
def obsM (n : Nat) (M : Md) (g : Addr → Option Obj) : He.AlX := (He.obsT M.fas M.fns [] (He.frT g (asM g n)), M.ex (He.frT g (asM g n)) && He.tabsB g M.tf (He.frT g (asM g n)))
theorem saysM_of {n : Nat} {M : Md} {w : World} {h : Heap} (e : obsM n M h.get? = He.valX M.fns [] w) : He.SaysX M.fas M.fns [] M.tf M.ex w h (He.frT h.get? (asM h.get? n)) := by
  have e1 : He.obsT M.fas M.fns [] (He.frT h.get? (asM h.get? n)) = He.valT M.fns [] w := congrArg (fun z : He.AlX => z.1) e
  have e2 : (M.ex (He.frT h.get? (asM h.get? n)) && He.tabsB h.get? M.tf (He.frT h.get? (asM h.get? n))) = true := congrArg (fun z : He.AlX => z.2) e
  obtain ⟨h1, h2⟩ := He.ba e2
  have key : ∀ p ∈ M.tf, PySem.W.codeHdIn (He.frT h.get? (asM h.get? n)) (He.cT (He.frT h.get? (asM h.get? n)) p).1 (He.cT (He.frT h.get? (asM h.get? n)) p).2 = true ∧ ∃ o, h.get? (He.cT (He.frT h.get? (asM h.get? n)) p).2 = some o ∧ He.emptyTab o = true := fun p hp => by
    obtain ⟨h3, h4⟩ := He.ba (List.all_eq_true.mp h2 p hp)
    refine ⟨h3, ?_⟩
    cases q : h.get? (He.cT (He.frT h.get? (asM h.get? n)) p).2 with
    | none =>
      rw [q] at h4
      cases h4
    | some o =>
      rw [q] at h4
      exact ⟨o, rfl, h4⟩
  exact ⟨e1, h1, fun p hp => (key p hp).1, fun p hp => by
    obtain ⟨_, o, q, z⟩ := key p hp
    exact He.frT_none q z, fun p hp => by
    obtain ⟨_, o, q, z⟩ := key p hp
    rw [q, He.emptyTab_eq z]⟩
def hookM (n : Nat) (M : Md) : PySem.W.Hook where
  α := He.AlX
  obs := fun s => obsM n M s.heap.get?
  val := fun w => He.valX M.fns [] w
  says := fun w h => ∃ K : PySem.W.Frag, K.In h ∧ He.SaysX M.fas M.fns [] M.tf M.ex w h K
  of := fun _ _ e => ⟨_, He.frT_in, saysM_of e⟩
  keeps := fun _ _ _ ⟨K, hK, c⟩ k => ⟨K, PySem.W.Frag.In.keeps hK k, ⟨c.t, c.more, c.hd, c.out, fun p hp => k _ _ (c.empty p hp)⟩⟩
def obM (n : Nat) (M : Md) (s : PySem.W.SharedT) : He.AlX := obsM n M (HandSHeadRun.getT s)
theorem obM_eq {n : Nat} {M : Md} (s : PySem.W.SharedT) : obM n M s = (hookM n M).obs s.abs := by
  have e : HandSHeadRun.getT s = s.abs.heap.get? := funext (HandSHeadRun.getT_eq s)
  unfold obM
  rw [e]
  rfl
theorem room (k : Nat) (h : k ≤ 200) : Room k callerA := by
  refine ⟨rfl, ?_, ?_⟩
  · show 1 + claimMargin + 3 * k + 5 < recursionLimit
    have e1 : claimMargin = 300 := rfl
    have e2 : recursionLimit = 1000 := rfl
    omega
  · show 4 + 16 * k + 200 < cLine
    have : (4000 : Nat) ≤ cLine := by decide
    omega
/-- the walk's end -/
theorem walk_M {M : Md} {l : PySem.W.OpenLaw} {fi n fu m : Nat} {df : Df} {q : Program} {loose : List Str} {XP : (Str → Option Value) → Heap → Prop} {d : DefRec} (hl : l.prog = M.pm) (ok : M.Ok) (hd : M.dfs[fi]? = some df) (hp : df.ps = [("script" : Str)]) (hn : d.name = df.name)
    (hm : l.most = some 63) (hdf : d.params.defaults = []) (h2 : n + 2 ≤ 200) (L : M.Law fi n fu) : PySem.W.WalkO q loose XP (hookM m M).says l.row.toRowW d [] (fun f vs => PySem.call f vs) := by
  refine LamX.walk_ofTsE (n := 63) (k := n + 2) (x := "script") (CX := fun w => L2.CX M.pm w) hm (by decide) hdf (room _ h2) (fun w mg fa h Y G hmg => ?_) (fun w H s e s' ⟨a, B, H', cls, dd, _, _, _, _, _, _, _, z⟩ => z)
  obtain ⟨K, KX, c⟩ := Y
  exact ⟨K, KX, law_at hl ok KX G c hd hp (by rw [← hn]; exact hmg) L⟩
end Mi
set_option linter.all false
set_option maxRecDepth 100000
set_option maxHeartbeats 2000000
/-! Ev: the run's equations for simp; what comes behind a step is a named function, so that nothing is looked at too early. -/
namespace Mi
section
variable {α β : Type} {G : EG} {fu : Nat} {ρ : Loc} {h : Hd}
@[simp] theorem calm_ok {a : α} : (Rv.ok a h).calm = .ok a h := rfl
theorem iteR_pos {c : Prop} [Decidable c] {r : Rv α} (e : c) : iteR c r = r := if_pos e
@[simp] theorem iteR_t [Decidable True] {r : Rv α} : iteR True r = r := if_pos True.intro
theorem iteS_pos {c : Prop} [Decidable c] {r : RS} (e : c) : iteS c r = r := if_pos e
@[simp] theorem iteS_t [Decidable True] {r : RS} : iteS True r = r := if_pos True.intro
@[simp] theorem off_rt {i : Nat} {d : D} : (RS.rt d h).off i = .rt d h := rfl
@[simp] theorem off_nx {i : Nat} : (RS.nx ρ h).off i = iteS (noXL (ρ.set i none) = true) (.nx (ρ.set i none) h) := rfl
@[simp] theorem off_bk {i : Nat} : (RS.bk ρ h).off i = iteS (noXL (ρ.set i none) = true) (.bk (ρ.set i none) h) := rfl
@[simp] theorem off_ct {i : Nat} : (RS.ct ρ h).off i = iteS (noXL (ρ.set i none) = true) (.ct (ρ.set i none) h) := rfl
@[simp] theorem calmS_rt {d : D} : (RS.rt d h).calm = .rt d h := rfl
@[simp] theorem calmS_nx : (RS.nx ρ h).calm = .nx ρ h := rfl
@[simp] theorem calmS_bk : (RS.bk ρ h).calm = .bk ρ h := rfl
@[simp] theorem calmS_ct : (RS.ct ρ h).calm = .ct ρ h := rfl
/-- what a def hands back -/
def RS.ret (r : RS) : Rv D := match r with
  | .nx _ h => .ok .non h
  | .rt d h => .ok d h
  | .ex _ x h => .ex x h
  | _ => .no
@[simp] theorem ret_nx : (RS.nx ρ h).ret = .ok .non h := rfl
@[simp] theorem ret_rt {d : D} : (RS.rt d h).ret = .ok d h := rfl
@[simp] theorem ret_ex {x : Ex} : (RS.ex ρ x h).ret = .ex x h := rfl
end
@[simp] theorem evE_c {d : D} {G : EG} {fu : Nat} {ρ : Loc} {h : Hd} : evE G (.c d) ρ h = .ok d h := rfl
@[simp] theorem evE_g {k : Nat} {G : EG} {fu : Nat} {ρ : Loc} {h : Hd} : evE G (.g k) ρ h = .ok (G.gc k) h := rfl
def k1 (h : Hd) (r : Option (D)) : Rv D := optR r fun d => iteR (isClo d = false) (.ok d h)
@[simp] theorem k1_o {h : Hd} {d : D} : k1 h (some d) = iteR (isClo d = false) (.ok d h) := rfl
@[simp] theorem evE_v {i : Nat} {G : EG} {fu : Nat} {ρ : Loc} {h : Hd} : evE G (.v i) ρ h = (k1 h (getL ρ i)) := rfl
def k2  (r : Rv (List D)) : Rv (D) := r.bind fun ds h => iteR (ds.length ≤ sizeMax) (.ok (.tup ds) h)
@[simp] theorem k2_o  {ds : List D} {h : Hd} : k2  (.ok ds h) = iteR (ds.length ≤ sizeMax) (.ok (.tup ds) h) := rfl
@[simp] theorem k2_x  {w : Ex} {h : Hd} : k2  (.ex w h) = .ex w h := rfl
@[simp] theorem evE_tup {es : ME} {G : EG} {fu : Nat} {ρ : Loc} {h : Hd} : evE G (.tup es) ρ h = (k2  (evEs G es ρ h)) := rfl
def k3  (r : Rv (List D)) : Rv (D) := r.bind fun ds h => iteR (ds.length ≤ sizeMax) (.ok (.lst ds) h)
@[simp] theorem k3_o  {ds : List D} {h : Hd} : k3  (.ok ds h) = iteR (ds.length ≤ sizeMax) (.ok (.lst ds) h) := rfl
@[simp] theorem k3_x  {w : Ex} {h : Hd} : k3  (.ex w h) = .ex w h := rfl
@[simp] theorem evE_lst {es : ME} {G : EG} {fu : Nat} {ρ : Loc} {h : Hd} : evE G (.lst es) ρ h = (k3  (evEs G es ρ h)) := rfl
def k4  (r : Rv (List D)) : Rv (D) := r.bind fun ds h => iteR (ds.length ≤ sizeMax) (.ok (.ref h.length) (h ++ [.lst ds]))
@[simp] theorem k4_o  {ds : List D} {h : Hd} : k4  (.ok ds h) = iteR (ds.length ≤ sizeMax) (.ok (.ref h.length) (h ++ [.lst ds])) := rfl
@[simp] theorem k4_x  {w : Ex} {h : Hd} : k4  (.ex w h) = .ex w h := rfl
@[simp] theorem evE_lsh {es : ME} {G : EG} {fu : Nat} {ρ : Loc} {h : Hd} : evE G (.lsh es) ρ h = (k4  (evEs G es ρ h)) := rfl
def asI_neg (x : D) (h : Hd) : Rv D := asI x fun i => .ok (.int (-i)) h
@[simp] theorem asI_neg_o {i : Int} {h : Hd} : asI_neg (.int i) h = .ok (.int (-i)) h := rfl
def k6  (r : Rv (D)) : Rv (D) := r.bind fun x h => asI_neg x h
@[simp] theorem k6_o  {x : D} {h : Hd} : k6  (.ok x h) = asI_neg x h := rfl
@[simp] theorem k6_x  {w : Ex} {h : Hd} : k6  (.ex w h) = .ex w h := rfl
@[simp] theorem evE_neg {a : ME} {G : EG} {fu : Nat} {ρ : Loc} {h : Hd} : evE G (.neg a) ρ h = (k6  (evE G a ρ h)) := rfl
def k7 (h : Hd) (r : Option (D)) : Rv D := optR r fun z => .ok z h
@[simp] theorem k7_o {h : Hd} {z : D} : k7 h (some z) = .ok z h := rfl
def k8 (o : Bi) (x : D) (r : Rv (D)) : Rv (D) := r.bind fun y h => (k7 h (opB h o x y))
@[simp] theorem k8_o {o : Bi} {x : D} {y : D} {h : Hd} : k8 o x (.ok y h) = (k7 h (opB h o x y)) := rfl
@[simp] theorem k8_x {o : Bi} {x : D} {w : Ex} {h : Hd} : k8 o x (.ex w h) = .ex w h := rfl
def k9 (o : Bi) (b : ME) (ρ : Loc) (G : EG) (r : Rv (D)) : Rv (D) := r.bind fun x h => (k8 o x (evE G b ρ h))
@[simp] theorem k9_o {o : Bi} {b : ME} {ρ : Loc} {G : EG} {x : D} {h : Hd} : k9 o b ρ G (.ok x h) = (k8 o x (evE G b ρ h)) := rfl
@[simp] theorem k9_x {o : Bi} {b : ME} {ρ : Loc} {G : EG} {w : Ex} {h : Hd} : k9 o b ρ G (.ex w h) = .ex w h := rfl
@[simp] theorem evE_bin {o : Bi} {a : ME} {b : ME} {G : EG} {fu : Nat} {ρ : Loc} {h : Hd} : evE G (.bin o a b) ρ h = (k9 o b ρ G (evE G a ρ h)) := rfl
def k10 (h : Hd) (r : Option (Bool)) : Rv D := optR r fun cb => .ok (.bl cb) h
@[simp] theorem k10_o {h : Hd} {cb : Bool} : k10 h (some cb) = .ok (.bl cb) h := rfl
def k11 (co : Co) (x : D) (r : Rv (D)) : Rv (D) := r.bind fun y h => (k10 h (opC h co x y))
@[simp] theorem k11_o {co : Co} {x : D} {y : D} {h : Hd} : k11 co x (.ok y h) = (k10 h (opC h co x y)) := rfl
@[simp] theorem k11_x {co : Co} {x : D} {w : Ex} {h : Hd} : k11 co x (.ex w h) = .ex w h := rfl
def k12 (co : Co) (b : ME) (ρ : Loc) (G : EG) (r : Rv (D)) : Rv (D) := r.bind fun x h => (k11 co x (evE G b ρ h))
@[simp] theorem k12_o {co : Co} {b : ME} {ρ : Loc} {G : EG} {x : D} {h : Hd} : k12 co b ρ G (.ok x h) = (k11 co x (evE G b ρ h)) := rfl
@[simp] theorem k12_x {co : Co} {b : ME} {ρ : Loc} {G : EG} {w : Ex} {h : Hd} : k12 co b ρ G (.ex w h) = .ex w h := rfl
@[simp] theorem evE_cmp {co : Co} {a : ME} {b : ME} {G : EG} {fu : Nat} {ρ : Loc} {h : Hd} : evE G (.cmp co a b) ρ h = (k12 co b ρ G (evE G a ρ h)) := rfl
def k13 (h : Hd) (r : Option (Bool)) : Rv D := optR r fun cb => .ok (.bl cb) h
@[simp] theorem k13_o {h : Hd} {cb : Bool} : k13 h (some cb) = .ok (.bl cb) h := rfl
def k14 (cp : Co) (y : D) (r : Rv (D)) : Rv (D) := r.bind fun z h => (k13 h (opC h cp y z))
@[simp] theorem k14_o {cp : Co} {y : D} {z : D} {h : Hd} : k14 cp y (.ok z h) = (k13 h (opC h cp y z)) := rfl
@[simp] theorem k14_x {cp : Co} {y : D} {w : Ex} {h : Hd} : k14 cp y (.ex w h) = .ex w h := rfl
def k15 (cp : Co) (c : ME) (ρ : Loc) (G : EG) (y : D) (h : Hd) (q : Option Bool) : Rv D := triR q ((k14 cp y (evE G c ρ h))) (.ok (.bl false) h)
@[simp] theorem k15_t {cp : Co} {c : ME} {ρ : Loc} {G : EG} {y : D} {h : Hd} : k15 cp c ρ G y h (some true) = (k14 cp y (evE G c ρ h)) := rfl
@[simp] theorem k15_f {cp : Co} {c : ME} {ρ : Loc} {G : EG} {y : D} {h : Hd} : k15 cp c ρ G y h (some false) = .ok (.bl false) h := rfl
def k16 (co : Co) (cp : Co) (c : ME) (ρ : Loc) (G : EG) (x : D) (r : Rv (D)) : Rv (D) := r.bind fun y h => (k15 cp c ρ G y h (opC h co x y))
@[simp] theorem k16_o {co : Co} {cp : Co} {c : ME} {ρ : Loc} {G : EG} {x : D} {y : D} {h : Hd} : k16 co cp c ρ G x (.ok y h) = (k15 cp c ρ G y h (opC h co x y)) := rfl
@[simp] theorem k16_x {co : Co} {cp : Co} {c : ME} {ρ : Loc} {G : EG} {x : D} {w : Ex} {h : Hd} : k16 co cp c ρ G x (.ex w h) = .ex w h := rfl
def k17 (co : Co) (cp : Co) (b : ME) (c : ME) (ρ : Loc) (G : EG) (r : Rv (D)) : Rv (D) := r.bind fun x h => (k16 co cp c ρ G x (evE G b ρ h))
@[simp] theorem k17_o {co : Co} {cp : Co} {b : ME} {c : ME} {ρ : Loc} {G : EG} {x : D} {h : Hd} : k17 co cp b c ρ G (.ok x h) = (k16 co cp c ρ G x (evE G b ρ h)) := rfl
@[simp] theorem k17_x {co : Co} {cp : Co} {b : ME} {c : ME} {ρ : Loc} {G : EG} {w : Ex} {h : Hd} : k17 co cp b c ρ G (.ex w h) = .ex w h := rfl
@[simp] theorem evE_chn {co : Co} {cp : Co} {a : ME} {b : ME} {c : ME} {G : EG} {fu : Nat} {ρ : Loc} {h : Hd} : evE G (.chn co cp a b c) ρ h = (k17 co cp b c ρ G (evE G a ρ h)) := rfl
def k18 (b : ME) (ρ : Loc) (G : EG) (x : D) (h : Hd) (q : Option Bool) : Rv D := triR q (evE G b ρ h) (.ok x h)
@[simp] theorem k18_t {b : ME} {ρ : Loc} {G : EG} {x : D} {h : Hd} : k18 b ρ G x h (some true) = evE G b ρ h := rfl
@[simp] theorem k18_f {b : ME} {ρ : Loc} {G : EG} {x : D} {h : Hd} : k18 b ρ G x h (some false) = .ok x h := rfl
def k19 (b : ME) (ρ : Loc) (G : EG) (r : Rv (D)) : Rv (D) := r.bind fun x h => (k18 b ρ G x h (truth h x))
@[simp] theorem k19_o {b : ME} {ρ : Loc} {G : EG} {x : D} {h : Hd} : k19 b ρ G (.ok x h) = (k18 b ρ G x h (truth h x)) := rfl
@[simp] theorem k19_x {b : ME} {ρ : Loc} {G : EG} {w : Ex} {h : Hd} : k19 b ρ G (.ex w h) = .ex w h := rfl
@[simp] theorem evE_and {a : ME} {b : ME} {G : EG} {fu : Nat} {ρ : Loc} {h : Hd} : evE G (.and a b) ρ h = (k19 b ρ G (evE G a ρ h)) := rfl
def k20 (b : ME) (ρ : Loc) (G : EG) (x : D) (h : Hd) (q : Option Bool) : Rv D := triR q (.ok x h) (evE G b ρ h)
@[simp] theorem k20_t {b : ME} {ρ : Loc} {G : EG} {x : D} {h : Hd} : k20 b ρ G x h (some true) = .ok x h := rfl
@[simp] theorem k20_f {b : ME} {ρ : Loc} {G : EG} {x : D} {h : Hd} : k20 b ρ G x h (some false) = evE G b ρ h := rfl
def k21 (b : ME) (ρ : Loc) (G : EG) (r : Rv (D)) : Rv (D) := r.bind fun x h => (k20 b ρ G x h (truth h x))
@[simp] theorem k21_o {b : ME} {ρ : Loc} {G : EG} {x : D} {h : Hd} : k21 b ρ G (.ok x h) = (k20 b ρ G x h (truth h x)) := rfl
@[simp] theorem k21_x {b : ME} {ρ : Loc} {G : EG} {w : Ex} {h : Hd} : k21 b ρ G (.ex w h) = .ex w h := rfl
@[simp] theorem evE_or {a : ME} {b : ME} {G : EG} {fu : Nat} {ρ : Loc} {h : Hd} : evE G (.or a b) ρ h = (k21 b ρ G (evE G a ρ h)) := rfl
def k22 (h : Hd) (r : Option (Bool)) : Rv D := optR r fun cb => .ok (.bl (!cb)) h
@[simp] theorem k22_o {h : Hd} {cb : Bool} : k22 h (some cb) = .ok (.bl (!cb)) h := rfl
def k23  (r : Rv (D)) : Rv (D) := r.bind fun x h => (k22 h (truth h x))
@[simp] theorem k23_o  {x : D} {h : Hd} : k23  (.ok x h) = (k22 h (truth h x)) := rfl
@[simp] theorem k23_x  {w : Ex} {h : Hd} : k23  (.ex w h) = .ex w h := rfl
@[simp] theorem evE_not {a : ME} {G : EG} {fu : Nat} {ρ : Loc} {h : Hd} : evE G (.not a) ρ h = (k23  (evE G a ρ h)) := rfl
def k24 (a : ME) (b : ME) (ρ : Loc) (G : EG) (h : Hd) (q : Bool) : Rv D := ifR q (evE G a ρ h) (evE G b ρ h)
@[simp] theorem k24_t {a : ME} {b : ME} {ρ : Loc} {G : EG} {h : Hd} : k24 a b ρ G h (true) = evE G a ρ h := rfl
@[simp] theorem k24_f {a : ME} {b : ME} {ρ : Loc} {G : EG} {h : Hd} : k24 a b ρ G h (false) = evE G b ρ h := rfl
def k25 (a : ME) (b : ME) (ρ : Loc) (G : EG) (r : Rv (Bool)) : Rv (D) := r.bind fun cb h => (k24 a b ρ G h (cb))
@[simp] theorem k25_o {a : ME} {b : ME} {ρ : Loc} {G : EG} {cb : Bool} {h : Hd} : k25 a b ρ G (.ok cb h) = (k24 a b ρ G h (cb)) := rfl
@[simp] theorem k25_x {a : ME} {b : ME} {ρ : Loc} {G : EG} {w : Ex} {h : Hd} : k25 a b ρ G (.ex w h) = .ex w h := rfl
@[simp] theorem evE_ite {t : ME} {a : ME} {b : ME} {G : EG} {fu : Nat} {ρ : Loc} {h : Hd} : evE G (.ite t a b) ρ h = (k25 a b ρ G (evT G t ρ h)) := rfl
def k26 (h : Hd) (r : Option (Bool)) : Rv D := optR r fun cb => .ok (.bl cb) h
@[simp] theorem k26_o {h : Hd} {cb : Bool} : k26 h (some cb) = .ok (.bl cb) h := rfl
def k27 (ts : List Ty) (r : Rv (D)) : Rv (D) := r.bind fun x h => (k26 h (isAny h x ts))
@[simp] theorem k27_o {ts : List Ty} {x : D} {h : Hd} : k27 ts (.ok x h) = (k26 h (isAny h x ts)) := rfl
@[simp] theorem k27_x {ts : List Ty} {w : Ex} {h : Hd} : k27 ts (.ex w h) = .ex w h := rfl
@[simp] theorem evE_isa {a : ME} {ts : List Ty} {G : EG} {fu : Nat} {ρ : Loc} {h : Hd} : evE G (.isa a ts) ρ h = (k27 ts (evE G a ρ h)) := rfl
def k28 (h : Hd) (r : Option (D)) : Rv D := optR r fun z => .ok z h
@[simp] theorem k28_o {h : Hd} {z : D} : k28 h (some z) = .ok z h := rfl
def k29 (x : D) (r : Rv (D)) : Rv (D) := r.bind fun y h => (k28 h (ixD h x y))
@[simp] theorem k29_o {x : D} {y : D} {h : Hd} : k29 x (.ok y h) = (k28 h (ixD h x y)) := rfl
@[simp] theorem k29_x {x : D} {w : Ex} {h : Hd} : k29 x (.ex w h) = .ex w h := rfl
def k30 (b : ME) (ρ : Loc) (G : EG) (r : Rv (D)) : Rv (D) := r.bind fun x h => (k29 x (evE G b ρ h))
@[simp] theorem k30_o {b : ME} {ρ : Loc} {G : EG} {x : D} {h : Hd} : k30 b ρ G (.ok x h) = (k29 x (evE G b ρ h)) := rfl
@[simp] theorem k30_x {b : ME} {ρ : Loc} {G : EG} {w : Ex} {h : Hd} : k30 b ρ G (.ex w h) = .ex w h := rfl
@[simp] theorem evE_ix {a : ME} {b : ME} {G : EG} {fu : Nat} {ρ : Loc} {h : Hd} : evE G (.ix a b) ρ h = (k30 b ρ G (evE G a ρ h)) := rfl
def k31 (h : Hd) (r : Option (D)) : Rv D := optR r fun z => .ok z h
@[simp] theorem k31_o {h : Hd} {z : D} : k31 h (some z) = .ok z h := rfl
def k32 (x : D) (l : Option Int) (r : Rv (Option Int)) : Rv (D) := r.bind fun u h => (k31 h (slD h x l u))
@[simp] theorem k32_o {x : D} {l : Option Int} {u : Option Int} {h : Hd} : k32 x l (.ok u h) = (k31 h (slD h x l u)) := rfl
@[simp] theorem k32_x {x : D} {l : Option Int} {w : Ex} {h : Hd} : k32 x l (.ex w h) = .ex w h := rfl
def k33 (hi : ME) (ρ : Loc) (G : EG) (x : D) (r : Rv (Option Int)) : Rv (D) := r.bind fun l h => (k32 x l (evO G hi ρ h))
@[simp] theorem k33_o {hi : ME} {ρ : Loc} {G : EG} {x : D} {l : Option Int} {h : Hd} : k33 hi ρ G x (.ok l h) = (k32 x l (evO G hi ρ h)) := rfl
@[simp] theorem k33_x {hi : ME} {ρ : Loc} {G : EG} {x : D} {w : Ex} {h : Hd} : k33 hi ρ G x (.ex w h) = .ex w h := rfl
def k34 (lo : ME) (hi : ME) (ρ : Loc) (G : EG) (r : Rv (D)) : Rv (D) := r.bind fun x h => (k33 hi ρ G x (evO G lo ρ h))
@[simp] theorem k34_o {lo : ME} {hi : ME} {ρ : Loc} {G : EG} {x : D} {h : Hd} : k34 lo hi ρ G (.ok x h) = (k33 hi ρ G x (evO G lo ρ h)) := rfl
@[simp] theorem k34_x {lo : ME} {hi : ME} {ρ : Loc} {G : EG} {w : Ex} {h : Hd} : k34 lo hi ρ G (.ex w h) = .ex w h := rfl
@[simp] theorem evE_slc {a : ME} {lo : ME} {hi : ME} {G : EG} {fu : Nat} {ρ : Loc} {h : Hd} : evE G (.slc a lo hi) ρ h = (k34 lo hi ρ G (evE G a ρ h)) := rfl
def k35 (G : EG) (f : Nat) (r : Rv (List D)) : Rv (D) := r.bind fun ds h => G.cf f ds h
@[simp] theorem k35_o {G : EG} {f : Nat} {ds : List D} {h : Hd} : k35 G f (.ok ds h) = G.cf f ds h := rfl
@[simp] theorem k35_x {G : EG} {f : Nat} {w : Ex} {h : Hd} : k35 G f (.ex w h) = .ex w h := rfl
@[simp] theorem evE_call {f : Nat} {es : ME} {G : EG} {fu : Nat} {ρ : Loc} {h : Hd} : evE G (.call f es) ρ h = (k35 G f (evAs G es ρ h)) := rfl
def k36 (G : EG) (k : Nat) (caps : List D) (r : Rv (List D)) : Rv (D) := r.bind fun ds h => G.cl k caps ds h
@[simp] theorem k36_o {G : EG} {k : Nat} {caps : List D} {ds : List D} {h : Hd} : k36 G k caps (.ok ds h) = G.cl k caps ds h := rfl
@[simp] theorem k36_x {G : EG} {k : Nat} {caps : List D} {w : Ex} {h : Hd} : k36 G k caps (.ex w h) = .ex w h := rfl
def k37 (G : EG) (f : Nat) (r : Rv (List D)) : Rv (D) := r.bind fun ds h => G.cf f ds h
@[simp] theorem k37_o {G : EG} {f : Nat} {ds : List D} {h : Hd} : k37 G f (.ok ds h) = G.cf f ds h := rfl
@[simp] theorem k37_x {G : EG} {f : Nat} {w : Ex} {h : Hd} : k37 G f (.ex w h) = .ex w h := rfl
def asF_c (G : EG) (es : ME) (ρ : Loc) (h : Hd) (x : D) : Rv D := asF x (fun k caps => iteR (noXs caps = true) (k36 G k caps (evAs G es ρ h))) (fun f => (k37 G f (evAs G es ρ h)))
@[simp] theorem asF_c1 {G : EG} {es : ME} {ρ : Loc} {h : Hd} {k : Nat} {caps : List D} : asF_c G es ρ h (.clo k caps) = iteR (noXs caps = true) (k36 G k caps (evAs G es ρ h)) := rfl
@[simp] theorem asF_c2 {G : EG} {es : ME} {ρ : Loc} {h : Hd} {f : Nat} : asF_c G es ρ h (.glo f) = (k37 G f (evAs G es ρ h)) := rfl
def k38 (es : ME) (ρ : Loc) (G : EG) (h : Hd) (r : Option (D)) : Rv D := optR r fun x => asF_c G es ρ h x
@[simp] theorem k38_o {es : ME} {ρ : Loc} {G : EG} {h : Hd} {x : D} : k38 es ρ G h (some x) = asF_c G es ρ h x := rfl
@[simp] theorem evE_clv {i : Nat} {es : ME} {G : EG} {fu : Nat} {ρ : Loc} {h : Hd} : evE G (.clv i es) ρ h = (k38 es ρ G h (getL ρ i)) := rfl
def k39 (G : EG) (cc : Nat) (r : Rv (List D)) : Rv (D) := r.bind fun ds h => G.nw cc ds h
@[simp] theorem k39_o {G : EG} {cc : Nat} {ds : List D} {h : Hd} : k39 G cc (.ok ds h) = G.nw cc ds h := rfl
@[simp] theorem k39_x {G : EG} {cc : Nat} {w : Ex} {h : Hd} : k39 G cc (.ex w h) = .ex w h := rfl
@[simp] theorem evE_new {cc : Nat} {es : ME} {G : EG} {fu : Nat} {ρ : Loc} {h : Hd} : evE G (.new cc es) ρ h = (k39 G cc (evEs G es ρ h)) := rfl
def k40 (h : Hd) (r : Option (D)) : Rv D := optR r fun z => .ok z h
@[simp] theorem k40_o {h : Hd} {z : D} : k40 h (some z) = .ok z h := rfl
def k41 (bf : Bf) (r : Rv (List D)) : Rv (D) := r.bind fun ds h => (k40 h (bfD h bf ds))
@[simp] theorem k41_o {bf : Bf} {ds : List D} {h : Hd} : k41 bf (.ok ds h) = (k40 h (bfD h bf ds)) := rfl
@[simp] theorem k41_x {bf : Bf} {w : Ex} {h : Hd} : k41 bf (.ex w h) = .ex w h := rfl
@[simp] theorem evE_bf {bf : Bf} {es : ME} {G : EG} {fu : Nat} {ρ : Loc} {h : Hd} : evE G (.bf bf es) ρ h = (k41 bf (evEs G es ρ h)) := rfl
def k42 (x : D) (m : Mt) (r : Rv (List D)) : Rv (D) := r.bind fun ds h => mtE h m x ds
@[simp] theorem k42_o {x : D} {m : Mt} {ds : List D} {h : Hd} : k42 x m (.ok ds h) = mtE h m x ds := rfl
@[simp] theorem k42_x {x : D} {m : Mt} {w : Ex} {h : Hd} : k42 x m (.ex w h) = .ex w h := rfl
def k43 (es : ME) (ρ : Loc) (G : EG) (m : Mt) (r : Rv (D)) : Rv (D) := r.bind fun x h => iteR (mtTy h m x = true) (k42 x m (evEs G es ρ h))
@[simp] theorem k43_o {es : ME} {ρ : Loc} {G : EG} {m : Mt} {x : D} {h : Hd} : k43 es ρ G m (.ok x h) = iteR (mtTy h m x = true) (k42 x m (evEs G es ρ h)) := rfl
@[simp] theorem k43_x {es : ME} {ρ : Loc} {G : EG} {m : Mt} {w : Ex} {h : Hd} : k43 es ρ G m (.ex w h) = .ex w h := rfl
@[simp] theorem evE_mt {m : Mt} {a : ME} {es : ME} {G : EG} {fu : Nat} {ρ : Loc} {h : Hd} : evE G (.mt m a es) ρ h = (k43 es ρ G m (evE G a ρ h)) := rfl
def k44  (r : Rv (D)) : Rv (Option D) := r.bind fun y h => .ok (some y) h
@[simp] theorem k44_o  {y : D} {h : Hd} : k44  (.ok y h) = .ok (some y) h := rfl
@[simp] theorem k44_x  {w : Ex} {h : Hd} : k44  (.ex w h) = .ex w h := rfl
def k45 (elt : ME) (ρ : Loc) (G : EG) (h : Hd) (q : Bool) : Rv (Option D) := ifR q ((k44  ((evE G elt ρ h).calm))) (.ok none h)
@[simp] theorem k45_t {elt : ME} {ρ : Loc} {G : EG} {h : Hd} : k45 elt ρ G h (true) = (k44  ((evE G elt ρ h).calm)) := rfl
@[simp] theorem k45_f {elt : ME} {ρ : Loc} {G : EG} {h : Hd} : k45 elt ρ G h (false) = .ok none h := rfl
def k46 (elt : ME) (ρ : Loc) (G : EG) (r : Rv (Bool)) : Rv (Option D) := r.bind fun cb h => (k45 elt ρ G h (cb))
@[simp] theorem k46_o {elt : ME} {ρ : Loc} {G : EG} {cb : Bool} {h : Hd} : k46 elt ρ G (.ok cb h) = (k45 elt ρ G h (cb)) := rfl
@[simp] theorem k46_x {elt : ME} {ρ : Loc} {G : EG} {w : Ex} {h : Hd} : k46 elt ρ G (.ex w h) = .ex w h := rfl
def k47 (cond : ME) (elt : ME) (G : EG) (h : Hd) (r : Option (Loc)) : Rv (Option D) := optR r fun ρ => (k46 elt ρ G ((evT G cond ρ h).calm))
@[simp] theorem k47_o {cond : ME} {elt : ME} {G : EG} {h : Hd} {ρ : Loc} : k47 cond elt G h (some ρ) = (k46 elt ρ G ((evT G cond ρ h).calm)) := rfl
def cmpS (G : EG) (p : Pat) (cond elt : ME) (own : List Nat) (ρ : Loc) (d : D) (h : Hd) : Rv (Option D) := (k47 cond elt G h (bindP p d (wipeL (noClo ρ) own)))
theorem cmpS_d {G : EG} {p : Pat} {cond elt : ME} {own : List Nat} {ρ : Loc} {d : D} {h : Hd} : cmpS G p cond elt own ρ d h = (k47 cond elt G h (bindP p d (wipeL (noClo ρ) own))) := rfl
def k48  (r : Rv (List D)) : Rv (D) := r.bind fun ds h => .ok (.lst ds) h
@[simp] theorem k48_o  {ds : List D} {h : Hd} : k48  (.ok ds h) = .ok (.lst ds) h := rfl
@[simp] theorem k48_x  {w : Ex} {h : Hd} : k48  (.ex w h) = .ex w h := rfl
def k49 (p : Pat) (cond : ME) (elt : ME) (own : List Nat) (ρ : Loc) (G : EG) (r : Rv (List D × List D)) : Rv (D) := r.bind fun is h => iteR (is.1.length ≤ sizeMax) (k48  (compE (cmpS G p cond elt own ρ) (staysB h is.2) is.1 h))
@[simp] theorem k49_o {p : Pat} {cond : ME} {elt : ME} {own : List Nat} {ρ : Loc} {G : EG} {is : List D × List D} {h : Hd} : k49 p cond elt own ρ G (.ok is h) = iteR (is.1.length ≤ sizeMax) (k48  (compE (cmpS G p cond elt own ρ) (staysB h is.2) is.1 h)) := rfl
@[simp] theorem k49_x {p : Pat} {cond : ME} {elt : ME} {own : List Nat} {ρ : Loc} {G : EG} {w : Ex} {h : Hd} : k49 p cond elt own ρ G (.ex w h) = .ex w h := rfl
@[simp] theorem evE_lc {p : Pat} {it : ME} {cond : ME} {elt : ME} {own : List Nat} {G : EG} {fu : Nat} {ρ : Loc} {h : Hd} : evE G (.lc p it cond elt own) ρ h = (k49 p cond elt own ρ G (evI G it ρ h)) := rfl
def k50 (ro : Option D) (r : Rv (List D)) : Rv (List D) := r.bind fun rs h => .ok (ro.toList ++ rs) h
@[simp] theorem k50_o {ro : Option D} {rs : List D} {h : Hd} : k50 ro (.ok rs h) = .ok (ro.toList ++ rs) h := rfl
@[simp] theorem k50_x {ro : Option D} {w : Ex} {h : Hd} : k50 ro (.ex w h) = .ex w h := rfl
def k51 (ds : List D) (st : Hd → Bool) (cstep : D → Hd → Rv (Option D)) (r : Rv (Option D)) : Rv (List D) := r.bind fun ro h => (k50 ro (compE cstep st ds h))
@[simp] theorem k51_o {ds : List D} {st : Hd → Bool} {cstep : D → Hd → Rv (Option D)} {ro : Option D} {h : Hd} : k51 ds st cstep (.ok ro h) = (k50 ro (compE cstep st ds h)) := rfl
@[simp] theorem k51_x {ds : List D} {st : Hd → Bool} {cstep : D → Hd → Rv (Option D)} {w : Ex} {h : Hd} : k51 ds st cstep (.ex w h) = .ex w h := rfl
@[simp] theorem compE_0 {cstep : D → Hd → Rv (Option D)} {st : Hd → Bool} {h : Hd} : compE cstep st [] h = iteR (st h = true) (.ok [] h) := rfl
theorem compE_1 {cstep : D → Hd → Rv (Option D)} {st : Hd → Bool} {d : D} {ds : List D} {h : Hd} : compE cstep st (d :: ds) h = iteR (st h = true) (k51 ds st cstep (cstep d h)) := rfl
def k52 (b : ME) (ρ : Loc) (G : EG) (h : Hd) (q : Bool) : Rv Bool := ifR q (evT G b ρ h) (.ok false h)
@[simp] theorem k52_t {b : ME} {ρ : Loc} {G : EG} {h : Hd} : k52 b ρ G h (true) = evT G b ρ h := rfl
@[simp] theorem k52_f {b : ME} {ρ : Loc} {G : EG} {h : Hd} : k52 b ρ G h (false) = .ok false h := rfl
def k53 (b : ME) (ρ : Loc) (G : EG) (r : Rv (Bool)) : Rv (Bool) := r.bind fun cb h => (k52 b ρ G h (cb))
@[simp] theorem k53_o {b : ME} {ρ : Loc} {G : EG} {cb : Bool} {h : Hd} : k53 b ρ G (.ok cb h) = (k52 b ρ G h (cb)) := rfl
@[simp] theorem k53_x {b : ME} {ρ : Loc} {G : EG} {w : Ex} {h : Hd} : k53 b ρ G (.ex w h) = .ex w h := rfl
@[simp] theorem evT_and {a : ME} {b : ME} {G : EG} {fu : Nat} {ρ : Loc} {h : Hd} : evT G (.and a b) ρ h = (k53 b ρ G (evT G a ρ h)) := rfl
def k54 (b : ME) (ρ : Loc) (G : EG) (h : Hd) (q : Bool) : Rv Bool := ifR q (.ok true h) (evT G b ρ h)
@[simp] theorem k54_t {b : ME} {ρ : Loc} {G : EG} {h : Hd} : k54 b ρ G h (true) = .ok true h := rfl
@[simp] theorem k54_f {b : ME} {ρ : Loc} {G : EG} {h : Hd} : k54 b ρ G h (false) = evT G b ρ h := rfl
def k55 (b : ME) (ρ : Loc) (G : EG) (r : Rv (Bool)) : Rv (Bool) := r.bind fun cb h => (k54 b ρ G h (cb))
@[simp] theorem k55_o {b : ME} {ρ : Loc} {G : EG} {cb : Bool} {h : Hd} : k55 b ρ G (.ok cb h) = (k54 b ρ G h (cb)) := rfl
@[simp] theorem k55_x {b : ME} {ρ : Loc} {G : EG} {w : Ex} {h : Hd} : k55 b ρ G (.ex w h) = .ex w h := rfl
@[simp] theorem evT_or {a : ME} {b : ME} {G : EG} {fu : Nat} {ρ : Loc} {h : Hd} : evT G (.or a b) ρ h = (k55 b ρ G (evT G a ρ h)) := rfl
def k56  (r : Rv (Bool)) : Rv (Bool) := r.bind fun cb h => .ok (!cb) h
@[simp] theorem k56_o  {cb : Bool} {h : Hd} : k56  (.ok cb h) = .ok (!cb) h := rfl
@[simp] theorem k56_x  {w : Ex} {h : Hd} : k56  (.ex w h) = .ex w h := rfl
@[simp] theorem evT_not {a : ME} {G : EG} {fu : Nat} {ρ : Loc} {h : Hd} : evT G (.not a) ρ h = (k56  (evT G a ρ h)) := rfl
def k57 (a : ME) (b : ME) (ρ : Loc) (G : EG) (h : Hd) (q : Bool) : Rv Bool := ifR q (evT G a ρ h) (evT G b ρ h)
@[simp] theorem k57_t {a : ME} {b : ME} {ρ : Loc} {G : EG} {h : Hd} : k57 a b ρ G h (true) = evT G a ρ h := rfl
@[simp] theorem k57_f {a : ME} {b : ME} {ρ : Loc} {G : EG} {h : Hd} : k57 a b ρ G h (false) = evT G b ρ h := rfl
def k58 (a : ME) (b : ME) (ρ : Loc) (G : EG) (r : Rv (Bool)) : Rv (Bool) := r.bind fun cb h => (k57 a b ρ G h (cb))
@[simp] theorem k58_o {a : ME} {b : ME} {ρ : Loc} {G : EG} {cb : Bool} {h : Hd} : k58 a b ρ G (.ok cb h) = (k57 a b ρ G h (cb)) := rfl
@[simp] theorem k58_x {a : ME} {b : ME} {ρ : Loc} {G : EG} {w : Ex} {h : Hd} : k58 a b ρ G (.ex w h) = .ex w h := rfl
@[simp] theorem evT_ite {t : ME} {a : ME} {b : ME} {G : EG} {fu : Nat} {ρ : Loc} {h : Hd} : evT G (.ite t a b) ρ h = (k58 a b ρ G (evT G t ρ h)) := rfl
def k59 (h : Hd) (r : Option (Bool)) : Rv Bool := optR r fun cb => .ok cb h
@[simp] theorem k59_o {h : Hd} {cb : Bool} : k59 h (some cb) = .ok cb h := rfl
def k60 (co : Co) (x : D) (r : Rv (D)) : Rv (Bool) := r.bind fun y h => (k59 h (opC h co x y))
@[simp] theorem k60_o {co : Co} {x : D} {y : D} {h : Hd} : k60 co x (.ok y h) = (k59 h (opC h co x y)) := rfl
@[simp] theorem k60_x {co : Co} {x : D} {w : Ex} {h : Hd} : k60 co x (.ex w h) = .ex w h := rfl
def k61 (co : Co) (b : ME) (ρ : Loc) (G : EG) (r : Rv (D)) : Rv (Bool) := r.bind fun x h => (k60 co x (evE G b ρ h))
@[simp] theorem k61_o {co : Co} {b : ME} {ρ : Loc} {G : EG} {x : D} {h : Hd} : k61 co b ρ G (.ok x h) = (k60 co x (evE G b ρ h)) := rfl
@[simp] theorem k61_x {co : Co} {b : ME} {ρ : Loc} {G : EG} {w : Ex} {h : Hd} : k61 co b ρ G (.ex w h) = .ex w h := rfl
@[simp] theorem evT_cmp {co : Co} {a : ME} {b : ME} {G : EG} {fu : Nat} {ρ : Loc} {h : Hd} : evT G (.cmp co a b) ρ h = (k61 co b ρ G (evE G a ρ h)) := rfl
def k62 (h : Hd) (r : Option (Bool)) : Rv Bool := optR r fun cb => .ok cb h
@[simp] theorem k62_o {h : Hd} {cb : Bool} : k62 h (some cb) = .ok cb h := rfl
def k63 (cp : Co) (y : D) (r : Rv (D)) : Rv (Bool) := r.bind fun z h => (k62 h (opC h cp y z))
@[simp] theorem k63_o {cp : Co} {y : D} {z : D} {h : Hd} : k63 cp y (.ok z h) = (k62 h (opC h cp y z)) := rfl
@[simp] theorem k63_x {cp : Co} {y : D} {w : Ex} {h : Hd} : k63 cp y (.ex w h) = .ex w h := rfl
def k64 (cp : Co) (c : ME) (ρ : Loc) (G : EG) (y : D) (h : Hd) (q : Option Bool) : Rv Bool := triR q ((k63 cp y (evE G c ρ h))) (.ok false h)
@[simp] theorem k64_t {cp : Co} {c : ME} {ρ : Loc} {G : EG} {y : D} {h : Hd} : k64 cp c ρ G y h (some true) = (k63 cp y (evE G c ρ h)) := rfl
@[simp] theorem k64_f {cp : Co} {c : ME} {ρ : Loc} {G : EG} {y : D} {h : Hd} : k64 cp c ρ G y h (some false) = .ok false h := rfl
def k65 (co : Co) (cp : Co) (c : ME) (ρ : Loc) (G : EG) (x : D) (r : Rv (D)) : Rv (Bool) := r.bind fun y h => (k64 cp c ρ G y h (opC h co x y))
@[simp] theorem k65_o {co : Co} {cp : Co} {c : ME} {ρ : Loc} {G : EG} {x : D} {y : D} {h : Hd} : k65 co cp c ρ G x (.ok y h) = (k64 cp c ρ G y h (opC h co x y)) := rfl
@[simp] theorem k65_x {co : Co} {cp : Co} {c : ME} {ρ : Loc} {G : EG} {x : D} {w : Ex} {h : Hd} : k65 co cp c ρ G x (.ex w h) = .ex w h := rfl
def k66 (co : Co) (cp : Co) (b : ME) (c : ME) (ρ : Loc) (G : EG) (r : Rv (D)) : Rv (Bool) := r.bind fun x h => (k65 co cp c ρ G x (evE G b ρ h))
@[simp] theorem k66_o {co : Co} {cp : Co} {b : ME} {c : ME} {ρ : Loc} {G : EG} {x : D} {h : Hd} : k66 co cp b c ρ G (.ok x h) = (k65 co cp c ρ G x (evE G b ρ h)) := rfl
@[simp] theorem k66_x {co : Co} {cp : Co} {b : ME} {c : ME} {ρ : Loc} {G : EG} {w : Ex} {h : Hd} : k66 co cp b c ρ G (.ex w h) = .ex w h := rfl
@[simp] theorem evT_chn {co : Co} {cp : Co} {a : ME} {b : ME} {c : ME} {G : EG} {fu : Nat} {ρ : Loc} {h : Hd} : evT G (.chn co cp a b c) ρ h = (k66 co cp b c ρ G (evE G a ρ h)) := rfl
def k67 (h : Hd) (r : Option (Bool)) : Rv Bool := optR r fun cb => .ok cb h
@[simp] theorem k67_o {h : Hd} {cb : Bool} : k67 h (some cb) = .ok cb h := rfl
def k68  (r : Rv (D)) : Rv (Bool) := r.bind fun x h => (k67 h (truth h x))
@[simp] theorem k68_o  {x : D} {h : Hd} : k68  (.ok x h) = (k67 h (truth h x)) := rfl
@[simp] theorem k68_x  {w : Ex} {h : Hd} : k68  (.ex w h) = .ex w h := rfl
@[simp] theorem evT_tr {e : ME} {G : EG} {fu : Nat} {ρ : Loc} {h : Hd} : evT G (.tr e) ρ h = (k68  (evE G e ρ h)) := rfl
@[simp] theorem evEs_nl  {G : EG} {fu : Nat} {ρ : Loc} {h : Hd} : evEs G (.nl ) ρ h = .ok [] h := rfl
@[simp] theorem evAs_nl  {G : EG} {fu : Nat} {ρ : Loc} {h : Hd} : evAs G (.nl ) ρ h = .ok [] h := rfl
def k69 (x : D) (r : Rv (List D)) : Rv (List D) := r.bind fun xs h => .ok (x :: xs) h
@[simp] theorem k69_o {x : D} {xs : List D} {h : Hd} : k69 x (.ok xs h) = .ok (x :: xs) h := rfl
@[simp] theorem k69_x {x : D} {w : Ex} {h : Hd} : k69 x (.ex w h) = .ex w h := rfl
def k70 (b : ME) (ρ : Loc) (G : EG) (r : Rv (D)) : Rv (List D) := r.bind fun x h => (k69 x (evEs G b ρ h))
@[simp] theorem k70_o {b : ME} {ρ : Loc} {G : EG} {x : D} {h : Hd} : k70 b ρ G (.ok x h) = (k69 x (evEs G b ρ h)) := rfl
@[simp] theorem k70_x {b : ME} {ρ : Loc} {G : EG} {w : Ex} {h : Hd} : k70 b ρ G (.ex w h) = .ex w h := rfl
@[simp] theorem evEs_cn {a : ME} {b : ME} {G : EG} {fu : Nat} {ρ : Loc} {h : Hd} : evEs G (.cn a b) ρ h = (k70 b ρ G (evE G a ρ h)) := rfl
def k71 (x : D) (r : Rv (List D)) : Rv (List D) := r.bind fun xs h => .ok (x :: xs) h
@[simp] theorem k71_o {x : D} {xs : List D} {h : Hd} : k71 x (.ok xs h) = .ok (x :: xs) h := rfl
@[simp] theorem k71_x {x : D} {w : Ex} {h : Hd} : k71 x (.ex w h) = .ex w h := rfl
def k72 (b : ME) (ρ : Loc) (G : EG) (r : Rv (D)) : Rv (List D) := r.bind fun x h => (k71 x (evAs G b ρ h))
@[simp] theorem k72_o {b : ME} {ρ : Loc} {G : EG} {x : D} {h : Hd} : k72 b ρ G (.ok x h) = (k71 x (evAs G b ρ h)) := rfl
@[simp] theorem k72_x {b : ME} {ρ : Loc} {G : EG} {w : Ex} {h : Hd} : k72 b ρ G (.ex w h) = .ex w h := rfl
@[simp] theorem evAs_cn {a : ME} {b : ME} {G : EG} {fu : Nat} {ρ : Loc} {h : Hd} : evAs G (.cn a b) ρ h = (k72 b ρ G (evA1 G a ρ h)) := rfl
def k73 (k : Nat) (h : Hd) (r : Option (List D)) : Rv D := optR r fun ds => iteR (noXs ds = true) (.ok (.clo k ds) h)
@[simp] theorem k73_o {k : Nat} {h : Hd} {ds : List D} : k73 k h (some ds) = iteR (noXs ds = true) (.ok (.clo k ds) h) := rfl
@[simp] theorem evA1_lam {k : Nat} {js : List Nat} {G : EG} {fu : Nat} {ρ : Loc} {h : Hd} : evA1 G (.lam k js) ρ h = (k73 k h (getLs ρ js)) := rfl
def k74 (h : Hd) (r : Option (D)) : Rv D := optR r fun d => iteR (noX d = true) (.ok d h)
@[simp] theorem k74_o {h : Hd} {d : D} : k74 h (some d) = iteR (noX d = true) (.ok d h) := rfl
@[simp] theorem evA1_va {i : Nat} {G : EG} {fu : Nat} {ρ : Loc} {h : Hd} : evA1 G (.va i) ρ h = (k74 h (getL ρ i)) := rfl
@[simp] theorem evA1_vl {e : ME} {G : EG} {fu : Nat} {ρ : Loc} {h : Hd} : evA1 G (.vl e) ρ h = evE G e ρ h := rfl
@[simp] theorem evO_nl  {G : EG} {fu : Nat} {ρ : Loc} {h : Hd} : evO G (.nl ) ρ h = .ok none h := rfl
def asI_o (x : D) (h : Hd) : Rv (Option Int) := asI x fun i => .ok (some i) h
@[simp] theorem asI_o_o {i : Int} {h : Hd} : asI_o (.int i) h = .ok (some i) h := rfl
def k75  (r : Rv (D)) : Rv (Option Int) := r.bind fun x h => asI_o x h
@[simp] theorem k75_o  {x : D} {h : Hd} : k75  (.ok x h) = asI_o x h := rfl
@[simp] theorem k75_x  {w : Ex} {h : Hd} : k75  (.ex w h) = .ex w h := rfl
@[simp] theorem evO_sm {e : ME} {G : EG} {fu : Nat} {ρ : Loc} {h : Hd} : evO G (.sm e) ρ h = (k75  (evE G e ρ h)) := rfl
def k76 (ds : List D) (h : Hd) (r : Option (List D)) : Rv (List D × List D) := optR r fun xs => .ok (xs, ds) h
@[simp] theorem k76_o {ds : List D} {h : Hd} {xs : List D} : k76 ds h (some xs) = .ok (xs, ds) h := rfl
def k77 (ik : Itk) (r : Rv (List D)) : Rv (List D × List D) := r.bind fun ds h => (k76 ds h (walkD h ik ds))
@[simp] theorem k77_o {ik : Itk} {ds : List D} {h : Hd} : k77 ik (.ok ds h) = (k76 ds h (walkD h ik ds)) := rfl
@[simp] theorem k77_x {ik : Itk} {w : Ex} {h : Hd} : k77 ik (.ex w h) = .ex w h := rfl
@[simp] theorem evI_it1 {ik : Itk} {es : ME} {G : EG} {fu : Nat} {ρ : Loc} {h : Hd} : evI G (.it1 ik es) ρ h = (k77 ik (evEs G es ρ h)) := rfl
def thenS (G : EG) (fu : Nat) (sb : MS) (r : RS) : RS := r.then fun ρ h => evS G fu sb ρ h
section
variable {G : EG} {fu : Nat} {sb hs : MS} {ρ : Loc} {h : Hd}
@[simp] theorem thenS_nx : thenS G fu sb (.nx ρ h) = evS G fu sb ρ h := rfl
@[simp] theorem thenS_rt {d : D} : thenS G fu sb (.rt d h) = .rt d h := rfl
@[simp] theorem thenS_bk : thenS G fu sb (.bk ρ h) = .bk ρ h := rfl
@[simp] theorem thenS_ct : thenS G fu sb (.ct ρ h) = .ct ρ h := rfl
@[simp] theorem thenS_ex {x : Ex} : thenS G fu sb (.ex ρ x h) = .ex ρ x h := rfl
def caughtS (G : EG) (fu : Nat) (hs : MS) (r : RS) : RS := r.caught fun x ρ h => evH G fu hs x ρ h
@[simp] theorem caughtS_ex {x : Ex} : caughtS G fu hs (.ex ρ x h) = evH G fu hs x ρ h := rfl
@[simp] theorem caughtS_nx : caughtS G fu hs (.nx ρ h) = .nx ρ h := rfl
@[simp] theorem caughtS_rt {d : D} : caughtS G fu hs (.rt d h) = .rt d h := rfl
@[simp] theorem caughtS_bk : caughtS G fu hs (.bk ρ h) = .bk ρ h := rfl
@[simp] theorem caughtS_ct : caughtS G fu hs (.ct ρ h) = .ct ρ h := rfl
end
@[simp] theorem evS_skip  {G : EG} {fu : Nat} {ρ : Loc} {h : Hd} : evS G fu (.skip ) ρ h = .nx ρ h := rfl
@[simp] theorem evS_sq {sa : MS} {sb : MS} {G : EG} {fu : Nat} {ρ : Loc} {h : Hd} : evS G fu (.sq sa sb) ρ h = thenS G fu sb (evS G fu sa ρ h) := rfl
def setP (h : Hd) (o : Option Loc) : RS := optS o fun ρ => .nx ρ h
@[simp] theorem setP_o {ρ : Loc} {h : Hd} : setP h (some ρ) = .nx ρ h := rfl
def k79 (p : Pat) (ρ : Loc) (r : Rv (D)) : RS := r.to ρ fun d h => setP h (bindP p d ρ)
@[simp] theorem k79_o {p : Pat} {ρ : Loc} {d : D} {h : Hd} : k79 p ρ (.ok d h) = setP h (bindP p d ρ) := rfl
@[simp] theorem k79_x {p : Pat} {ρ : Loc} {w : Ex} {h : Hd} : k79 p ρ (.ex w h) = .ex ρ w h := rfl
@[simp] theorem evS_set {p : Pat} {e : ME} {G : EG} {fu : Nat} {ρ : Loc} {h : Hd} : evS G fu (.set p e) ρ h = (k79 p ρ (evE G e ρ h)) := rfl
theorem evS_setIx0 {o i e : ME} {G : EG} {fu : Nat} {ρ : Loc} {h : Hd} : evS G fu (.setIx o i e) ρ h = (evE G e ρ h).to ρ fun d h => (evE G o ρ h).to ρ fun x h => (evE G i ρ h).to ρ fun y h => setE ρ h x y d := rfl
def k80 (ρ : Loc) (x : D) (d : D) (r : Rv (D)) : RS := r.to ρ fun y h => setE ρ h x y d
@[simp] theorem k80_o {ρ : Loc} {x : D} {d : D} {y : D} {h : Hd} : k80 ρ x d (.ok y h) = setE ρ h x y d := rfl
@[simp] theorem k80_x {ρ : Loc} {x : D} {d : D} {w : Ex} {h : Hd} : k80 ρ x d (.ex w h) = .ex ρ w h := rfl
def k81 (b : ME) (ρ : Loc) (G : EG) (d : D) (r : Rv (D)) : RS := r.to ρ fun x h => (k80 ρ x d (evE G b ρ h))
@[simp] theorem k81_o {b : ME} {ρ : Loc} {G : EG} {d : D} {x : D} {h : Hd} : k81 b ρ G d (.ok x h) = (k80 ρ x d (evE G b ρ h)) := rfl
@[simp] theorem k81_x {b : ME} {ρ : Loc} {G : EG} {d : D} {w : Ex} {h : Hd} : k81 b ρ G d (.ex w h) = .ex ρ w h := rfl
def k82 (a : ME) (b : ME) (ρ : Loc) (G : EG) (r : Rv (D)) : RS := r.to ρ fun d h => (k81 b ρ G d (evE G a ρ h))
@[simp] theorem k82_o {a : ME} {b : ME} {ρ : Loc} {G : EG} {d : D} {h : Hd} : k82 a b ρ G (.ok d h) = (k81 b ρ G d (evE G a ρ h)) := rfl
@[simp] theorem k82_x {a : ME} {b : ME} {ρ : Loc} {G : EG} {w : Ex} {h : Hd} : k82 a b ρ G (.ex w h) = .ex ρ w h := rfl
@[simp] theorem evS_setIx {a b e : ME} {G : EG} {fu : Nat} {ρ : Loc} {h : Hd} : evS G fu (.setIx a b e) ρ h = (k82 a b ρ G (evE G e ρ h)) := rfl
def k83 (o : Bi) (ρ : Loc) (x : D) (i : Nat) (r : Rv (D)) : RS := r.to ρ fun y h => augE h o x y ρ i
@[simp] theorem k83_o {o : Bi} {ρ : Loc} {x : D} {i : Nat} {y : D} {h : Hd} : k83 o ρ x i (.ok y h) = augE h o x y ρ i := rfl
@[simp] theorem k83_x {o : Bi} {ρ : Loc} {x : D} {i : Nat} {w : Ex} {h : Hd} : k83 o ρ x i (.ex w h) = .ex ρ w h := rfl
def k84 (o : Bi) (e : ME) (ρ : Loc) (G : EG) (i : Nat) (h : Hd) (r : Option (D)) : RS := optS r fun x => iteS (isClo x = false) (k83 o ρ x i (evE G e ρ h))
@[simp] theorem k84_o {o : Bi} {e : ME} {ρ : Loc} {G : EG} {i : Nat} {h : Hd} {x : D} : k84 o e ρ G i h (some x) = iteS (isClo x = false) (k83 o ρ x i (evE G e ρ h)) := rfl
@[simp] theorem evS_aug {i : Nat} {o : Bi} {e : ME} {G : EG} {fu : Nat} {ρ : Loc} {h : Hd} : evS G fu (.aug i o e) ρ h = (k84 o e ρ G i h (getL ρ i)) := rfl
def k85 (ρ : Loc) (r : Rv (D)) : RS := r.to ρ fun d h => .nx ρ h
@[simp] theorem k85_o {ρ : Loc} {d : D} {h : Hd} : k85 ρ (.ok d h) = .nx ρ h := rfl
@[simp] theorem k85_x {ρ : Loc} {w : Ex} {h : Hd} : k85 ρ (.ex w h) = .ex ρ w h := rfl
@[simp] theorem evS_exp {e : ME} {G : EG} {fu : Nat} {ρ : Loc} {h : Hd} : evS G fu (.exp e) ρ h = (k85 ρ (evE G e ρ h)) := rfl
def k86 (ρ : Loc) (r : Rv (D)) : RS := r.to ρ fun d h => .rt d h
@[simp] theorem k86_o {ρ : Loc} {d : D} {h : Hd} : k86 ρ (.ok d h) = .rt d h := rfl
@[simp] theorem k86_x {ρ : Loc} {w : Ex} {h : Hd} : k86 ρ (.ex w h) = .ex ρ w h := rfl
@[simp] theorem evS_ret {e : ME} {G : EG} {fu : Nat} {ρ : Loc} {h : Hd} : evS G fu (.ret e) ρ h = (k86 ρ (evE G e ρ h)) := rfl
@[simp] theorem evS_retn  {G : EG} {fu : Nat} {ρ : Loc} {h : Hd} : evS G fu (.retn ) ρ h = .rt .non h := rfl
def k87 (ρ : Loc) (G : EG) (fu : Nat) (sa : MS) (sb : MS) (h : Hd) (q : Bool) : RS := ifS q (evS G fu sa ρ h) (evS G fu sb ρ h)
@[simp] theorem k87_t {ρ : Loc} {G : EG} {fu : Nat} {sa : MS} {sb : MS} {h : Hd} : k87 ρ G fu sa sb h (true) = evS G fu sa ρ h := rfl
@[simp] theorem k87_f {ρ : Loc} {G : EG} {fu : Nat} {sa : MS} {sb : MS} {h : Hd} : k87 ρ G fu sa sb h (false) = evS G fu sb ρ h := rfl
def k88 (ρ : Loc) (G : EG) (fu : Nat) (sa : MS) (sb : MS) (r : Rv (Bool)) : RS := r.to ρ fun cb h => (k87 ρ G fu sa sb h (cb))
@[simp] theorem k88_o {ρ : Loc} {G : EG} {fu : Nat} {sa : MS} {sb : MS} {cb : Bool} {h : Hd} : k88 ρ G fu sa sb (.ok cb h) = (k87 ρ G fu sa sb h (cb)) := rfl
@[simp] theorem k88_x {ρ : Loc} {G : EG} {fu : Nat} {sa : MS} {sb : MS} {w : Ex} {h : Hd} : k88 ρ G fu sa sb (.ex w h) = .ex ρ w h := rfl
@[simp] theorem evS_ifS {t : ME} {sa : MS} {sb : MS} {G : EG} {fu : Nat} {ρ : Loc} {h : Hd} : evS G fu (.ifS t sa sb) ρ h = (k88 ρ G fu sa sb (evT G t ρ h)) := rfl
def stepF (G : EG) (fu : Nat) (p : Pat) (sb : MS) (d : D) (ρ : Loc) (h : Hd) : RS := optS (bindP p d ρ) fun ρ' => evS G fu sb ρ' h
def stepK (G : EG) (fu : Nat) (sb : MS) (h : Hd) (o : Option Loc) : RS := optS o fun ρ' => evS G fu sb ρ' h
theorem stepF_d {G : EG} {fu : Nat} {p : Pat} {sb : MS} {d : D} {ρ : Loc} {h : Hd} : stepF G fu p sb d ρ h = stepK G fu sb h (bindP p d ρ) := rfl
@[simp] theorem stepK_o {G : EG} {fu : Nat} {sb : MS} {ρ : Loc} {h : Hd} : stepK G fu sb h (some ρ) = evS G fu sb ρ h := rfl
def turnF (step : D → Loc → Hd → RS) (st : Hd → Bool) (ds : List D) (r : RS) : RS := r.turn fun ρ h => forE step st ds ρ h
section
variable {step : D → Loc → Hd → RS} {st : Hd → Bool} {d : D} {ds : List D} {ρ : Loc} {h : Hd}
@[simp] theorem turnF_nx : turnF step st ds (.nx ρ h) = forE step st ds ρ h := rfl
@[simp] theorem turnF_ct : turnF step st ds (.ct ρ h) = forE step st ds ρ h := rfl
@[simp] theorem turnF_bk : turnF step st ds (.bk ρ h) = .nx ρ h := rfl
@[simp] theorem turnF_rt : turnF step st ds (.rt d h) = .rt d h := rfl
@[simp] theorem turnF_ex {x : Ex} : turnF step st ds (.ex ρ x h) = .ex ρ x h := rfl
@[simp] theorem forE_0 : forE step st [] ρ h = iteS (st h = true) (.nx ρ h) := rfl
theorem forE_1 : forE step st (d :: ds) ρ h = iteS (st h = true) (turnF step st ds (step d ρ h)) := rfl
end
def k89 (p : Pat) (ρ : Loc) (G : EG) (fu : Nat) (sb : MS) (r : Rv (List D × List D)) : RS := r.to ρ fun is h => forE (stepF G fu p sb) (staysB h is.2) is.1 ρ h
@[simp] theorem k89_o {p : Pat} {ρ : Loc} {G : EG} {fu : Nat} {sb : MS} {is : List D × List D} {h : Hd} : k89 p ρ G fu sb (.ok is h) = forE (stepF G fu p sb) (staysB h is.2) is.1 ρ h := rfl
@[simp] theorem k89_x {p : Pat} {ρ : Loc} {G : EG} {fu : Nat} {sb : MS} {w : Ex} {h : Hd} : k89 p ρ G fu sb (.ex w h) = .ex ρ w h := rfl
@[simp] theorem evS_forS {p : Pat} {it : ME} {sb : MS} {G : EG} {fu : Nat} {ρ : Loc} {h : Hd} : evS G fu (.forS p it sb) ρ h = (k89 p ρ G fu sb (evI G it ρ h)) := rfl
def raisK (ρ : Loc) (r : Rv D) : RS := r.to ρ fun _ _ => .no
@[simp] theorem raisK_x {ρ : Loc} {x : Ex} {h : Hd} : raisK ρ (.ex x h) = .ex ρ x h := rfl
def k90 (G : EG) (cc : Nat) (r : Rv (List D)) : Rv (D) := r.bind fun ds h => G.nw cc ds h
@[simp] theorem k90_o {G : EG} {cc : Nat} {ds : List D} {h : Hd} : k90 G cc (.ok ds h) = G.nw cc ds h := rfl
@[simp] theorem k90_x {G : EG} {cc : Nat} {w : Ex} {h : Hd} : k90 G cc (.ex w h) = .ex w h := rfl
@[simp] theorem evS_rais {cc : Nat} {es : ME} {G : EG} {fu : Nat} {ρ : Loc} {h : Hd} : evS G fu (.rais cc es) ρ h = raisK ρ (k90 G cc (evEs G es ρ h)) := rfl
@[simp] theorem evS_tryS {sa : MS} {hs : MS} {G : EG} {fu : Nat} {ρ : Loc} {h : Hd} : evS G fu (.tryS sa hs) ρ h = caughtS G fu hs (evS G fu sa ρ h) := rfl
@[simp] theorem evS_brk  {G : EG} {fu : Nat} {ρ : Loc} {h : Hd} : evS G fu (.brk ) ρ h = .bk ρ h := rfl
@[simp] theorem evS_cnt  {G : EG} {fu : Nat} {ρ : Loc} {h : Hd} : evS G fu (.cnt ) ρ h = .ct ρ h := rfl
def frzK (ρ : Loc) (h : Hd) (i : Nat) (x : D) : RS := lstAt h x fun n xs => .nx (ρ.set i (some (.lst xs))) (h.set n .dead)
@[simp] theorem frzK_o {ρ : Loc} {h : Hd} {i n : Nat} {xs : List D} (e : h[n]? = some (.lst xs)) : frzK ρ h i (.ref n) = .nx (ρ.set i (some (.lst xs))) (h.set n .dead) := by
  show (match h[n]? with | some (.lst xs) => _ | _ => RS.no) = _
  rw [e]
def k91 (ρ : Loc) (i : Nat) (h : Hd) (r : Option (D)) : RS := optS r fun x => frzK ρ h i x
@[simp] theorem k91_o {ρ : Loc} {i : Nat} {h : Hd} {x : D} : k91 ρ i h (some x) = frzK ρ h i x := rfl
@[simp] theorem evS_frz {i : Nat} {G : EG} {fu : Nat} {ρ : Loc} {h : Hd} : evS G fu (.frz i) ρ h = (k91 ρ i h (getL ρ i)) := rfl
section
variable {α β : Type} {G : EG} {fu : Nat} {ρ : Loc} {h : Hd}
def fleK (h : Hd) (c j : Nat) (x : D) : Rv D := match x with | .exn c' ds => iteR (c' = c) (optR ds[j]? fun d => .ok d h) | _ => .no
theorem fleK_o {c j : Nat} {ds : List D} {d : D} (e : ds[j]? = some d) : fleK h c j (.exn c ds) = .ok d h := by
  show iteR (c = c) _ = _
  rw [iteR_pos rfl, e]
  rfl
@[simp] theorem fleK_0 {c : Nat} {ds : List D} {d : D} : fleK h c 0 (.exn c (d :: ds)) = .ok d h := fleK_o rfl
@[simp] theorem fleK_1 {c : Nat} {ds : List D} {d e : D} : fleK h c 1 (.exn c (e :: d :: ds)) = .ok d h := fleK_o rfl
def fleO (h : Hd) (c j : Nat) (o : Option D) : Rv D := optR o fun x => fleK h c j x
@[simp] theorem fleO_o {c j : Nat} {x : D} : fleO h c j (some x) = fleK h c j x := rfl
@[simp] theorem evE_fle {i c j : Nat} : evE G (.fle i c j) ρ h = fleO h c j (getL ρ i) := rfl
@[simp] theorem evH_hn {x : Ex} : evH G fu .hn x ρ h = .ex ρ x h := rfl
theorem evH_hcs {c i : Nat} {b r : MS} {x : Ex} (e : x.c = c) : evH G fu (.hc c (some i) b r) x ρ h = iteS (i < ρ.length) ((evS G fu b (ρ.set i (some (.exn x.c x.ds))) h).off i) := if_pos e
theorem evH_hcn {c : Nat} {b r : MS} {x : Ex} (e : x.c = c) : evH G fu (.hc c none b r) x ρ h = (evS G fu b ρ h).calm := if_pos e
theorem evH_ne {c : Nat} {s : Option Nat} {b r : MS} {x : Ex} (e : x.c ≠ c) : evH G fu (.hc c s b r) x ρ h = evH G fu r x ρ h := if_neg e
@[simp] theorem evH_h1 {c i : Nat} {b r : MS} {ds : List D} : evH G fu (.hc c (some i) b r) ⟨c, ds⟩ ρ h = iteS (i < ρ.length) ((evS G fu b (ρ.set i (some (.exn c ds))) h).off i) := if_pos rfl
@[simp] theorem evH_h2 {c : Nat} {b r : MS} {ds : List D} : evH G fu (.hc c none b r) ⟨c, ds⟩ ρ h = (evS G fu b ρ h).calm := if_pos rfl
theorem ev_cf {P : Prg} {n f : Nat} {F : Fn} {ds : List D} (e : P.fns[f]? = some F) (l : ds.length = F.np) : (evN P fu (n + 1)).cf f ds h = (evS (evN P fu n) fu F.body (startL F.nl ds) h).ret := by
  show optR P.fns[f]? _ = _
  rw [e]
  show iteR _ _ = _
  rw [iteR_pos l]
  rfl
theorem ev_cl {P : Prg} {n k : Nat} {L : La} {cs ds : List D} (e : P.las[k]? = some L) (d : L.dfl = []) (l : ds.length = L.np) : (evN P fu (n + 1)).cl k cs ds h = evE (evN P fu n) L.body ((ds ++ cs).map some) h := by
  show optR P.las[k]? _ = _
  rw [e]
  show iteR _ _ = _
  rw [d]
  simp only [List.drop_nil, List.append_nil]
  rw [iteR_pos l]
theorem ev_nw {P : Prg} {n c m : Nat} {ds : List D} (e : P.cls[c]? = some m) (l : ds.length = m) : (evN P fu (n + 1)).nw c ds h = .ex ⟨c, ds⟩ h := by
  show optR P.cls[c]? _ = _
  rw [e]
  show iteR _ _ = _
  rw [iteR_pos l]
theorem ev_gc {P : Prg} {n k : Nat} : (evN P fu n).gc k = P.gc.getD k .non := by cases n <;> rfl
end
section
variable {α β : Type} {G : EG} {fu : Nat} {ρ : Loc} {h : Hd}
@[simp] theorem getL_0 {d : D} {r : Loc} : getL (some d :: r) 0 = some d := rfl
@[simp] theorem getL_s {o : Option D} {r : Loc} {i : Nat} : getL (o :: r) (i + 1) = getL r i := rfl
@[simp] theorem startL_0 {n : Nat} : startL n [] = List.replicate n none := by simp [startL]
@[simp] theorem startL_s {n : Nat} {d : D} {ds : List D} : startL (n + 1) (d :: ds) = some d :: startL n ds := by simp [startL]
@[simp] theorem iI {i : Int} : isClo (.int i) = false := rfl
@[simp] theorem iB {b : Bool} : isClo (.bl b) = false := rfl
@[simp] theorem iN : isClo .non = false := rfl
@[simp] theorem iS {s : List Nat} : isClo (.str s) = false := rfl
@[simp] theorem iT {s : List D} : isClo (.tup s) = false := rfl
@[simp] theorem iL {s : List D} : isClo (.lst s) = false := rfl
@[simp] theorem iR {s : Nat} : isClo (.ref s) = false := rfl
@[simp] theorem iG {s : Nat} : isClo (.glo s) = false := rfl
@[simp] theorem iC {k : Nat} {s : List D} : isClo (.clo k s) = true := rfl
@[simp] theorem iX {k : Nat} {s : List D} : isClo (.exn k s) = true := rfl
@[simp] theorem nI {i : Int} : noX (.int i) = true := rfl
@[simp] theorem nB {b : Bool} : noX (.bl b) = true := rfl
@[simp] theorem nN : noX .non = true := rfl
@[simp] theorem nS {s : List Nat} : noX (.str s) = true := rfl
@[simp] theorem nT {s : List D} : noX (.tup s) = true := rfl
@[simp] theorem nL {s : List D} : noX (.lst s) = true := rfl
@[simp] theorem nR {s : Nat} : noX (.ref s) = true := rfl
@[simp] theorem nG {s : Nat} : noX (.glo s) = true := rfl
@[simp] theorem nC {k : Nat} {s : List D} : noX (.clo k s) = noXs s := rfl
@[simp] theorem nXs0 : noXs [] = true := rfl
@[simp] theorem nXs1 {d : D} {s : List D} : noXs (d :: s) = (noX d && noXs s) := rfl
@[simp] theorem getLs_0 : getLs ρ [] = some [] := rfl
@[simp] theorem getLs_1 {i : Nat} {is : List Nat} : getLs ρ (i :: is) = (getL ρ i).bind fun d => (getLs ρ is).map fun ds => d :: ds := by
  show (match getL ρ i, getLs ρ is with | some d, some ds => some (d :: ds) | _, _ => none) = _
  cases getL ρ i with
  | none => cases getLs ρ is <;> rfl
  | some d => cases getLs ρ is <;> rfl
@[simp] theorem bindP_nm {i : Nat} {d : D} : bindP (.nm i) d ρ = if i < ρ.length then some (ρ.set i (some d)) else none := rfl
@[simp] theorem bindP_tt {ps : Pat} {ds : List D} : bindP (.tp ps) (.tup ds) ρ = bindPs ps ds ρ := rfl
@[simp] theorem bindP_tl {ps : Pat} {ds : List D} : bindP (.tp ps) (.lst ds) ρ = bindPs ps ds ρ := rfl
@[simp] theorem bindPs_0 : bindPs .nl [] ρ = some ρ := rfl
@[simp] theorem bindPs_1 {p r : Pat} {d : D} {ds : List D} : bindPs (.cn p r) (d :: ds) ρ = (bindP p d ρ).bind fun ρ' => bindPs r ds ρ' := by
  show (match bindP p d ρ with | some ρ' => bindPs r ds ρ' | none => none) = _
  cases bindP p d ρ <;> rfl
@[simp] theorem wipe_0 : wipeL ρ [] = ρ := rfl
@[simp] theorem wipe_1 {i : Nat} {is : List Nat} : wipeL ρ (i :: is) = (wipeL ρ is).set i none := rfl
@[simp] theorem noClo_0 : noClo [] = [] := rfl
@[simp] theorem noClo_n {r : Loc} : noClo (none :: r) = none :: noClo r := rfl
@[simp] theorem noClo_s {d : D} {r : Loc} : noClo (some d :: r) = (if isClo d = true then none else some d) :: noClo r := rfl
@[simp] theorem stays_0 {h' : Hd} : staysB h [] h' = true := rfl

@[simp] theorem stays_non {ds : List D} {h' : Hd} : staysB h (.non  :: ds) h' = staysB h ds h' := rfl
@[simp] theorem stays_bl {b : Bool} {ds : List D} {h' : Hd} : staysB h (.bl b :: ds) h' = staysB h ds h' := rfl
@[simp] theorem stays_int {i : Int} {ds : List D} {h' : Hd} : staysB h (.int i :: ds) h' = staysB h ds h' := rfl
@[simp] theorem stays_str {s : List Nat} {ds : List D} {h' : Hd} : staysB h (.str s :: ds) h' = staysB h ds h' := rfl
@[simp] theorem stays_tup {l : List D} {ds : List D} {h' : Hd} : staysB h (.tup l :: ds) h' = staysB h ds h' := rfl
@[simp] theorem stays_lst {l : List D} {ds : List D} {h' : Hd} : staysB h (.lst l :: ds) h' = staysB h ds h' := rfl
@[simp] theorem stays_glo {k : Nat} {ds : List D} {h' : Hd} : staysB h (.glo k :: ds) h' = staysB h ds h' := rfl
/-! ### operations -/
@[simp] theorem op_add {i j : Int} : opB h .add (.int i) (.int j) = some (.int (i + j)) := rfl
@[simp] theorem op_sub {i j : Int} : opB h .sub (.int i) (.int j) = some (.int (i - j)) := rfl
theorem op_mul {i j : Int} (e : mulOk i j = true) : opB h .mul (.int i) (.int j) = some (.int (i * j)) := by
  show (if mulOk i j = true then _ else _) = _
  rw [if_pos e]
theorem op_div {i j : Int} (e : divOk j = true) : opB h .div (.int i) (.int j) = some (.int (i.fdiv j)) := by
  show (if divOk j = true then _ else _) = _
  rw [if_pos e]
theorem op_mod {i j : Int} (e : j ≠ 0) : opB h .mod (.int i) (.int j) = some (.int (i.fmod j)) := by
  show (if j ≠ 0 then _ else _) = _
  rw [if_pos e]
@[simp] theorem op_addl {x y : List D} (e : x.length + y.length ≤ sizeMax) : opB h .add (.lst x) (.lst y) = some (.lst (x ++ y)) := by
  show (if x.length + y.length ≤ sizeMax then _ else _) = _
  rw [if_pos e]
@[simp] theorem op_addt {x y : List D} (e : x.length + y.length ≤ sizeMax) : opB h .add (.tup x) (.tup y) = some (.tup (x ++ y)) := by
  show (if x.length + y.length ≤ sizeMax then _ else _) = _
  rw [if_pos e]
theorem eqC_int {i j : Int} : eqC (.int i) (.int j) = some (decide (i = j)) := by
  show (if (deepOk (.int i) && deepOk (.int j)) || strSide (.int i) (.int j) then some (eqD (.int i) (.int j)) else none) = _
  rw [show deepOk (.int i) = true from rfl, show deepOk (.int j) = true from rfl]
  show some (i == j) = _
  rfl
@[simp] theorem oc_eq {i j : Int} : opC h .eq (.int i) (.int j) = some (decide (i = j)) := eqC_int
@[simp] theorem oc_ne {i j : Int} : opC h .ne (.int i) (.int j) = some (!decide (i = j)) := by
  show (eqC (.int i) (.int j)).map not = _
  rw [eqC_int]
  rfl
@[simp] theorem oc_lt {i j : Int} : opC h .lt (.int i) (.int j) = some (decide (i < j)) := rfl
@[simp] theorem oc_le {i j : Int} : opC h .le (.int i) (.int j) = some (decide (i ≤ j)) := rfl
@[simp] theorem oc_gt {i j : Int} : opC h .gt (.int i) (.int j) = some (decide (j < i)) := rfl
@[simp] theorem oc_ge {i j : Int} : opC h .ge (.int i) (.int j) = some (decide (j ≤ i)) := rfl
@[simp] theorem oc_is {x y : D} : opC h .is x y = (match y with | .non => isNon x | .bl b => isBl b x | _ => none) := by cases y <;> rfl
@[simp] theorem oc_isnot {x y : D} : opC h .isnot x y = (match y with | .non => (isNon x).map not | .bl b => (isBl b x).map not | _ => none) := by cases y <;> rfl
@[simp] theorem tr_bl {b : Bool} : truth h (.bl b) = some b := rfl
@[simp] theorem tr_int {i : Int} : truth h (.int i) = some (i != 0) := rfl
@[simp] theorem tr_non : truth h .non = some false := rfl
@[simp] theorem tr_tup {l : List D} : truth h (.tup l) = some (!l.isEmpty) := rfl
@[simp] theorem tr_lst {l : List D} : truth h (.lst l) = some (!l.isEmpty) := rfl
@[simp] theorem seq_l {l : List D} : seqOf h (.lst l) = some l := rfl
@[simp] theorem seq_t {l : List D} : seqOf h (.tup l) = some l := rfl
@[simp] theorem isNon_n : isNon .non = some true := rfl
@[simp] theorem isNon_b {b : Bool} : isNon (.bl b) = some false := rfl
@[simp] theorem isNon_i {b : Int} : isNon (.int b) = some false := rfl
@[simp] theorem isNon_s {b : List Nat} : isNon (.str b) = some false := rfl
@[simp] theorem isNon_t {b : List D} : isNon (.tup b) = some false := rfl
@[simp] theorem isNon_l {b : List D} : isNon (.lst b) = some false := rfl
@[simp] theorem isNon_r {b : Nat} : isNon (.ref b) = some false := rfl
@[simp] theorem isBl_n {c : Bool} : isBl c .non = some false := rfl
@[simp] theorem isBl_b {b c : Bool} : isBl c (.bl b) = some (b == c) := rfl
@[simp] theorem isBl_i {c : Bool} {b : Int} : isBl c (.int b) = some false := rfl
@[simp] theorem isBl_s {c : Bool} {b : List Nat} : isBl c (.str b) = some false := rfl
@[simp] theorem isBl_t {c : Bool} {b : List D} : isBl c (.tup b) = some false := rfl
@[simp] theorem isBl_l {c : Bool} {b : List D} : isBl c (.lst b) = some false := rfl
@[simp] theorem isBl_r {c : Bool} {b : Nat} : isBl c (.ref b) = some false := rfl
theorem ixD_tup {l : List D} {k : Int} {j : Nat} {d : D} (e : ixAt l.length k = some j) (g : l[j]? = some d) : ixD h (.tup l) (.int k) = some d := by
  show ((ixAt l.length k).bind fun j => l[j]?) = _
  rw [e]
  exact g
theorem ixD_lst {l : List D} {k : Int} {j : Nat} {d : D} (e : ixAt l.length k = some j) (g : l[j]? = some d) : ixD h (.lst l) (.int k) = some d := by
  show ((ixAt l.length k).bind fun j => l[j]?) = _
  rw [e]
  exact g
@[simp] theorem ix0t {d : D} {l : List D} : ixD h (.tup (d :: l)) (.int 0) = some d := ixD_tup (j := 0) (by simp [ixAt]) rfl
@[simp] theorem ix1t {a d : D} {l : List D} : ixD h (.tup (a :: d :: l)) (.int 1) = some d := ixD_tup (j := 1) (by simp [ixAt]; omega) rfl
@[simp] theorem ix2t {a b d : D} {l : List D} : ixD h (.tup (a :: b :: d :: l)) (.int 2) = some d := ixD_tup (j := 2) (by simp [ixAt]; omega) rfl
@[simp] theorem ix0l {d : D} {l : List D} : ixD h (.lst (d :: l)) (.int 0) = some d := ixD_lst (j := 0) (by simp [ixAt]) rfl
@[simp] theorem ix1l {a d : D} {l : List D} : ixD h (.lst (a :: d :: l)) (.int 1) = some d := ixD_lst (j := 1) (by simp [ixAt]; omega) rfl
@[simp] theorem ix2l {a b d : D} {l : List D} : ixD h (.lst (a :: b :: d :: l)) (.int 2) = some d := ixD_lst (j := 2) (by simp [ixAt]; omega) rfl
theorem ixD_ref {n : Nat} {l : List D} {k : Int} {j : Nat} {d : D} (q : h[n]? = some (.lst l)) (e : ixAt l.length k = some j) (g : l[j]? = some d) : ixD h (.ref n) (.int k) = some d := by
  show (match seqOf h (.ref n) with | some ds => (ixAt ds.length k).bind fun j => ds[j]? | none => none) = _
  have : seqOf h (.ref n) = some l := by
    show (match h[n]? with | some (.lst ds) => some ds | some (.rol ds) => some ds | _ => none) = _
    rw [q]
  rw [this]
  show ((ixAt l.length k).bind fun j => l[j]?) = _
  rw [e]
  exact g
@[simp] theorem ix0r {n : Nat} {d : D} {l : List D} (q : h[n]? = some (.lst (d :: l))) : ixD h (.ref n) (.int 0) = some d := ixD_ref (j := 0) q (by simp [ixAt]) rfl
@[simp] theorem ix1r {n : Nat} {a d : D} {l : List D} (q : h[n]? = some (.lst (a :: d :: l))) : ixD h (.ref n) (.int 1) = some d := ixD_ref (j := 1) q (by simp [ixAt]; omega) rfl
@[simp] theorem is_0 {d : D} : isAny h d [] = some false := rfl
@[simp] theorem is_1 {d : D} {t : Ty} {ts : List Ty} : isAny h d (t :: ts) = (match isTy h d t with | some true => some true | some false => isAny h d ts | none => none) := rfl
@[simp] theorem lenD_t {l : List D} : lenD h (.tup l) = some l.length := rfl
@[simp] theorem lenD_l {l : List D} : lenD h (.lst l) = some l.length := rfl
@[simp] theorem bf_len {x : D} : bfD h .len [x] = (lenD h x).map fun (n : Nat) => D.int (n : Int) := rfl
@[simp] theorem bf_abs {i : Int} : bfD h .abs [.int i] = some (.int (if i < 0 then -i else i)) := rfl
@[simp] theorem bf_inti {i : Int} : bfD h .int [.int i] = some (.int i) := rfl
@[simp] theorem bf_intb {b : Bool} : bfD h .int [.bl b] = some (.int (b2i b)) := rfl
@[simp] theorem bf_gcd {i j : Int} : bfD h .gcd [.int i, .int j] = some (.int (Nat.gcd i.natAbs j.natAbs)) := rfl
@[simp] theorem bf_max2 {i j : Int} : bfD h .max [.int i, .int j] = some (.int (if i < j then j else i)) := rfl
@[simp] theorem bf_maxt2 {i j : Int} : bfD h .max [.tup [.int i, .int j]] = some (.int (if i < j then j else i)) := by
  show some (D.int (mxI i [j])) = _
  unfold mxI mxI
  rfl
@[simp] theorem bf_all {l : List D} : bfD h .all [.lst l] = (allBl l).map fun bs => .bl (bs.all id) := rfl
@[simp] theorem bf_tuple {x : D} : bfD h .tuple [x] = (seqOf h x).map .tup := rfl
@[simp] theorem bf_list {x : D} : bfD h .list [x] = (seqOf h x).map .lst := rfl
@[simp] theorem wk_val {x : D} : walkD h .val [x] = walkV h x := rfl
@[simp] theorem wk_vt {l : List D} : walkV h (.tup l) = some l := rfl
@[simp] theorem wk_vl {l : List D} : walkV h (.lst l) = some l := rfl
@[simp] theorem wk_vs {l : List Nat} : walkV h (.str l) = some (l.map fun c => .str [c]) := rfl
@[simp] theorem wk_enum {x : D} : walkD h .enum [x] = (walkV h x).map (enumD 0) := rfl
@[simp] theorem wk_zipt {x y : List D} : walkD h .zip [.tup x, .tup y] = some (zipD x y) := rfl
@[simp] theorem wk_zipl {x y : List D} : walkD h .zip [.lst x, .lst y] = some (zipD x y) := rfl
theorem wk_rng {j : Int} (e : smallR j = true) : walkD h .range [.int j] = some (rangeD 0 j.toNat) := by
  show (if smallR j = true then _ else _) = _
  rw [if_pos e]

end
end Mi
set_option linter.all false
set_option maxRecDepth 100000
set_option maxHeartbeats 1000000
/-! Fr: fractions of the program as Rat; how many bits their numbers have. Our own. -/
namespace Mi
/-- the bits of a fraction's numbers -/
def bt (q : Rat) : Nat := max q.num.natAbs.log2 q.den.log2 + 1
theorem lt_pow (n : Nat) : n < 2 ^ (n.log2 + 1) := by
  by_cases h : n = 0
  · subst h; decide
  · exact (Nat.log2_lt h).mp (Nat.lt_succ_self _)
theorem log2_le_of {n b : Nat} (h : n < 2 ^ (b + 1)) : n.log2 ≤ b := by
  by_cases e : n = 0
  · subst e
    have : Nat.log2 0 = 0 := by decide
    omega
  · exact Nat.le_of_lt_succ ((Nat.log2_lt e).mpr h)
theorem num_lt (q : Rat) : q.num.natAbs < 2 ^ bt q := Nat.lt_of_lt_of_le (lt_pow _) (Nat.pow_le_pow_right (by decide) (by unfold bt; omega))
theorem den_lt (q : Rat) : q.den < 2 ^ bt q := Nat.lt_of_lt_of_le (lt_pow _) (Nat.pow_le_pow_right (by decide) (by unfold bt; omega))
theorem bt_pos (q : Rat) : 1 ≤ bt q := by unfold bt; omega
theorem bt_of {q : Rat} {b : Nat} (h1 : q.num.natAbs < 2 ^ b) (h2 : q.den < 2 ^ b) (hb : 1 ≤ b) : bt q ≤ b := by
  obtain ⟨c, rfl⟩ : ∃ c, b = c + 1 := ⟨b - 1, by omega⟩
  have e1 := log2_le_of h1
  have e2 := log2_le_of h2
  unfold bt
  omega
/-- a fraction of two integers has at most their bits -/
theorem divInt_num_le (u l : Int) (hl : l ≠ 0) : (Rat.divInt u l).num.natAbs ≤ u.natAbs ∧ (Rat.divInt u l).den ≤ l.natAbs := by
  constructor
  · rw [Rat.num_divInt]
    have h1 : (l.sign * u / (l.gcd u : Int)).natAbs ≤ (l.sign * u).natAbs := by
      have := Int.natAbs_ediv_le_natAbs (l.sign * u) (l.gcd u : Int)
      exact this
    refine Nat.le_trans h1 ?_
    rw [Int.natAbs_mul]
    have : l.sign.natAbs ≤ 1 := by
      rcases Int.lt_trichotomy l 0 with h | h | h
      · rw [Int.sign_eq_neg_one_of_neg h]; decide
      · exact absurd h hl
      · rw [Int.sign_eq_one_of_pos h]; decide
    calc l.sign.natAbs * u.natAbs ≤ 1 * u.natAbs := Nat.mul_le_mul_right _ this
      _ = u.natAbs := Nat.one_mul _
  · rw [Rat.den_divInt, if_neg hl]
    exact Nat.div_le_self _ _
theorem bt_divInt {u l : Int} {b : Nat} (hl : l ≠ 0) (h1 : u.natAbs < 2 ^ b) (h2 : l.natAbs < 2 ^ b) (hb : 1 ≤ b) : bt (Rat.divInt u l) ≤ b := by
  obtain ⟨a1, a2⟩ := divInt_num_le u l hl
  exact bt_of (by omega) (by omega) hb
theorem natAbs_mul_lt {i j : Int} {a b : Nat} (h1 : i.natAbs < 2 ^ a) (h2 : j.natAbs < 2 ^ b) : (i * j).natAbs < 2 ^ (a + b) := by
  rw [Int.natAbs_mul, Nat.pow_add]
  exact Nat.mul_lt_mul_of_lt_of_le h1 (Nat.le_of_lt h2) (Nat.lt_of_le_of_lt (Nat.zero_le _) h2)
theorem natAbs_add_lt {i j : Int} {a : Nat} (h1 : i.natAbs < 2 ^ a) (h2 : j.natAbs < 2 ^ a) : (i + j).natAbs < 2 ^ (a + 1) := by
  rw [Nat.pow_succ]; omega
theorem natAbs_sub_lt {i j : Int} {a : Nat} (h1 : i.natAbs < 2 ^ a) (h2 : j.natAbs < 2 ^ a) : (i - j).natAbs < 2 ^ (a + 1) := by
  rw [Nat.pow_succ]; omega
theorem den_ne (q : Rat) : (q.den : Int) ≠ 0 := by have := q.den_pos; omega
theorem eq_divInt (q : Rat) : q = Rat.divInt q.num q.den := (Rat.num_divInt_den q).symm
theorem denZ_lt (q : Rat) : (q.den : Int).natAbs < 2 ^ bt q := by rw [Int.natAbs_natCast]; exact den_lt q
theorem add_eq (p q : Rat) : p + q = Rat.divInt (p.num * q.den + q.num * p.den) (p.den * q.den) := by
  rw [eq_divInt p, eq_divInt q, Rat.divInt_add_divInt _ _ (den_ne p) (den_ne q), ← eq_divInt p, ← eq_divInt q]
theorem sub_eq (p q : Rat) : p - q = Rat.divInt (p.num * q.den - q.num * p.den) (p.den * q.den) := by
  rw [eq_divInt p, eq_divInt q, Rat.divInt_sub_divInt _ _ (den_ne p) (den_ne q), ← eq_divInt p, ← eq_divInt q]
theorem mul_eq (p q : Rat) : p * q = Rat.divInt (p.num * q.num) (p.den * q.den) := by
  rw [eq_divInt p, eq_divInt q, Rat.divInt_mul_divInt, ← eq_divInt p, ← eq_divInt q]
theorem div_eq (p q : Rat) : p / q = Rat.divInt (p.num * q.den) (p.den * q.num) := by
  rw [Rat.div_def, eq_divInt p, eq_divInt q, Rat.inv_divInt, Rat.divInt_mul_divInt, ← eq_divInt p, ← eq_divInt q]
theorem num_ne {q : Rat} (h : q ≠ 0) : q.num ≠ 0 := fun e => h (Rat.num_eq_zero.mp e)
theorem mul_ne {i j : Int} (h1 : i ≠ 0) (h2 : j ≠ 0) : i * j ≠ 0 := Int.mul_ne_zero h1 h2
theorem bt_add (p q : Rat) : bt (p + q) ≤ bt p + bt q + 1 := by
  rw [add_eq]
  refine bt_divInt (mul_ne (den_ne p) (den_ne q)) (natAbs_add_lt (natAbs_mul_lt (num_lt p) (denZ_lt q)) (by rw [Nat.add_comm (bt p)]; exact natAbs_mul_lt (num_lt q) (denZ_lt p))) ?_ (by omega)
  exact Nat.lt_of_lt_of_le (natAbs_mul_lt (denZ_lt p) (denZ_lt q)) (Nat.pow_le_pow_right (by decide) (by omega))
theorem bt_sub (p q : Rat) : bt (p - q) ≤ bt p + bt q + 1 := by
  rw [sub_eq]
  refine bt_divInt (mul_ne (den_ne p) (den_ne q)) (natAbs_sub_lt (natAbs_mul_lt (num_lt p) (denZ_lt q)) (by rw [Nat.add_comm (bt p)]; exact natAbs_mul_lt (num_lt q) (denZ_lt p))) ?_ (by omega)
  exact Nat.lt_of_lt_of_le (natAbs_mul_lt (denZ_lt p) (denZ_lt q)) (Nat.pow_le_pow_right (by decide) (by omega))
theorem bt_mul (p q : Rat) : bt (p * q) ≤ bt p + bt q := by
  rw [mul_eq]
  have := bt_pos p
  exact bt_divInt (mul_ne (den_ne p) (den_ne q)) (natAbs_mul_lt (num_lt p) (num_lt q)) (natAbs_mul_lt (denZ_lt p) (denZ_lt q)) (by omega)
theorem bt_zero : bt 0 = 1 := by decide
theorem bt_div (p q : Rat) : bt (p / q) ≤ bt p + bt q := by
  have := bt_pos p
  have := bt_pos q
  by_cases h : q = 0
  · subst h
    have : p / 0 = 0 := by rw [Rat.div_def]; simp
    rw [this, bt_zero]
    omega
  · rw [div_eq]
    exact bt_divInt (mul_ne (den_ne p) (num_ne h)) (natAbs_mul_lt (num_lt p) (denZ_lt q)) (natAbs_mul_lt (denZ_lt p) (num_lt q)) (by omega)
/-! ### operations of the run on such numbers -/
theorem mulOk_of {i j : Int} {a b : Nat} (h1 : i.natAbs < 2 ^ a) (h2 : j.natAbs < 2 ^ b) (h : a + b ≤ 1000000) : mulOk i j = true := by
  unfold mulOk
  have l1 : i.natAbs.log2 ≤ a := by
    by_cases e : i.natAbs = 0
    · rw [e]; have : Nat.log2 0 = 0 := by decide
      omega
    · exact Nat.le_of_lt ((Nat.log2_lt e).mpr h1)
  have l2 : j.natAbs.log2 ≤ b := by
    by_cases e : j.natAbs = 0
    · rw [e]; have : Nat.log2 0 = 0 := by decide
      omega
    · exact Nat.le_of_lt ((Nat.log2_lt e).mpr h2)
  by_cases q : a + b < 1000000
  · have : i.natAbs.log2 + j.natAbs.log2 < 1000000 := by omega
    simp [this]
  · by_cases e : i.natAbs < 18446744073709551616
    · simp [e]
    · have hi : i.natAbs ≠ 0 := by omega
      have : i.natAbs.log2 < a := (Nat.log2_lt hi).mpr h1
      have : i.natAbs.log2 + j.natAbs.log2 < 1000000 := by omega
      simp [this]
theorem mulS {i j : Int} (h : i.natAbs < 18446744073709551616) : mulOk i j = true := by simp [mulOk, h]
theorem mulS' {i j : Int} (h : j.natAbs < 18446744073709551616) : mulOk i j = true := by simp [mulOk, h]
theorem divOk_of {j : Int} {b : Nat} (h0 : 0 < j) (h : j.natAbs < 2 ^ b) (hb : b ≤ 9000) : divOk j = true := by
  unfold divOk
  have : j.natAbs.log2 < b := (Nat.log2_lt (by omega)).mpr h
  have : j.natAbs.log2 < 9000 := by omega
  simp [h0, this]
/-- a fraction -/
def fq (q : Rat) : D := .tup [.int q.num, .int q.den]
section
variable {h : Hd} {q p : Rat}
@[simp] theorem fq_clo : isClo (fq q) = false := rfl
@[simp] theorem fq_noX : noX (fq q) = true := rfl
@[simp] theorem fq_0 : ixD h (fq q) (.int 0) = some (.int q.num) := ix0t
@[simp] theorem fq_1 : ixD h (fq q) (.int 1) = some (.int q.den) := ix1t
@[simp] theorem fq_len : lenD h (fq q) = some 2 := rfl
@[simp] theorem fq_tup : isTy h (fq q) .tup = some true := rfl
@[simp] theorem fq_non : isNon (fq q) = some false := rfl
@[simp] theorem fq_bl {b : Bool} : isBl b (fq q) = some false := rfl
@[simp] theorem fq_stays {ds : List D} {h' : Hd} : staysB h (fq q :: ds) h' = staysB h ds h' := rfl
theorem fq_inj : fq p = fq q ↔ p = q := by
  constructor
  · intro e
    have e1 : D.int p.num = .int q.num ∧ D.int p.den = .int q.den := by
      have := D.tup.inj e
      simpa using this
    exact Rat.ext (D.int.inj e1.1) (by have := D.int.inj e1.2; omega)
  · intro e; rw [e]
theorem eqC_fq : eqC (fq p) (fq q) = some (decide (p = q)) := by
  show (if (deepOk (fq p) && deepOk (fq q)) || strSide (fq p) (fq q) then some (eqD (fq p) (fq q)) else none) = _
  rw [show deepOk (fq p) = true from rfl, show deepOk (fq q) = true from rfl]
  show some (p.num == q.num && ((p.den : Int) == (q.den : Int) && true)) = _
  congr 1
  rw [Bool.eq_iff_iff]
  simp only [Bool.and_eq_true, beq_iff_eq, decide_eq_true_eq, and_true]
  constructor
  · rintro ⟨a, b⟩
    exact Rat.ext a (by omega)
  · rintro rfl
    exact ⟨rfl, rfl⟩
@[simp] theorem fq_eq : opC h .eq (fq p) (fq q) = some (decide (p = q)) := eqC_fq
@[simp] theorem fq_ne : opC h .ne (fq p) (fq q) = some (!decide (p = q)) := by
  show (eqC (fq p) (fq q)).map not = _
  rw [eqC_fq]
  rfl
end
theorem fdiv_pos {a g : Int} (h : 0 < g) : a.fdiv g = a / g := Int.fdiv_eq_ediv_of_nonneg a (Int.le_of_lt h)
theorem fr_val {u l : Int} (hl : 0 < l) : D.tup [.int (u.fdiv (Nat.gcd u.natAbs l.natAbs : Nat)), .int (l.fdiv (Nat.gcd u.natAbs l.natAbs : Nat))] = fq (Rat.divInt u l) := by
  have hg : 0 < Nat.gcd u.natAbs l.natAbs := Nat.gcd_pos_of_pos_right _ (by omega)
  have hgz : (0 : Int) < (Nat.gcd u.natAbs l.natAbs : Nat) := by omega
  rw [fdiv_pos hgz, fdiv_pos hgz]
  unfold fq
  rw [Rat.num_divInt, Rat.den_divInt, if_neg (by omega), Int.sign_eq_one_of_pos hl, Int.one_mul]
  have e : l.gcd u = Nat.gcd u.natAbs l.natAbs := by rw [Int.gcd, Nat.gcd_comm]
  rw [e]
  congr 3
  have : (l.natAbs : Int) = l := by omega
  rw [Int.natCast_ediv, this]
theorem mk_fq {u l : Int} (hl : l ≠ 0) : fq (Rat.divInt u l) = .tup [.int (l.sign * u / (l.gcd u : Int)), .int ((l.natAbs / l.gcd u : Nat) : Int)] := by
  unfold fq
  rw [Rat.num_divInt, Rat.den_divInt, if_neg hl]
end Mi
set_option maxHeartbeats 4000000
set_option linter.all false
set_option maxRecDepth 100000
/-! Lb: bodies of defs that many laws share. Printed by genlb.py. -/
namespace Mi
def b_divided (a0 : Nat) : MS := (.sq (.ret (.call a0 (.cn (.vl (.bin .mul (.ix (.v 0) (.c (.int 0))) (.ix (.v 1) (.c (.int 1))))) (.cn (.vl (.bin .mul (.ix (.v 0) (.c (.int 1))) (.ix (.v 1) (.c (.int 0))))) .nl)))) .skip)
def b_multiplied (a0 : Nat) : MS := (.sq (.ret (.call a0 (.cn (.vl (.bin .mul (.ix (.v 0) (.c (.int 0))) (.ix (.v 1) (.c (.int 0))))) (.cn (.vl (.bin .mul (.ix (.v 0) (.c (.int 1))) (.ix (.v 1) (.c (.int 1))))) .nl)))) .skip)
def b_added (a0 : Nat) : MS := (.sq (.ret (.call a0 (.cn (.vl (.bin .add (.bin .mul (.ix (.v 0) (.c (.int 0))) (.ix (.v 1) (.c (.int 1)))) (.bin .mul (.ix (.v 1) (.c (.int 0))) (.ix (.v 0) (.c (.int 1)))))) (.cn (.vl (.bin .mul (.ix (.v 0) (.c (.int 1))) (.ix (.v 1) (.c (.int 1))))) .nl)))) .skip)
def b_lessened (a0 : Nat) : MS := (.sq (.ret (.call a0 (.cn (.vl (.bin .sub (.bin .mul (.ix (.v 0) (.c (.int 0))) (.ix (.v 1) (.c (.int 1)))) (.bin .mul (.ix (.v 1) (.c (.int 0))) (.ix (.v 0) (.c (.int 1)))))) (.cn (.vl (.bin .mul (.ix (.v 0) (.c (.int 1))) (.ix (.v 1) (.c (.int 1))))) .nl)))) .skip)
def b_is_integer : MS := (.sq (.ret (.and (.isa (.v 0) [.int]) (.not (.isa (.v 0) [.bool])))) .skip)
def b_lesser : MS := (.sq (.ret (.cmp .lt (.bin .mul (.ix (.v 0) (.c (.int 0))) (.ix (.v 1) (.c (.int 1)))) (.bin .mul (.ix (.v 1) (.c (.int 0))) (.ix (.v 0) (.c (.int 1)))))) .skip)
def b_is_broad (a0 a1 : Nat) : MS := (.sq (.ret (.call a0 (.cn (.va 0) (.cn (.vl (.g a1)) .nl)))) .skip)
def b_fr : MS := (.sq (.set (.nm 2) (.bf .gcd (.cn (.v 0) (.cn (.v 1) .nl)))) (.sq (.ifS (.cmp .lt (.v 1) (.c (.int 0))) (.sq (.set (.nm 2) (.neg (.v 2))) .skip) .skip) (.sq (.ret (.tup (.cn (.bin .div (.v 0) (.v 2)) (.cn (.bin .div (.v 1) (.v 2)) .nl)))) .skip)))
def b__law_pick (a0 : Nat) : MS := (.sq (.ret (.ix (.v 1) (.call a0 (.cn (.va 0) (.cn (.vl (.bf .len (.cn (.v 1) .nl))) .nl))))) .skip)
def b_is_frac (a0 a1 : Nat) : MS := (.sq (.ifS (.or (.not (.tr (.call a0 (.cn (.va 0) (.cn (.vl (.c (.int 2))) .nl))))) (.or (.not (.tr (.call a1 (.cn (.vl (.ix (.v 0) (.c (.int 0)))) .nl)))) (.not (.tr (.call a1 (.cn (.vl (.ix (.v 0) (.c (.int 1)))) .nl)))))) (.sq (.ret (.c (.bl false))) .skip) .skip) (.sq (.ret (.and (.cmp .gt (.ix (.v 0) (.c (.int 1))) (.c (.int 0))) (.cmp .eq (.bf .gcd (.cn (.ix (.v 0) (.c (.int 0))) (.cn (.ix (.v 0) (.c (.int 1))) .nl))) (.c (.int 1))))) .skip))
def b_is_paper_of : MS := (.sq (.ret (.and (.isa (.v 0) [.tup]) (.cmp .eq (.bf .len (.cn (.v 0) .nl)) (.v 1)))) .skip)
def b_is_frac_below (a0 : Nat) : MS := (.sq (.ret (.and (.call a0 (.cn (.va 0) .nl)) (.and (.cmp .lt (.bf .abs (.cn (.ix (.v 0) (.c (.int 0))) .nl)) (.v 1)) (.cmp .lt (.ix (.v 0) (.c (.int 1))) (.v 1))))) .skip)
def b_told_frac (a0 a1 : Nat) : MS := (.sq (.ifS (.or (.cmp .ge (.bf .abs (.cn (.ix (.v 0) (.c (.int 0))) .nl)) (.g a0)) (.cmp .ge (.ix (.v 0) (.c (.int 1))) (.g a0))) (.sq (.rais a1 (.cn (.c (.str [102, 105, 103, 117, 114, 101, 115])) .nl)) .skip) .skip) (.sq (.ret (.v 0)) .skip))
def b__law_take : MS := (.sq (.ifS (.cmp .ne (.ix (.v 0) (.c (.int 0))) (.lst .nl)) (.sq (.set (.nm 2) (.ix (.ix (.v 0) (.c (.int 0))) (.c (.int 0)))) (.sq (.setIx (.v 0) (.c (.int 0)) (.bin .add (.ite (.cmp .ge (.v 2) (.v 1)) (.lst (.cn (.bin .div (.v 2) (.v 1)) .nl)) (.lst .nl)) (.slc (.ix (.v 0) (.c (.int 0))) (.sm (.c (.int 1))) .nl))) (.sq (.ret (.bin .mod (.bf .int (.cn (.v 2) .nl)) (.v 1))) .skip))) .skip) (.sq (.setIx (.v 0) (.c (.int 1)) (.bin .mod (.bf .int (.cn (.bin .mul (.ix (.v 0) (.c (.int 1))) (.c (.int 48271))) .nl)) (.c (.int 2147483647)))) (.sq (.ret (.bin .mod (.bf .int (.cn (.bin .div (.bin .add (.bin .mul (.ix (.v 0) (.c (.int 1))) (.c (.int 69621))) (.c (.int 7))) (.c (.int 1013))) .nl)) (.v 1))) .skip)))
def b__law_is (a0 : Nat) : MS := (.sq (.ifS (.tr (.isa (.v 1) [.tup])) (.sq (.ifS (.or (.not (.tr (.isa (.v 0) [.tup]))) (.cmp .ne (.bf .len (.cn (.v 0) .nl)) (.bf .len (.cn (.v 1) .nl)))) (.sq (.ret (.c (.bl false))) .skip) .skip) (.sq (.ret (.cmp .eq (.lc (.tp (.cn (.nm 2) (.cn (.nm 3) .nl))) (.it1 .zip (.cn (.v 0) (.cn (.v 1) .nl))) (.not (.tr (.call a0 (.cn (.va 2) (.cn (.va 3) .nl))))) (.c (.int 1)) [2, 3]) (.lst .nl))) .skip)) .skip) (.sq (.ifS (.or (.cmp .is (.v 1) (.c .non)) (.or (.cmp .is (.v 1) (.c (.bl true))) (.cmp .is (.v 1) (.c (.bl false))))) (.sq (.ret (.ite (.cmp .is (.v 1) (.c .non)) (.cmp .is (.v 0) (.c .non)) (.ite (.cmp .is (.v 1) (.c (.bl true))) (.cmp .is (.v 0) (.c (.bl true))) (.cmp .is (.v 0) (.c (.bl false)))))) .skip) .skip) (.sq (.ifS (.tr (.isa (.v 1) [.int])) (.sq (.ret (.and (.isa (.v 0) [.int]) (.and (.not (.isa (.v 0) [.bool])) (.cmp .eq (.v 0) (.v 1))))) .skip) .skip) (.sq (.ret (.and (.isa (.v 1) [.str]) (.and (.isa (.v 0) [.str]) (.cmp .eq (.v 0) (.v 1))))) .skip))))
def b__law_all (a0 a1 a2 : Nat) : MS := (.sq (.forS (.nm 3) (.it1 .val (.cn (.v 1) .nl)) (.sq (.ifS (.not (.tr (.call a0 (.cn (.vl (.call a1 (.cn (.lam a2 [0, 3]) .nl))) (.cn (.va 2) .nl))))) (.sq (.ret (.c (.bl false))) .skip) .skip) .skip)) (.sq (.ret (.c (.bl true))) .skip))
def b_square_of (a0 : Nat) : MS := (.sq (.ret (.call a0 (.cn (.va 0) (.cn (.va 0) .nl)))) .skip)
def b__law_fr_v1 : MS := (.sq (.set (.tp (.cn (.nm 2) (.cn (.nm 3) .nl))) (.tup (.cn (.bf .abs (.cn (.v 0) .nl)) (.cn (.bf .abs (.cn (.v 1) .nl)) .nl)))) (.sq (.forS (.nm 4) (.it1 .range (.cn (.c (.int 40000)) .nl)) (.sq (.ifS (.cmp .eq (.v 3) (.c (.int 0))) (.sq .brk .skip) .skip) (.sq (.set (.tp (.cn (.nm 2) (.cn (.nm 3) .nl))) (.tup (.cn (.v 3) (.cn (.bin .mod (.bf .int (.cn (.v 2) .nl)) (.v 3)) .nl)))) .skip))) (.sq (.set (.nm 2) (.ite (.cmp .gt (.v 1) (.c (.int 0))) (.v 2) (.bin .sub (.c (.int 0)) (.v 2)))) (.sq (.ret (.tup (.cn (.bin .div (.v 0) (.v 2)) (.cn (.bin .div (.v 1) (.v 2)) .nl)))) .skip))))
def b__law_error (a0 a1 a2 : Nat) : MS := (.sq (.tryS (.sq (.exp (.clv 0 .nl)) .skip) (.hc a0 (some 1) (.sq (.ret (.tup (.cn (.c (.str [119, 101, 98])) (.cn (.fle 1 a0 0) .nl)))) .skip) (.hc a1 (some 1) (.sq (.ret (.tup (.cn (.c (.str [98, 117, 110, 100, 108, 101])) (.cn (.fle 1 a1 0) .nl)))) .skip) (.hc a2 (some 1) (.sq (.ret (.tup (.cn (.c (.str [114, 101, 102, 117, 115, 101, 100])) (.cn (.fle 1 a2 0) .nl)))) .skip) .hn)))) (.sq (.ret (.tup (.cn (.c (.str [116, 111, 108, 100])) .nl))) .skip))
def b_need_above_all (a0 a1 : Nat) : MS := (.sq (.forS (.tp (.cn (.nm 1) (.cn (.nm 2) .nl))) (.it1 .enum (.cn (.v 0) .nl)) (.sq (.ifS (.or (.not (.tr (.call a0 (.cn (.va 2) .nl)))) (.cmp .le (.ix (.v 2) (.c (.int 0))) (.c (.int 0)))) (.sq (.rais a1 (.cn (.v 1) .nl)) .skip) .skip) .skip)) (.sq (.ret (.v 0)) .skip))
def b_held_of (a0 a1 : Nat) : MS := (.sq (.ret (.tup (.cn (.call a0 (.cn (.va 0) (.cn (.va 1) .nl))) (.cn (.call a1 (.cn (.va 0) (.cn (.va 1) .nl))) .nl)))) .skip)
def b_loss_told (a0 a1 a2 a3 : Nat) : MS := (.sq (.ret (.call a0 (.cn (.vl (.call a1 (.cn (.va 0) (.cn (.vl (.call a2 (.cn (.vl (.call a3 (.cn (.vl (.call a1 (.cn (.va 2) (.cn (.va 1) .nl)))) (.cn (.va 3) .nl)))) .nl))) .nl)))) (.cn (.va 1) .nl)))) .skip)
def b_keeper_loss (a0 a1 a2 : Nat) : MS := (.sq (.exp (.call a0 (.cn (.vl (.tup (.cn (.v 0) (.cn (.v 1) (.cn (.v 2) (.cn (.v 3) .nl)))))) .nl))) (.sq (.ret (.call a1 (.cn (.vl (.call a2 (.cn (.va 0) (.cn (.va 1) (.cn (.va 2) (.cn (.va 3) .nl)))))) .nl))) .skip))
def b_worth_by (a0 a1 a2 : Nat) : MS := (.sq (.ret (.call a0 (.cn (.vl (.call a1 (.cn (.vl (.ix (.v 0) (.c (.int 0)))) (.cn (.vl (.call a2 (.cn (.va 1) .nl))) .nl)))) (.cn (.vl (.call a1 (.cn (.vl (.ix (.v 0) (.c (.int 1)))) (.cn (.vl (.call a2 (.cn (.va 2) .nl))) .nl)))) .nl)))) .skip)
def b_kept_worth (a0 a1 a2 a3 : Nat) : MS := (.sq (.exp (.call a0 (.cn (.vl (.tup (.cn (.v 0) (.cn (.v 1) (.cn (.v 2) (.cn (.v 3) .nl)))))) .nl))) (.sq (.ret (.call a1 (.cn (.vl (.call a2 (.cn (.vl (.call a3 (.cn (.va 0) (.cn (.va 1) .nl)))) (.cn (.va 2) (.cn (.va 3) .nl))))) .nl))) .skip))
end Mi
set_option linter.all false
set_option maxRecDepth 100000
set_option maxHeartbeats 1000000
set_option exponentiation.threshold 100000
/-! Lp: what the shared defs hand back: fractions. Our own. -/
namespace Mi
section
variable {P : Prg} {fu n k : Nat} {h : Hd} {p q : Rat} {f f1 f2 f3 g : Nat}
theorem gc_get {d : D} {k : Nat} (e : P.gc[k]? = some d) : (evN P fu n).gc k = d := by rw [ev_gc, List.getD_eq_getElem?_getD, e]; rfl
theorem mulOk_nn {p q : Rat} (e : bt p + bt q ≤ 8000) : mulOk p.num q.num = true := mulOk_of (num_lt p) (num_lt q) (by omega)
theorem mulOk_nd {p q : Rat} (e : bt p + bt q ≤ 8000) : mulOk p.num q.den = true := mulOk_of (num_lt p) (denZ_lt q) (by omega)
theorem mulOk_dn {p q : Rat} (e : bt p + bt q ≤ 8000) : mulOk p.den q.num = true := mulOk_of (denZ_lt p) (num_lt q) (by omega)
theorem mulOk_dd {p q : Rat} (e : bt p + bt q ≤ 8000) : mulOk p.den q.den = true := mulOk_of (denZ_lt p) (denZ_lt q) (by omega)
theorem dd_pos (p q : Rat) : (0 : Int) < p.den * q.den := Int.mul_pos (by have := p.den_pos; omega) (by have := q.den_pos; omega)
theorem dd_lt {p q : Rat} (e : bt p + bt q ≤ 8000) : ((p.den : Int) * q.den).natAbs < 2 ^ 8000 := Nat.lt_of_lt_of_le (natAbs_mul_lt (denZ_lt p) (denZ_lt q)) (Nat.pow_le_pow_right (by decide) e)
theorem dn_lt {p q : Rat} (e : bt p + bt q ≤ 8000) : ((p.den : Int) * q.num).natAbs < 2 ^ 8000 := Nat.lt_of_lt_of_le (natAbs_mul_lt (denZ_lt p) (num_lt q)) (Nat.pow_le_pow_right (by decide) e)
theorem gcd_lt {u l : Int} (hl : 0 < l) (hs : l.natAbs < 2 ^ 8000) : ((Nat.gcd u.natAbs l.natAbs : Nat) : Int).natAbs < 2 ^ 8000 := by
  have : Nat.gcd u.natAbs l.natAbs ≤ l.natAbs := Nat.gcd_le_right _ (by omega)
  rw [Int.natAbs_natCast]; omega
theorem fr_ok (e : P.fns[f]? = some ⟨2, 3, b_fr⟩) {u l : Int} (hl : 0 < l) (hs : l.natAbs < 2 ^ 8000) : (evN P fu (n + 1)).cf f [.int u, .int l] h = .ok (fq (Rat.divInt u l)) h := by
  have hg : (0 : Int) < (Nat.gcd u.natAbs l.natAbs : Nat) := by
    have := Nat.gcd_pos_of_pos_right u.natAbs (show 0 < l.natAbs by omega)
    omega
  have hd := divOk_of hg (gcd_lt (u := u) hl hs) (by decide)
  have hn : ¬ l < 0 := by omega
  rw [ev_cf e rfl]
  simp [b_fr, hn, op_div hd, sizeMax]
  exact fr_val hl
/-- a def that tells the fraction of two integers -/
def FrOk (P : Prg) (fu f k : Nat) : Prop := ∀ (n : Nat) (u l : Int) (h : Hd), 0 < l → l.natAbs < 2 ^ 8000 → (evN P fu (n + k)).cf f [.int u, .int l] h = .ok (fq (Rat.divInt u l)) h
theorem frOk_0 (e : P.fns[f]? = some ⟨2, 3, b_fr⟩) : FrOk P fu f 1 := fun n u l h hl hs => fr_ok e hl hs
theorem added_ok (e : P.fns[f]? = some ⟨2, 2, b_added f1⟩) (e1 : FrOk P fu f1 k) (hb : bt p + bt q ≤ 8000) : (evN P fu (n + k + 1)).cf f [fq p, fq q] h = .ok (fq (p + q)) h := by
  rw [ev_cf e rfl]
  have hb' : bt q + bt p ≤ 8000 := by omega
  simp [b_added, op_mul (mulOk_nd hb), op_mul (mulOk_nd hb'), op_mul (mulOk_dd hb), e1 n _ _ _ (dd_pos p q) (dd_lt hb), ← add_eq]
theorem lessened_ok (e : P.fns[f]? = some ⟨2, 2, b_lessened f1⟩) (e1 : FrOk P fu f1 k) (hb : bt p + bt q ≤ 8000) : (evN P fu (n + k + 1)).cf f [fq p, fq q] h = .ok (fq (p - q)) h := by
  rw [ev_cf e rfl]
  have hb' : bt q + bt p ≤ 8000 := by omega
  simp [b_lessened, op_mul (mulOk_nd hb), op_mul (mulOk_nd hb'), op_mul (mulOk_dd hb), e1 n _ _ _ (dd_pos p q) (dd_lt hb), ← sub_eq]
theorem multiplied_ok (e : P.fns[f]? = some ⟨2, 2, b_multiplied f1⟩) (e1 : FrOk P fu f1 k) (hb : bt p + bt q ≤ 8000) : (evN P fu (n + k + 1)).cf f [fq p, fq q] h = .ok (fq (p * q)) h := by
  rw [ev_cf e rfl]
  simp [b_multiplied, op_mul (mulOk_nn hb), op_mul (mulOk_dd hb), e1 n _ _ _ (dd_pos p q) (dd_lt hb), ← mul_eq]
theorem dn_pos {p q : Rat} (hq : 0 < q) : (0 : Int) < p.den * q.num := Int.mul_pos (by have := p.den_pos; omega) (by
  have h1 : q ≠ 0 := fun z => by rw [z] at hq; exact Rat.lt_irrefl hq
  have h2 := num_ne h1
  have h3 := Rat.num_nonneg.mpr (Rat.le_of_lt hq)
  omega)
theorem divided_ok (e : P.fns[f]? = some ⟨2, 2, b_divided f1⟩) (e1 : FrOk P fu f1 k) (hb : bt p + bt q ≤ 8000) (hq : 0 < q) : (evN P fu (n + k + 1)).cf f [fq p, fq q] h = .ok (fq (p / q)) h := by
  rw [ev_cf e rfl]
  simp [b_divided, op_mul (mulOk_nd hb), op_mul (mulOk_dn hb), e1 n _ _ _ (dn_pos hq) (dn_lt hb), ← div_eq]
theorem lt_eq {p q : Rat} : decide (p.num * q.den < q.num * p.den) = decide (p < q) := by
  rw [decide_eq_decide]
  exact (Rat.lt_iff p q).symm
theorem lesser_ok (e : P.fns[f]? = some ⟨2, 2, b_lesser⟩) (hb : bt p + bt q ≤ 8000) : (evN P fu (n + 1)).cf f [fq p, fq q] h = .ok (.bl (decide (p < q))) h := by
  rw [ev_cf e rfl]
  have hb' : bt q + bt p ≤ 8000 := by omega
  simp [b_lesser, op_mul (mulOk_nd hb), op_mul (mulOk_nd hb'), Rat.lt_iff]
theorem squared_ok (e : P.fns[f]? = some ⟨1, 1, b_square_of f1⟩) (e1 : P.fns[f1]? = some ⟨2, 2, b_multiplied f2⟩) (e2 : FrOk P fu f2 k) (hb : bt p ≤ 4000) : (evN P fu (n + k + 2)).cf f [fq p] h = .ok (fq (p * p)) h := by
  rw [ev_cf (n := n + k + 1) e rfl]
  simp [b_square_of, multiplied_ok (n := n) e1 e2 (show bt p + bt p ≤ 8000 by omega)]
/-! ### what is a fraction -/
theorem is_integer_i (e : P.fns[f]? = some ⟨1, 1, b_is_integer⟩) {i : Int} : (evN P fu (n + 1)).cf f [.int i] h = .ok (.bl true) h := by
  rw [ev_cf e rfl]
  simp [b_is_integer, isTy]
theorem is_paper2 (e : P.fns[f]? = some ⟨2, 2, b_is_paper_of⟩) : (evN P fu (n + 1)).cf f [fq q, .int 2] h = .ok (.bl true) h := by
  rw [ev_cf e rfl]
  simp [b_is_paper_of]
theorem num_den_gcd (q : Rat) : Nat.gcd q.num.natAbs q.den = 1 := q.reduced
theorem is_frac_fq (e : P.fns[f]? = some ⟨1, 1, b_is_frac f1 f2⟩) (e1 : P.fns[f1]? = some ⟨2, 2, b_is_paper_of⟩) (e2 : P.fns[f2]? = some ⟨1, 1, b_is_integer⟩) : (evN P fu (n + 2)).cf f [fq q] h = .ok (.bl true) h := by
  rw [ev_cf e rfl]
  have h1 : (0 : Int) < q.den := by have := q.den_pos; omega
  simp [b_is_frac, is_paper2 e1, is_integer_i e2, num_den_gcd, q.den_pos]
theorem is_below_fq (e : P.fns[f]? = some ⟨2, 2, b_is_frac_below f3⟩) (e3 : P.fns[f3]? = some ⟨1, 1, b_is_frac f1 f2⟩) (e1 : P.fns[f1]? = some ⟨2, 2, b_is_paper_of⟩) (e2 : P.fns[f2]? = some ⟨1, 1, b_is_integer⟩) {L : Nat} (h1 : q.num.natAbs < L) (h2 : q.den < L) :
    (evN P fu (n + 3)).cf f [fq q, .int L] h = .ok (.bl true) h := by
  rw [ev_cf e rfl]
  have a1 : (if q.num < 0 then -q.num else q.num) < (L : Int) := by split <;> omega
  have a2 : (q.den : Int) < L := by omega
  simp [b_is_frac_below, is_frac_fq e3 e1 e2, a1, h2]
theorem is_light_fq {fb g : Nat} (e : P.fns[f]? = some ⟨1, 1, b_is_broad fb g⟩) (eb : P.fns[fb]? = some ⟨2, 2, b_is_frac_below f3⟩) (e3 : P.fns[f3]? = some ⟨1, 1, b_is_frac f1 f2⟩) (e1 : P.fns[f1]? = some ⟨2, 2, b_is_paper_of⟩) (e2 : P.fns[f2]? = some ⟨1, 1, b_is_integer⟩)
    {L : Nat} (eg : P.gc[g]? = some (.int L)) (h1 : q.num.natAbs < L) (h2 : q.den < L) : (evN P fu (n + 4)).cf f [fq q] h = .ok (.bl true) h := by
  rw [ev_cf e rfl]
  simp [b_is_broad, gc_get eg, is_below_fq eb e3 e1 e2 h1 h2]
theorem told_frac_ok {g c : Nat} (e : P.fns[f]? = some ⟨1, 1, b_told_frac g c⟩) {L : Nat} (eg : P.gc[g]? = some (.int L)) (h1 : q.num.natAbs < L) (h2 : q.den < L) : (evN P fu (n + 1)).cf f [fq q] h = .ok (fq q) h := by
  rw [ev_cf e rfl]
  have a1 : ¬ (L : Int) ≤ (if q.num < 0 then -q.num else q.num) := by split <;> omega
  have a2 : ¬ L ≤ q.den := by omega
  simp [b_told_frac, gc_get eg, a1, a2]
end
end Mi
set_option linter.all false
set_option maxRecDepth 100000
set_option maxHeartbeats 2000000
set_option exponentiation.threshold 100000
/-! Lp: the laws' own fractions. Our own. -/
namespace Mi
section
variable {P : Prg} {fu n : Nat} {h : Hd} {p q : Rat} {f f1 f2 f3 g : Nat}
/-- the body of the loop over a range -/
def eucB : MS := (.sq (.ifS (.cmp .eq (.v 3) (.c (.int 0))) (.sq .brk .skip) .skip) (.sq (.set (.tp (.cn (.nm 2) (.cn (.nm 3) .nl))) (.tup (.cn (.v 3) (.cn (.bin .mod (.bf .int (.cn (.v 2) .nl)) (.v 3)) .nl)))) .skip))
theorem fmod_nat {a b : Nat} : (a : Int).fmod (b : Int) = ((a % b : Nat) : Int) := by
  rw [Int.fmod_eq_emod_of_nonneg _ (by omega)]
  omega
theorem eucB_0 {G : EG} {u l t : Option D} {a : Int} : evS G fu eucB [u, l, some (.int a), some (.int 0), t] h = .bk [u, l, some (.int a), some (.int 0), t] h := by
  simp [eucB]
theorem eucB_s {G : EG} {u l t : Option D} {a b : Nat} (hb : b ≠ 0) : evS G fu eucB [u, l, some (.int a), some (.int b), t] h = .nx [u, l, some (.int b), some (.int (a % b : Nat)), t] h := by
  have e : (b : Int) ≠ 0 := by omega
  simp [eucB, hb, op_mod e, fmod_nat, sizeMax]
theorem forE_nx {step : D → Loc → Hd → RS} {st : Hd → Bool} {d : D} {ds : List D} {ρ ρ1 : Loc} {h1 : Hd} (hst : st h = true) (e : step d ρ h = .nx ρ1 h1) : forE step st (d :: ds) ρ h = forE step st ds ρ1 h1 := by
  rw [forE_1, iteS_pos hst, e]
  rfl
theorem forE_bk {step : D → Loc → Hd → RS} {st : Hd → Bool} {d : D} {ds : List D} {ρ ρ1 : Loc} {h1 : Hd} (hst : st h = true) (e : step d ρ h = .bk ρ1 h1) : forE step st (d :: ds) ρ h = .nx ρ1 h1 := by
  rw [forE_1, iteS_pos hst, e]
  rfl
theorem eucT_0 {G : EG} {u l t : Option D} {a lo : Int} : stepF G fu (.nm 4) eucB (.int lo) [u, l, some (.int a), some (.int (0 : Nat)), t] h = .bk [u, l, some (.int a), some (.int 0), some (.int lo)] h := by
  rw [stepF_d]
  simp
  exact eucB_0
theorem eucT_s {G : EG} {u l t : Option D} {a b : Nat} {lo : Int} (hb : b ≠ 0) : stepF G fu (.nm 4) eucB (.int lo) [u, l, some (.int a), some (.int b), t] h = .nx [u, l, some (.int b), some (.int (a % b : Nat)), some (.int lo)] h := by
  rw [stepF_d]
  simp only [bindP_nm]
  exact eucB_s hb
theorem mod_half {a b : Nat} (h0 : a % b ≠ 0) (hb : b ≠ 0) : 2 * (b % (a % b)) < b := by
  have h1 : a % b < b := Nat.mod_lt _ (by omega)
  have h2 : b % (a % b) < a % b := Nat.mod_lt _ (by omega)
  have h3 := Nat.div_add_mod b (a % b)
  have h4 : 1 ≤ b / (a % b) := Nat.div_pos (by omega) (by omega)
  have h5 : a % b * 1 ≤ a % b * (b / (a % b)) := Nat.mul_le_mul_left _ h4
  omega
theorem euc_for {G : EG} {u l : Option D} {st : Hd → Bool} (hst : st h = true) : ∀ (m k a b : Nat) (lo : Int) (t : Option D), b < 2 ^ m → 2 * m + 1 ≤ k →
    ∃ t', forE (stepF G fu (.nm 4) eucB) st (rangeD lo k) [u, l, some (.int a), some (.int b), t] h = .nx [u, l, some (.int (Nat.gcd a b : Nat)), some (.int 0), t'] h := by
  intro m
  induction m with
  | zero =>
    intro k a b lo t hb hk
    obtain ⟨k, rfl⟩ : ∃ j, k = j + 1 := ⟨k - 1, by omega⟩
    have : b = 0 := by simpa using hb
    subst this
    refine ⟨some (.int lo), ?_⟩
    simp [rangeD, forE_1, stepF_d, hst, eucB_0]
  | succ m ih =>
    intro k a b lo t hb hk
    obtain ⟨k, rfl⟩ : ∃ j, k = j + 2 := ⟨k - 2, by omega⟩
    by_cases hb0 : b = 0
    · subst hb0
      refine ⟨some (.int lo), ?_⟩
      rw [rangeD, forE_bk hst (eucT_0 (t := t))]
      simp
    · rw [rangeD, rangeD, forE_nx hst (eucT_s (t := t) hb0)]
      by_cases hr : a % b = 0
      · refine ⟨some (.int (lo + 1)), ?_⟩
        rw [hr]
        have e2 : Nat.gcd a b = b := by rw [Nat.gcd_comm, Nat.gcd_rec, hr]; simp
        rw [forE_bk hst eucT_0, e2]
      · have hlt : b % (a % b) < 2 ^ m := by
          have := mod_half hr hb0
          rw [Nat.pow_succ] at hb
          omega
        obtain ⟨t', e⟩ := ih k (a % b) (b % (a % b)) (lo + 1 + 1) (some (.int (lo + 1))) hlt (by omega)
        refine ⟨t', ?_⟩
        have e3 : Nat.gcd (a % b) (b % (a % b)) = Nat.gcd a b := by
          rw [Nat.gcd_comm (a % b), ← Nat.gcd_rec, ← Nat.gcd_rec, Nat.gcd_comm]
        rw [e3] at e
        rw [forE_nx hst (eucT_s hr)]
        exact e
theorem law_fr1_ok (e : P.fns[f]? = some ⟨2, 5, b__law_fr_v1⟩) {u l : Int} (hl : 0 < l) (hs : l.natAbs < 2 ^ 8000) : (evN P fu (n + 1)).cf f [.int u, .int l] h = .ok (fq (Rat.divInt u l)) h := by
  have hg : (0 : Int) < (Nat.gcd u.natAbs l.natAbs : Nat) := by
    have := Nat.gcd_pos_of_pos_right u.natAbs (show 0 < l.natAbs by omega)
    omega
  have hd := divOk_of hg (gcd_lt (u := u) hl hs) (by decide)
  have hn : ¬ l < 0 := by omega
  have a1 : (if u < 0 then -u else u) = (u.natAbs : Int) := by split <;> omega
  have a2 : (if l < 0 then -l else l) = (l.natAbs : Int) := by split <;> omega
  obtain ⟨t', eu⟩ := euc_for (G := evN P fu n) (fu := fu) (h := h) (u := some (.int u)) (l := some (.int l)) (st := staysB h [.int 40000]) rfl 8000 40000 u.natAbs l.natAbs 0 none hs (by decide)
  rw [ev_cf e rfl]
  have e0 : b__law_fr_v1 = (.sq (.set (.tp (.cn (.nm 2) (.cn (.nm 3) .nl))) (.tup (.cn (.bf .abs (.cn (.v 0) .nl)) (.cn (.bf .abs (.cn (.v 1) .nl)) .nl)))) (.sq (.forS (.nm 4) (.it1 .range (.cn (.c (.int 40000)) .nl)) eucB) (.sq (.set (.nm 2) (.ite (.cmp .gt (.v 1) (.c (.int 0))) (.v 2) (.bin .sub (.c (.int 0)) (.v 2)))) (.sq (.ret (.tup (.cn (.bin .div (.v 0) (.v 2)) (.cn (.bin .div (.v 1) (.v 2)) .nl)))) .skip)))) := rfl
  rw [e0]
  have ew : walkD h .range [.int 40000] = some (rangeD 0 40000) := wk_rng (by decide)
  simp [sizeMax, a1, a2, ew]
  rw [eu]
  simp [hl, op_div hd, sizeMax]
  exact fr_val hl
end
end Mi
set_option linter.all false
set_option maxRecDepth 100000
set_option maxHeartbeats 2000000
set_option exponentiation.threshold 100000
/-! Lp: the laws' own reckoning, the source of draws. Our own. -/
namespace Mi
section
variable {P : Prg} {fu n k : Nat} {h : Hd} {p q : Rat} {f f1 f2 f3 g b : Nat}
theorem frOk_1 (e : P.fns[f]? = some ⟨2, 5, b__law_fr_v1⟩) : FrOk P fu f 1 := fun n u l h hl hs => law_fr1_ok e hl hs
/-! ### lists that are changed -/
theorem setE_ok {ρ : Loc} {xs : List D} {i : Int} {j : Nat} {d : D} (e : h[b]? = some (.lst xs)) (ei : ixAt xs.length i = some j) : setE ρ h (.ref b) (.int i) d = .nx ρ (h.set b (.lst (xs.set j d))) := by
  show (match h[b]? with | some (.lst xs) => optS (ixAt xs.length i) fun j => .nx ρ (h.set b (.lst (xs.set j d))) | _ => .no) = _
  rw [e]
  show optS (ixAt xs.length i) _ = _
  rw [ei]
  rfl
theorem ixAt_0 {m : Nat} : ixAt (m + 1) 0 = some 0 := by simp [ixAt]
theorem ixAt_1 {m : Nat} : ixAt (m + 2) 1 = some 1 := by simp [ixAt]; omega
theorem deep_ints : ∀ l : List Int, plains (l.map .int) = true ∧ depths (l.map .int) = 0
  | [] => ⟨rfl, rfl⟩
  | i :: l => by
    obtain ⟨a, b⟩ := deep_ints l
    exact ⟨by simp [plains, plain, a], by simp [depths, depth, b]⟩
theorem ne_nil {l : List Int} : opC h .ne (.lst (l.map .int)) (.lst []) = some (!l.isEmpty) := by
  have e : deepOk (.lst (l.map .int)) = true := by
    obtain ⟨a, b⟩ := deep_ints l
    simp [deepOk, plain, depth, a, b]
  show (eqC (.lst (l.map .int)) (.lst [])).map not = _
  have e2 : eqC (.lst (l.map .int)) (.lst []) = some (eqD (.lst (l.map .int)) (.lst [])) := by
    show (if (deepOk (.lst (l.map .int)) && deepOk (.lst [])) || strSide _ _ then some _ else none) = _
    rw [e, show deepOk (.lst []) = true from rfl]
    rfl
  rw [e2]
  cases l with
  | nil => rfl
  | cons i l => rfl
theorem sl_tl {d : D} {l : List D} : slD h (.lst (d :: l)) (some 1) none = some (.lst l) := by
  show some (D.lst (cutL (d :: l) (some 1) none)) = _
  simp [cutL, cutIx]
/-! ### the source of draws -/
def Bx (b : Nat) (h : Hd) : Prop := ∃ (rest : List Int) (st : Int), h[b]? = some (.lst [.lst (rest.map .int), .int st]) ∧ rest.length ≤ 63
/-- only b is written -/
def Only (b : Nat) (h h' : Hd) : Prop := h'.length = h.length ∧ ∀ c, c ≠ b → h'[c]? = h[c]?
theorem Only.refl : Only b h h := ⟨rfl, fun _ _ => rfl⟩
theorem Only.trans {h1 h2 : Hd} (a : Only b h h1) (c : Only b h1 h2) : Only b h h2 := ⟨c.1.trans a.1, fun x hx => (c.2 x hx).trans (a.2 x hx)⟩
theorem Only.set {o : O} : Only b h (h.set b o) := ⟨by simp, fun c hc => by rw [List.getElem?_set_ne (Ne.symm hc)]⟩
theorem set_at {o o' : O} (e : h[b]? = some o) : (h.set b o')[b]? = some o' := by
  have : b < h.length := by
    rcases Nat.lt_or_ge b h.length with z | z
    · exact z
    · rw [List.getElem?_eq_none z] at e; cases e
  simp [this]
theorem fmod_rng {a m : Int} (hm : 0 < m) : 0 ≤ a.fmod m ∧ a.fmod m < m := by
  rw [Int.fmod_eq_emod_of_nonneg _ (Int.le_of_lt hm)]
  exact ⟨Int.emod_nonneg _ (by omega), Int.emod_lt_of_pos _ hm⟩
theorem take_ok (e : P.fns[f]? = some ⟨2, 3, b__law_take⟩) (hb : Bx b h) {m : Int} (hm : 0 < m) (hs : m.natAbs < 2 ^ 8000) :
    ∃ (r : Int) (h' : Hd), 0 ≤ r ∧ r < m ∧ Bx b h' ∧ Only b h h' ∧ (evN P fu (n + 1)).cf f [.ref b, .int m] h = .ok (.int r) h' := by
  obtain ⟨rest, st, hh, hl⟩ := hb
  have hm0 : m ≠ 0 := by omega
  cases rest with
  | nil =>
    have g1 := set_at (o' := .lst [.lst [], .int ((st * 48271).fmod 2147483647)]) hh
    obtain ⟨r1, r2⟩ := fmod_rng (a := (((st * 48271).fmod 2147483647) * 69621 + 7).fdiv 1013) hm
    refine ⟨_, h.set b (.lst [.lst [], .int ((st * 48271).fmod 2147483647)]), r1, r2, ⟨[], _, g1, by simp⟩, Only.set, ?_⟩
    rw [ev_cf e rfl]
    have e1 : mulOk st 48271 = true := mulS' (by decide)
    have e2 : mulOk ((st * 48271).fmod 2147483647) 69621 = true := mulS' (by decide)
    have e3 : divOk 1013 = true := by decide
    have e4 : opC h .ne (.lst []) (.lst []) = some false := ne_nil (l := [])
    simp only [List.map_nil] at hh
    have e5 := fun (ρ : Loc) (d : D) => setE_ok (ρ := ρ) (d := d) (i := 1) hh ixAt_1
    simp only [List.set_cons_succ, List.set_cons_zero] at e5
    simp [b__law_take, ix0r hh, ix1r hh, e4, op_mul e1, op_mod, e5, ix1r g1, op_mul e2, op_div e3, hm0]
  | cons c rest =>
    have hl2 : rest.length ≤ 62 := by simpa using hl
    have cont : ∀ nw : List Int, nw.length ≤ 1 → (0 ≤ c.fmod m ∧ c.fmod m < m) := fun _ _ => fmod_rng hm
    obtain ⟨r1, r2⟩ := fmod_rng (a := c) hm
    simp only [List.map_cons] at hh
    have e4 : opC h .ne (.lst (.int c :: rest.map .int)) (.lst []) = some true := by
      have := ne_nil (h := h) (l := c :: rest)
      simpa using this
    have ed : divOk m = true := divOk_of hm hs (by decide)
    have e5 := fun (ρ : Loc) (d : D) => setE_ok (ρ := ρ) (d := d) (i := 0) hh ixAt_0
    simp only [List.set_cons_zero] at e5
    by_cases hc : m ≤ c
    · have g1 := set_at (o' := .lst [.lst (.int (c.fdiv m) :: rest.map .int), .int st]) hh
      refine ⟨_, h.set b (.lst [.lst (.int (c.fdiv m) :: rest.map .int), .int st]), r1, r2, ⟨c.fdiv m :: rest, st, g1, by simp; omega⟩, Only.set, ?_⟩
      rw [ev_cf e rfl]
      have hx : 1 + rest.length ≤ sizeMax := by unfold sizeMax; omega
      simp [b__law_take, ix0r hh, e4, hc, op_div ed, sizeMax, sl_tl, e5, op_mod hm0]
      rw [op_addl (by simp; unfold sizeMax; omega)]
      simp [e5, op_mod hm0]
    · have g1 := set_at (o' := .lst [.lst (rest.map .int), .int st]) hh
      refine ⟨_, h.set b (.lst [.lst (rest.map .int), .int st]), r1, r2, ⟨rest, st, g1, by omega⟩, Only.set, ?_⟩
      rw [ev_cf e rfl]
      simp [b__law_take, ix0r hh, e4, hc, op_div ed, sizeMax, sl_tl, e5, op_mod hm0]
      rw [op_addl (by simp; unfold sizeMax; omega)]
      simp [e5, op_mod hm0]
theorem pick_ok (e : P.fns[f]? = some ⟨2, 2, b__law_pick f1⟩) (e1 : P.fns[f1]? = some ⟨2, 3, b__law_take⟩) (hb : Bx b h) {ds : List D} (h0 : ds ≠ []) (h1 : ds.length ≤ 1000000) :
    ∃ (d : D) (h' : Hd), d ∈ ds ∧ Bx b h' ∧ Only b h h' ∧ (evN P fu (n + 2)).cf f [.ref b, .lst ds] h = .ok d h' := by
  have hlen : 0 < ds.length := List.length_pos_iff.mpr h0
  obtain ⟨r, h', r1, r2, b1, b2, ev⟩ := take_ok (fu := fu) (n := n) e1 hb (m := (ds.length : Int)) (by omega) (by
    rw [Int.natAbs_natCast]
    exact Nat.lt_of_le_of_lt h1 (Nat.lt_of_lt_of_le (show 1000000 < 2 ^ 20 by decide) (Nat.pow_le_pow_right (by decide) (by decide))))
  have hr : r.toNat < ds.length := by omega
  refine ⟨ds[r.toNat], h', List.getElem_mem hr, b1, b2, ?_⟩
  rw [ev_cf e rfl]
  have ex : ixD h' (.lst ds) (.int r) = some ds[r.toNat] := ixD_lst (j := r.toNat) (by simp [ixAt, r1]; omega) (List.getElem?_eq_getElem hr)
  simp [b__law_pick, ev, ex]
/-! ### the source is made -/
@[simp] theorem op_pow {i j : Int} (h0 : 0 ≤ j) (h1 : j ≤ 1000000) (h2 : i.natAbs < 18446744073709551616) : opB h .pow (.int i) (.int j) = some (.int (i ^ j.toNat)) := if_pos ⟨h0, h1, h2⟩
theorem mt_app {r : Nat} {xs : List D} {y : D} (e : h[r]? = some (.lst xs)) (hl : xs.length < sizeMax) : mtE h .append (.ref r) [y] = .ok .non (h.set r (.lst (xs ++ [y]))) := by
  show (match h[r]? with | some (.lst xs) => iteR (xs.length < sizeMax) (Rv.ok D.non (h.set r (.lst (xs ++ [y])))) | _ => .no) = _
  rw [e]
  exact iteR_pos hl
theorem mt_app_ty {r : Nat} {xs : List D} (e : h[r]? = some (.lst xs)) : mtTy h .append (.ref r) = true := by
  show (match h[r]? with | some (.lst _) => true | _ => false) = true
  rw [e]
/-- _law_box, its two numbers left open -/
def boxBody (c : Int) : MS := (.sq (.set (.nm 5) (.bin .add (.bin .mul (.bf .abs (.cn (.v 4) .nl)) (.c (.int 2))) (.bf .int (.cn (.cmp .lt (.v 4) (.c (.int 0))) .nl)))) (.sq (.ifS (.cmp .ge (.bf .abs (.cn (.v 4) .nl)) (.bin .pow (.c (.int 10)) (.c (.int 18)))) (.sq (.exp (.mt .append (.v 1) (.cn (.bf .abs (.cn (.v 4) .nl)) .nl))) .skip) .skip) (.sq (.set (.nm 2) (.bin .add (.bin .mod (.bf .int (.cn (.bin .add (.bin .add (.bin .mul (.v 2) (.c (.int 48271))) (.bin .mul (.bin .mod (.bf .int (.cn (.v 5) .nl)) (.c (.int 2147483629))) (.bin .add (.bin .mul (.c (.int 2)) (.v 3)) (.c (.int c))))) (.c (.int 17))) .nl)) (.c (.int 2147483629))) (.c (.int 1)))) .skip)))
def boxB (s c : Int) : MS := (.sq (.set (.tp (.cn (.nm 1) (.cn (.nm 2) .nl))) (.tup (.cn (.lsh .nl) (.cn (.c (.int s)) .nl)))) (.sq (.forS (.tp (.cn (.nm 3) (.cn (.nm 4) .nl))) (.it1 .enum (.cn (.slc (.v 0) .nl (.sm (.c (.int 63)))) .nl)) (boxBody c)) (.sq (.frz 1) (.sq (.ret (.lsh (.cn (.v 1) (.cn (.v 2) .nl)))) .skip))))
theorem box_body {G : EG} {c : Int} {r : Nat} {sc : D} {st cell kk : Int} {a : Option D} {xs : List Int} (e : h[r]? = some (.lst (xs.map .int))) (hl : xs.length ≤ 1000) :
    ∃ (xs' : List Int) (st' : Int) (a' : D) (h' : Hd), xs'.length ≤ xs.length + 1 ∧ h'[r]? = some (.lst (xs'.map .int)) ∧ Only r h h' ∧
      evS G fu (boxBody c) [some sc, some (.ref r), some (.int st), some (.int kk), some (.int cell), a] h = .nx [some sc, some (.ref r), some (.int st'), some (.int kk), some (.int cell), some a'] h' := by
  have m1 : mulOk (if cell < 0 then -cell else cell) 2 = true := mulS' (by decide)
  have m2 : mulOk 2 kk = true := mulS (by decide)
  have m3 : mulOk st 48271 = true := mulS' (by decide)
  have m4 : ∀ z w : Int, mulOk (z.fmod 2147483629) w = true := fun z w => mulS (by have := fmod_rng (a := z) (m := 2147483629) (by decide); omega)
  by_cases hc : (1000000000000000000 : Int) ≤ (if cell < 0 then -cell else cell)
  · have hap := mt_app (y := .int (if cell < 0 then -cell else cell)) e (by simp; unfold sizeMax; omega)
    have hty := mt_app_ty e
    have ev : ∃ (st' : Int) (a' : D), evS G fu (boxBody c) [some sc, some (.ref r), some (.int st), some (.int kk), some (.int cell), a] h = .nx [some sc, some (.ref r), some (.int st'), some (.int kk), some (.int cell), some a'] (h.set r (.lst (xs.map .int ++ [.int (if cell < 0 then -cell else cell)]))) := by
      simp [boxBody, op_mul m1, op_mul m2, op_mul m3, op_mul (m4 _ _), op_mod, hc, hap, hty]
    obtain ⟨st', a', ev⟩ := ev
    refine ⟨xs ++ [if cell < 0 then -cell else cell], st', a', _, by simp, ?_, Only.set, ev⟩
    rw [set_at e]; simp
  · have ev : ∃ (st' : Int) (a' : D), evS G fu (boxBody c) [some sc, some (.ref r), some (.int st), some (.int kk), some (.int cell), a] h = .nx [some sc, some (.ref r), some (.int st'), some (.int kk), some (.int cell), some a'] h := by
      simp [boxBody, op_mul m1, op_mul m2, op_mul m3, op_mul (m4 _ _), op_mod, hc]
    obtain ⟨st', a', ev⟩ := ev
    exact ⟨xs, st', a', h, by omega, e, Only.refl, ev⟩
theorem Only.le {r : Nat} {h1 : Hd} (a : Only r h h1) : h1.length = h.length := a.1
theorem box_loop {G : EG} {c : Int} {r : Nat} {sc : D} {stb : Hd → Bool} (hst : ∀ h, stb h = true) : ∀ (l : List Int) (k st : Int) (xs : List Int) (a b1 c1 : Option D) (h : Hd), h[r]? = some (.lst (xs.map .int)) → xs.length + l.length ≤ 1000 →
    ∃ (xs' : List Int) (st' : Int) (a' b' c' : Option D) (h' : Hd), xs'.length ≤ xs.length + l.length ∧ h'[r]? = some (.lst (xs'.map .int)) ∧ Only r h h' ∧
      forE (stepF G fu (.tp (.cn (.nm 3) (.cn (.nm 4) .nl))) (boxBody c)) stb (enumD k (l.map .int)) [some sc, some (.ref r), some (.int st), a, b1, c1] h = .nx [some sc, some (.ref r), some (.int st'), a', b', c'] h' := by
  intro l
  induction l with
  | nil =>
    intro k st xs a b1 c1 h e hl
    exact ⟨xs, st, a, b1, c1, h, by simp, e, Only.refl, by simp [enumD, hst]⟩
  | cons i l ih =>
    intro k st xs a b1 c1 h e hl
    have hl2 : xs.length + l.length + 1 ≤ 1000 := by simp at hl; omega
    obtain ⟨xs1, st1, a1, h1, p1, p2, p3, p4⟩ := box_body (fu := fu) (G := G) (c := c) (sc := sc) (st := st) (kk := k) (cell := i) (a := c1) e (by omega)
    obtain ⟨xs2, st2, a2, b2, c2, h2, q1, q2, q3, q4⟩ := ih (k + 1) st1 xs1 (some (.int k)) (some (.int i)) (some a1) h1 p2 (by omega)
    refine ⟨xs2, st2, a2, b2, c2, h2, by simp; omega, q2, p3.trans q3, ?_⟩
    rw [List.map_cons, enumD, forE_nx (hst h) (ρ1 := [some sc, some (.ref r), some (.int st1), some (.int k), some (.int i), some a1]) (h1 := h1)]
    · exact q4
    · rw [stepF_d]
      simp
      exact p4
theorem cut63 {α : Type} {l : List α} (hl : l.length ≤ 63) : cutL l none (some 63) = l := by
  have e : cutIx l.length l.length (some 63) = l.length := by
    have : min 63 l.length = l.length := by omega
    exact this
  unfold cutL
  rw [e]
  simp [cutIx]
theorem box_ok {s c : Int} {r : Nat} (e : P.fns[f]? = some ⟨1, 6, boxB s c⟩) {ns : List Int} (hs : h[r]? = some (.rol (ns.map .int))) (hl : ns.length ≤ 63) :
    ∃ (b : Nat) (h' : Hd), Bx b h' ∧ (evN P fu (n + 1)).cf f [.ref r] h = .ok (.ref b) h' := by
  have sl : slD (h ++ [.lst []]) (.ref r) none (some 63) = some (.lst (ns.map .int)) := by
    have hr : (h ++ [O.lst []])[r]? = some (.rol (ns.map .int)) := by
      have : r < h.length := by
        rcases Nat.lt_or_ge r h.length with z | z
        · exact z
        · rw [List.getElem?_eq_none z] at hs; cases hs
      rw [List.getElem?_append_left this]
      exact hs
    show (match (h ++ [O.lst []])[r]? with | some (.lst ds) => some (D.lst (cutL ds none (some 63))) | some (.rol ds) => some (D.lst (cutL ds none (some 63))) | _ => none) = _
    rw [hr]
    show some (D.lst (cutL (ns.map .int) none (some 63))) = _
    rw [cut63 (by simpa using hl)]
  have e0 : (h ++ [O.lst []])[h.length]? = some (.lst (([] : List Int).map .int)) := by simp
  obtain ⟨xs, st, a, b1, c1, h1, p1, p2, p3, p4⟩ := box_loop (fu := fu) (G := evN P fu n) (c := c) (sc := .ref r) (stb := staysB (h ++ [.lst []]) [.lst (ns.map .int)]) (fun _ => rfl) ns 0 s [] none none none _ e0 (by simp; omega)
  have hlen : h1.length = h.length + 1 := by have := p3.1; simpa using this
  have e2 := set_at (o' := .dead) p2
  refine ⟨h1.length, (h1.set h.length .dead) ++ [.lst [.lst (xs.map .int), .int st]], ⟨xs, st, by simp, by simp at p1; omega⟩, ?_⟩
  rw [ev_cf e rfl]
  simp [boxB, sizeMax, sl]
  rw [p4]
  simp [frzK_o p2, sizeMax]
/-! ### _law_is of a thing and itself -/
mutual
def okIs : D → Bool
  | .non | .bl _ | .int _ | .str _ => true
  | .tup ds => decide (ds.length ≤ sizeMax) && okIss ds
  | _ => false
def okIss : List D → Bool
  | [] => true
  | d :: ds => okIs d && okIss ds
end
mutual
def dpI : D → Nat
  | .tup ds => 1 + dpIs ds
  | _ => 0
def dpIs : List D → Nat
  | [] => 0
  | d :: ds => max (dpI d) (dpIs ds)
end
theorem comp_none {step : D → Hd → Rv (Option D)} {st : Hd → Bool} (hst : st h = true) : ∀ ds : List D, (∀ d ∈ ds, step d h = .ok none h) → compE step st ds h = .ok [] h
  | [], _ => by rw [compE_0, iteR_pos hst]
  | d :: ds, hs => by
    rw [compE_1, iteR_pos hst, hs d List.mem_cons_self]
    simp
    rw [comp_none hst ds fun x hx => hs x (List.mem_cons_of_mem _ hx)]
    simp
theorem zip_self : ∀ {ds : List D} {d : D}, d ∈ zipD ds ds → ∃ x ∈ ds, d = .tup [x, x]
  | [], d, h => by simp [zipD] at h
  | x :: xs, d, h => by
    rw [zipD] at h
    rcases List.mem_cons.mp h with e | e
    · exact ⟨x, List.mem_cons_self, e⟩
    · obtain ⟨y, hy, e2⟩ := zip_self e
      exact ⟨y, List.mem_cons_of_mem _ hy, e2⟩
theorem zip_len : ∀ {ds : List D}, (zipD ds ds).length = ds.length
  | [] => rfl
  | x :: xs => by simp [zipD, zip_len (ds := xs)]
theorem okIss_mem : ∀ {ds : List D}, okIss ds = true → ∀ d ∈ ds, okIs d = true ∧ dpI d ≤ dpIs ds
  | [], _, d, hd => by cases hd
  | x :: xs, h, d, hd => by
    rw [okIss, Bool.and_eq_true] at h
    rcases List.mem_cons.mp hd with e | e
    · subst e; exact ⟨h.1, by simp [dpIs]; omega⟩
    · obtain ⟨a, b⟩ := okIss_mem h.2 d e
      exact ⟨a, by simp [dpIs]; omega⟩
theorem okIs_noX : ∀ {d : D}, okIs d = true → noX d = true ∧ isClo d = false
  | .non, _ | .bl _, _ | .int _, _ | .str _, _ | .tup _, _ => ⟨rfl, rfl⟩
  | .lst _, h | .ref _, h | .glo _, h | .clo _ _, h | .exn _ _, h => by simp [okIs] at h
theorem law_is_ok (e : P.fns[f]? = some ⟨2, 4, b__law_is f⟩) : ∀ (k : Nat) (d : D) (n : Nat) (h : Hd), okIs d = true → dpI d ≤ k → (evN P fu (n + k + 1)).cf f [d, d] h = .ok (.bl true) h := by
  intro k
  induction k with
  | zero =>
    intro d n h ok hd
    rw [ev_cf e rfl]
    cases d with
    | non => simp [b__law_is, isTy, isAny]
    | bl b => cases b <;> simp [b__law_is, isTy, isAny]
    | int i => simp [b__law_is, isTy, isAny]
    | str s =>
      have : opC h .eq (.str s) (.str s) = some true := by
        show eqC (.str s) (.str s) = _
        show (if (deepOk (.str s) && deepOk (.str s)) || strSide (.str s) (.str s) then some (eqD (.str s) (.str s)) else none) = _
        rw [show strSide (.str s) (.str s) = true from rfl, Bool.or_true]
        show some (s == s) = _
        simp
      simp [b__law_is, isTy, isAny, this]
    | tup ds => simp [dpI] at hd
    | _ => simp [okIs] at ok
  | succ k ih =>
    intro d n h ok hd
    cases d with
    | tup ds =>
      rw [okIs, Bool.and_eq_true] at ok
      have hl : ds.length ≤ sizeMax := of_decide_eq_true ok.1
      rw [ev_cf e rfl]
      have hz : (zipD ds ds).length ≤ sizeMax := by rw [zip_len]; exact hl
      have hc := comp_none (h := h) (step := cmpS (evN P fu (n + k + 1)) (.tp (.cn (.nm 2) (.cn (.nm 3) .nl))) (.not (.tr (.call f (.cn (.va 2) (.cn (.va 3) .nl))))) (.c (.int 1)) [2, 3] [some (.tup ds), some (.tup ds), none, none]) (st := staysB h [.tup ds, .tup ds]) rfl (zipD ds ds) (fun d hd2 => by
        obtain ⟨x, hx, rfl⟩ := zip_self hd2
        obtain ⟨o1, o2⟩ := okIss_mem ok.2 x hx
        obtain ⟨o3, o4⟩ := okIs_noX o1
        have := ih x n h o1 (by simp [dpI] at hd; omega)
        rw [cmpS_d]
        simp [o3, o4, this])
      have e9 : opC h .eq (.lst []) (.lst []) = some true := by
        show eqC (.lst []) (.lst []) = _
        rfl
      rw [show n + (k + 1) = n + k + 1 from rfl]
      simp [b__law_is, isTy, isAny, hz]
      rw [hc]
      simp [e9]
    | _ =>
      have hh := fun (d : D) (o : okIs d = true) (hd : dpI d = 0) => ih d (n + 1) h o (by omega)
      rw [show n + (k + 1) + 1 = n + 1 + k + 1 by omega]
      first
      | exact ih _ (n + 1) h ok (by simp [dpI])
      | (simp [okIs] at ok)
@[simp] theorem fq_okIs {q : Rat} : okIs (fq q) = true := rfl
@[simp] theorem fq_dpI {q : Rat} : dpI (fq q) = 1 := rfl
end
end Mi
set_option maxHeartbeats 4000000
set_option linter.all false
set_option maxRecDepth 100000
namespace Lw
open Mi
def b_part_lost : MS := (.sq (.set (.nm 2) (.call 6 (.cn (.va 1) (.cn (.va 0) .nl)))) (.sq (.ret (.call 6 (.cn (.vl (.call 13 (.cn (.vl (.call 4 (.cn (.vl (.g 2)) (.cn (.va 2) .nl)))) .nl))) (.cn (.vl (.call 3 (.cn (.vl (.g 2)) (.cn (.vl (.call 13 (.cn (.va 2) .nl))) .nl)))) .nl)))) .skip))
def b_most_loss : MS := (.sq (.exp (.call 12 (.cn (.vl (.tup (.cn (.v 0) (.cn (.v 1) (.cn (.v 2) .nl))))) .nl))) (.sq (.ifS (.tr (.call 7 (.cn (.va 2) (.cn (.va 1) .nl)))) (.sq (.rais 2 (.cn (.neg (.c (.int 1))) .nl)) .skip) .skip) (.sq (.set (.nm 3) (.tup (.cn (.call 19 (.cn (.va 0) (.cn (.va 1) .nl))) (.cn (.call 19 (.cn (.va 0) (.cn (.va 2) .nl))) .nl)))) (.sq (.ret (.call 11 (.cn (.vl (.ite (.tr (.call 7 (.cn (.vl (.ix (.v 3) (.c (.int 0)))) (.cn (.vl (.ix (.v 3) (.c (.int 1)))) .nl)))) (.ix (.v 3) (.c (.int 1))) (.ix (.v 3) (.c (.int 0))))) .nl))) .skip))))
def b__law_error : MS := (.sq (.tryS (.sq (.exp (.clv 0 .nl)) .skip) (.hc 0 (some 1) (.sq (.ret (.tup (.cn (.c (.str [102, 114, 97, 99, 116, 105, 111, 110])) (.cn (.fle 1 0 0) .nl)))) .skip) (.hc 2 (some 1) (.sq (.ret (.tup (.cn (.c (.str [114, 101, 102, 117, 115, 101, 100])) (.cn (.fle 1 2 0) .nl)))) .skip) .hn))) (.sq (.ret (.tup (.cn (.c (.str [116, 111, 108, 100])) .nl))) .skip))
def b__law_lost : MS := (.sq (.set (.nm 2) (.call 28 (.cn (.va 0) (.cn (.vl (.call 31 (.cn (.vl (.call 30 (.cn (.va 1) (.cn (.va 1) .nl)))) (.cn (.va 0) .nl)))) .nl)))) (.sq (.ret (.call 31 (.cn (.vl (.call 29 (.cn (.va 2) (.cn (.vl (.call 30 (.cn (.vl (.tup (.cn (.c (.int 2)) (.cn (.c (.int 1)) .nl)))) (.cn (.va 1) .nl)))) .nl)))) (.cn (.va 2) .nl)))) .skip))
def b__law_one : MS := (.sq (.set (.nm 1) (.call 23 (.cn (.va 0) (.cn (.vl (.lst (.cn (.c (.int 9)) (.cn (.bin .pow (.c (.int 10)) (.c (.int 6))) (.cn (.bin .pow (.c (.int 10)) (.c (.int 20))) .nl))))) .nl)))) (.sq (.set (.tp (.cn (.nm 2) (.cn (.nm 3) (.cn (.nm 4) .nl)))) (.lc (.nm 5) (.it1 .range (.cn (.c (.int 3)) .nl)) (.tr (.c (.bl true))) (.call 27 (.cn (.vl (.bin .add (.c (.int 1)) (.call 22 (.cn (.va 0) (.cn (.va 1) .nl))))) (.cn (.vl (.bin .add (.c (.int 1)) (.call 22 (.cn (.va 0) (.cn (.va 1) .nl))))) .nl))) [5])) (.sq (.ifS (.cmp .eq (.call 22 (.cn (.va 0) (.cn (.vl (.c (.int 4))) .nl))) (.c (.int 0))) (.sq (.set (.nm 3) (.v 2)) .skip) .skip) (.sq (.set (.tp (.cn (.nm 6) (.cn (.nm 7) .nl))) (.ite (.tr (.call 32 (.cn (.va 4) (.cn (.va 3) .nl)))) (.tup (.cn (.v 4) (.cn (.v 3) .nl))) (.tup (.cn (.v 3) (.cn (.v 4) .nl))))) (.sq (.set (.nm 8) (.lst (.cn (.call 33 (.cn (.va 2) (.cn (.va 6) .nl))) (.cn (.call 33 (.cn (.va 2) (.cn (.va 7) .nl))) .nl)))) (.sq (.set (.nm 9) (.ite (.tr (.call 32 (.cn (.vl (.ix (.v 8) (.c (.int 0)))) (.cn (.vl (.ix (.v 8) (.c (.int 1)))) .nl)))) (.ix (.v 8) (.c (.int 1))) (.ix (.v 8) (.c (.int 0))))) (.sq (.ifS (.or (.not (.tr (.call 24 (.cn (.vl (.tup (.cn (.call 20 (.cn (.va 2) (.cn (.va 6) (.cn (.va 7) .nl)))) (.cn (.call 20 (.cn (.va 2) (.cn (.va 6) (.cn (.va 7) .nl)))) .nl)))) (.cn (.vl (.tup (.cn (.v 9) (.cn (.v 9) .nl)))) .nl))))) (.not (.tr (.call 32 (.cn (.va 9) (.cn (.vl (.tup (.cn (.c (.int 1)) (.cn (.c (.int 1)) .nl)))) .nl)))))) (.sq (.ret (.c (.bl false))) .skip) .skip) (.sq (.forS (.nm 10) (.it1 .val (.cn (.lst (.cn (.tup (.cn (.c (.int 0)) (.cn (.c (.int 1)) .nl))) (.cn (.tup (.cn (.c (.int 1)) (.cn (.c (.int 3)) .nl))) (.cn (.tup (.cn (.c (.int 1)) (.cn (.c (.int 2)) .nl))) (.cn (.tup (.cn (.c (.int 9)) (.cn (.c (.int 10)) .nl))) (.cn (.tup (.cn (.c (.int 1)) (.cn (.c (.int 1)) .nl))) .nl)))))) .nl)) (.sq (.set (.nm 11) (.call 28 (.cn (.va 6) (.cn (.vl (.call 30 (.cn (.va 10) (.cn (.vl (.call 29 (.cn (.va 7) (.cn (.va 6) .nl)))) .nl)))) .nl)))) (.sq (.ifS (.cmp .lt (.bf .max (.cn (.v 11) .nl)) (.bin .pow (.c (.int 10)) (.c (.int 40)))) (.sq (.set (.nm 12) (.call 31 (.cn (.vl (.call 18 (.cn (.vl (.tup (.cn (.c (.int 3)) (.cn (.c (.int 7)) .nl)))) (.cn (.va 2) (.cn (.vl (.tup (.cn (.c (.int 1)) (.cn (.c (.int 1)) .nl)))) (.cn (.va 11) .nl)))))) (.cn (.vl (.call 17 (.cn (.vl (.tup (.cn (.c (.int 3)) (.cn (.c (.int 7)) .nl)))) (.cn (.va 2) (.cn (.vl (.tup (.cn (.c (.int 1)) (.cn (.c (.int 1)) .nl)))) (.cn (.va 11) .nl)))))) .nl)))) (.sq (.ifS (.or (.cmp .ne (.v 12) (.call 33 (.cn (.va 2) (.cn (.va 11) .nl)))) (.tr (.call 32 (.cn (.va 9) (.cn (.va 12) .nl))))) (.sq (.ret (.c (.bl false))) .skip) .skip) .skip)) .skip) .skip))) (.sq (.ifS (.and (.tr (.call 32 (.cn (.va 6) (.cn (.va 7) .nl)))) (.not (.tr (.call 24 (.cn (.vl (.call 26 (.cn (.lam 1 [2, 7, 6]) .nl))) (.cn (.vl (.tup (.cn (.c (.str [114, 101, 102, 117, 115, 101, 100])) (.cn (.neg (.c (.int 1))) .nl)))) .nl)))))) (.sq (.ret (.c (.bl false))) .skip) .skip) (.sq (.ret (.call 24 (.cn (.vl (.call 20 (.cn (.va 2) (.cn (.va 2) (.cn (.va 2) .nl))))) (.cn (.vl (.tup (.cn (.c (.int 0)) (.cn (.c (.int 1)) .nl)))) .nl)))) .skip))))))))))
def b_law : MS := (.sq (.set (.nm 1) (.call 21 (.cn (.va 0) .nl))) (.sq (.forS (.nm 2) (.it1 .range (.cn (.c (.int 14)) .nl)) (.sq (.ifS (.not (.tr (.call 34 (.cn (.va 1) .nl)))) (.sq (.ret (.c (.bl false))) .skip) .skip) .skip)) (.sq (.set (.nm 3) (.lst (.cn (.c .non) (.cn (.c (.int 1)) (.cn (.tup (.cn (.c (.int 0)) (.cn (.c (.int 1)) .nl))) (.cn (.tup (.cn (.neg (.c (.int 1))) (.cn (.c (.int 2)) .nl))) (.cn (.tup (.cn (.c (.int 2)) (.cn (.c (.int 4)) .nl))) (.cn (.tup (.cn (.c (.int 1)) (.cn (.c (.int 0)) .nl))) (.cn (.lst (.cn (.c (.int 1)) (.cn (.c (.int 2)) .nl))) (.cn (.tup (.cn (.c (.bl true)) (.cn (.c (.int 1)) .nl))) (.cn (.tup (.cn (.bin .pow (.c (.int 10)) (.c (.int 40))) (.cn (.c (.int 1)) .nl))) (.cn (.tup (.cn (.c (.int 1)) (.cn (.bin .pow (.c (.int 10)) (.c (.int 40))) .nl))) .nl)))))))))))) (.sq (.ifS (.or (.not (.tr (.call 25 (.cn (.lam 3 []) (.cn (.va 3) (.cn (.vl (.tup (.cn (.c (.str [102, 114, 97, 99, 116, 105, 111, 110])) (.cn (.c (.int 0)) .nl)))) .nl)))))) (.not (.tr (.call 25 (.cn (.lam 2 []) (.cn (.va 3) (.cn (.vl (.tup (.cn (.c (.str [102, 114, 97, 99, 116, 105, 111, 110])) (.cn (.c (.int 1)) .nl)))) .nl))))))) (.sq (.ret (.c (.bl false))) .skip) .skip) (.sq (.ifS (.not (.tr (.call 25 (.cn (.lam 4 []) (.cn (.va 3) (.cn (.vl (.tup (.cn (.c (.str [102, 114, 97, 99, 116, 105, 111, 110])) (.cn (.c (.int 2)) .nl)))) .nl)))))) (.sq (.ret (.c (.bl false))) .skip) .skip) (.sq (.set (.nm 4) (.tup (.cn (.call 20 (.cn (.vl (.tup (.cn (.c (.int 1)) (.cn (.c (.int 1)) .nl)))) (.cn (.vl (.tup (.cn (.c (.int 1)) (.cn (.c (.int 2)) .nl)))) (.cn (.vl (.tup (.cn (.c (.int 2)) (.cn (.c (.int 1)) .nl)))) .nl)))) (.cn (.call 20 (.cn (.vl (.tup (.cn (.c (.int 1)) (.cn (.c (.int 1)) .nl)))) (.cn (.vl (.tup (.cn (.c (.int 1)) (.cn (.c (.int 2)) .nl)))) (.cn (.vl (.tup (.cn (.c (.int 1)) (.cn (.c (.int 1)) .nl)))) .nl)))) (.cn (.call 20 (.cn (.vl (.tup (.cn (.c (.int 2)) (.cn (.c (.int 1)) .nl)))) (.cn (.vl (.tup (.cn (.c (.int 2)) (.cn (.c (.int 1)) .nl)))) (.cn (.vl (.tup (.cn (.c (.int 6)) (.cn (.c (.int 1)) .nl)))) .nl)))) (.cn (.call 20 (.cn (.vl (.tup (.cn (.c (.int 1)) (.cn (.c (.int 1)) .nl)))) (.cn (.vl (.tup (.cn (.c (.int 1)) (.cn (.bin .pow (.c (.int 10)) (.c (.int 30))) .nl)))) (.cn (.vl (.tup (.cn (.c (.int 1)) (.cn (.c (.int 1)) .nl)))) .nl)))) .nl)))))) (.sq (.set (.nm 5) (.bin .pow (.c (.int 10)) (.c (.int 30)))) (.sq (.ret (.call 24 (.cn (.va 4) (.cn (.vl (.tup (.cn (.tup (.cn (.c (.int 1)) (.cn (.c (.int 5)) .nl))) (.cn (.tup (.cn (.c (.int 1)) (.cn (.c (.int 5)) .nl))) (.cn (.tup (.cn (.c (.int 2)) (.cn (.c (.int 5)) .nl))) (.cn (.call 27 (.cn (.vl (.bin .mul (.bin .sub (.v 5) (.c (.int 1))) (.bin .sub (.v 5) (.c (.int 1))))) (.cn (.vl (.bin .add (.bin .mul (.v 5) (.v 5)) (.c (.int 1)))) .nl))) .nl)))))) .nl)))) .skip))))))))
def l_0 : La := ⟨0, [], (.clv 0 (.cn (.va 1) .nl))⟩
def l_1 : La := ⟨0, [], (.call 20 (.cn (.va 0) (.cn (.va 1) (.cn (.va 2) .nl))))⟩
def l_2 : La := ⟨1, [], (.call 20 (.cn (.vl (.tup (.cn (.c (.int 1)) (.cn (.c (.int 1)) .nl)))) (.cn (.va 0) (.cn (.vl (.c .non)) .nl))))⟩
def l_3 : La := ⟨1, [], (.call 20 (.cn (.va 0) (.cn (.vl (.c .non)) (.cn (.vl (.c .non)) .nl))))⟩
def l_4 : La := ⟨1, [], (.call 20 (.cn (.vl (.tup (.cn (.c (.int 1)) (.cn (.c (.int 1)) .nl)))) (.cn (.vl (.tup (.cn (.c (.int 5)) (.cn (.c (.int 1)) .nl)))) (.cn (.va 0) .nl))))⟩
def fnL : List Fn := [⟨1, 1, b_is_integer⟩,
 ⟨2, 2, b_is_paper_of⟩,
 ⟨2, 3, b_fr⟩,
 ⟨2, 2, b_added 2⟩,
 ⟨2, 2, b_lessened 2⟩,
 ⟨2, 2, b_multiplied 2⟩,
 ⟨2, 2, b_divided 2⟩,
 ⟨2, 2, b_lesser⟩,
 ⟨1, 1, b_is_frac 1 0⟩,
 ⟨2, 2, b_is_frac_below 8⟩,
 ⟨1, 1, b_is_broad 9 0⟩,
 ⟨1, 1, b_told_frac 1 1⟩,
 ⟨1, 3, b_need_above_all 10 0⟩,
 ⟨1, 1, b_square_of 5⟩,
 ⟨2, 2, b_held_of 5 6⟩,
 ⟨3, 3, b_worth_by 3 5 13⟩,
 ⟨4, 4, b_loss_told 6 5 13 4⟩,
 ⟨4, 4, b_kept_worth 12 11 15 14⟩,
 ⟨4, 4, b_keeper_loss 12 11 16⟩,
 ⟨2, 3, b_part_lost⟩,
 ⟨3, 4, b_most_loss⟩,
 ⟨1, 6, boxB 90071 37561⟩,
 ⟨2, 3, b__law_take⟩,
 ⟨2, 2, b__law_pick 22⟩,
 ⟨2, 4, b__law_is 24⟩,
 ⟨3, 4, b__law_all 24 26 0⟩,
 ⟨1, 2, b__law_error⟩,
 ⟨2, 5, b__law_fr_v1⟩,
 ⟨2, 2, b_added 27⟩,
 ⟨2, 2, b_lessened 27⟩,
 ⟨2, 2, b_multiplied 27⟩,
 ⟨2, 2, b_divided 27⟩,
 ⟨2, 2, b_lesser⟩,
 ⟨2, 3, b__law_lost⟩,
 ⟨1, 13, b__law_one⟩,
 ⟨1, 6, b_law⟩]
def prg : Prg := ⟨[(.int 10000000000000000000000000000000000000000), (.int 1000000000000000000000000000000000000000000000000000000000000000000000000000000000000000000000000000000000000000000000000000000000000000000000000000000000000000000000000000000000000000000000000000000000000000000000000000000000000000000000000000000000000000000000000000000000000000000000000000000000000000000000000000000000000000000000000000000000000000000000000000000000000000000000000000000000000000000000000000000000000000000000000000000000000000000000000000000000000000000000000000000000000000000000000000000000000000000000000000000000000000000000000000000000000000000000000000000000000000000000000000000000000000000000000000000000000000000000000000000000000000000000000000000000000000000000000000000000000000000000000000000000000000000000000000000000000000000000000000000000000000000000000000000000000000000000000000000000000000000000000000000000000000000000000000000000000000000000000000000000000000000000000000000000000000000000000000000000000000000000000000000000000000000000000000000000000000000000000000000000000000000000000000000000000000000000000000000000000000000000000000000000000000000000000000000000000000000000000000000000000000000000000000000000000000000000000000000000000000000000000000000000000000000000000000000000000000000000000000000000000000000000000000000000000000000000000000000000000000000000000000000000000000000000000000000000000000000000000000000000000000000000000000000000000000000000000000000000000000000000000000000000000000000000000000000000000000000000000000000000000000000000000000000000000000000000000000000000000000000000000000000000000000000000000000000000000000000000000000000000000000000000000000000000000000000000000000000000000000000000000000000000000000000000000000000000000000000000000000000000000000000000000000000000000000000000000000000000000000000000000000000000000000000000000000000000000000000000000000000000000000000000000000000000000000000000000000000000000000000000000000000000000000000000000000000000000000000000000000000000000000000000000000000000000000000000000000000000000000000000000000000000000000000000000000000000000000000000000000000000000000000000000000000000000000000000000000000000000000000000000000000000000000000000000000000000000000000000000000000000000000000000000000000000000000000000000000000000000000000000000000000000000000000000000000000000000000000000000000000000000000000000000000000000000000000000000000000000000000000000000000000000000000000000000000000000000000000000000000000000000000000000000000000000000000000000000000000000000000000000000000000000000000000000000000000000000000000000000000000000000000000000000000000000000000000000000000000000000000000000000000000000000000000000000000000000000000000000000000000000000000000000000000000000000000000000000000000000000000000000000000000000000000000000000000000000000000000000000000000000000000000000000000000000000000000000000000000000000000000000000000000000000000000000000000000000000000000000000000000000000000000000000000000000000000000000000000000000000000000000000), (.tup [(.int 1), (.int 1)])], [1, 1, 1], fnL, [l_0, l_1, l_2, l_3, l_4]⟩
end Lw
set_option linter.all false
set_option maxRecDepth 100000
set_option maxHeartbeats 0
namespace Lw
open PySem L2 Mi

def top (i : Nat) : Stmt := PySem.Challenge.pw_onepool_k69_whole_the_most_a_keeper_lose.main.body.getD i (.Pass ⟨0, 0, 0, 0⟩)
def dfs : List Df := [⟨"is_integer", top 7, ["value"], ["value"], false, b_is_integer⟩,
  ⟨"is_paper_of", top 8, ["value", "many"], ["value", "many"], false, b_is_paper_of⟩,
  ⟨"fr", top 13, ["upper", "lower", "shared"], ["upper", "lower"], false, b_fr⟩,
  ⟨"added", top 14, ["one", "other"], ["one", "other"], false, b_added 2⟩,
  ⟨"lessened", top 15, ["one", "other"], ["one", "other"], false, b_lessened 2⟩,
  ⟨"multiplied", top 16, ["one", "other"], ["one", "other"], false, b_multiplied 2⟩,
  ⟨"divided", top 17, ["one", "other"], ["one", "other"], false, b_divided 2⟩,
  ⟨"lesser", top 18, ["one", "other"], ["one", "other"], false, b_lesser⟩,
  ⟨"is_frac", top 19, ["value"], ["value"], false, b_is_frac 1 0⟩,
  ⟨"is_frac_below", top 20, ["value", "limit"], ["value", "limit"], false, b_is_frac_below 8⟩,
  ⟨"is_light", top 21, ["value"], ["value"], false, b_is_broad 9 0⟩,
  ⟨"told_frac", top 22, ["one"], ["one"], false, b_told_frac 1 1⟩,
  ⟨"need_above_all", top 24, ["values", "at", "one"], ["values"], false, b_need_above_all 10 0⟩,
  ⟨"squared", top 25, ["one"], ["one"], false, b_square_of 5⟩,
  ⟨"held_of", top 26, ["weight", "rate"], ["weight", "rate"], false, b_held_of 5 6⟩,
  ⟨"worth_by", top 27, ["held", "first", "second"], ["held", "first", "second"], false, b_worth_by 3 5 13⟩,
  ⟨"loss_told", top 28, ["weight", "rate", "first", "second"], ["weight", "rate", "first", "second"], false, b_loss_told 6 5 13 4⟩,
  ⟨"kept_worth", top 29, ["weight", "rate", "first", "second"], ["weight", "rate", "first", "second"], false, b_kept_worth 12 11 15 14⟩,
  ⟨"keeper_loss", top 30, ["weight", "rate", "first", "second"], ["weight", "rate", "first", "second"], false, b_keeper_loss 12 11 16⟩,
  ⟨"part_lost", top 31, ["rate", "second", "ratio"], ["rate", "second"], false, b_part_lost⟩,
  ⟨"most_loss", top 32, ["rate", "low", "high", "both"], ["rate", "low", "high"], false, b_most_loss⟩,
  ⟨"_law_box", top 34, ["script", "rest", "state", "k", "cell", "size"], ["script"], false, boxB 90071 37561⟩,
  ⟨"_law_take", top 35, ["box", "many", "cell"], ["box", "many"], false, b__law_take⟩,
  ⟨"_law_pick", top 36, ["box", "some"], ["box", "some"], false, b__law_pick 22⟩,
  ⟨"_law_is", top 37, ["told", "due", "one", "other"], ["told", "due"], false, b__law_is 24⟩,
  ⟨"_law_all", top 38, ["ask", "some", "due", "one"], ["ask", "some", "due"], true, b__law_all 24 26 0⟩,
  ⟨"_law_error", top 39, ["call", "e"], ["call"], false, b__law_error⟩,
  ⟨"_law_fr", top 40, ["upper", "lower", "one", "other", "turn"], ["upper", "lower"], false, b__law_fr_v1⟩,
  ⟨"_law_add", top 41, ["one", "other"], ["one", "other"], false, b_added 27⟩,
  ⟨"_law_sub", top 42, ["one", "other"], ["one", "other"], false, b_lessened 27⟩,
  ⟨"_law_mul", top 43, ["one", "other"], ["one", "other"], false, b_multiplied 27⟩,
  ⟨"_law_div", top 44, ["one", "other"], ["one", "other"], false, b_divided 27⟩,
  ⟨"_law_lt", top 45, ["one", "other"], ["one", "other"], false, b_lesser⟩,
  ⟨"_law_lost", top 46, ["rate", "second", "kept"], ["rate", "second"], false, b__law_lost⟩,
  ⟨"_law_one", top 47, ["box", "high", "rate", "one", "other", "turn", "low", "top", "ends", "due", "part", "second", "told"], ["box"], true, b__law_one⟩,
  ⟨"law", top 48, ["script", "box", "turn", "bads", "some", "edge"], ["script"], true, b_law⟩]
def M : Md :=
  { pm := PySem.Challenge.pw_onepool_k69_whole_the_most_a_keeper_lose
    dfs := dfs
    cls := [("InvalidFraction", ["at"]), ("InvalidSize", ["word"]), ("Refused", ["at"])]
    gcs := [("LIGHT", (.int 10000000000000000000000000000000000000000)), ("BEYOND", (.int 1000000000000000000000000000000000000000000000000000000000000000000000000000000000000000000000000000000000000000000000000000000000000000000000000000000000000000000000000000000000000000000000000000000000000000000000000000000000000000000000000000000000000000000000000000000000000000000000000000000000000000000000000000000000000000000000000000000000000000000000000000000000000000000000000000000000000000000000000000000000000000000000000000000000000000000000000000000000000000000000000000000000000000000000000000000000000000000000000000000000000000000000000000000000000000000000000000000000000000000000000000000000000000000000000000000000000000000000000000000000000000000000000000000000000000000000000000000000000000000000000000000000000000000000000000000000000000000000000000000000000000000000000000000000000000000000000000000000000000000000000000000000000000000000000000000000000000000000000000000000000000000000000000000000000000000000000000000000000000000000000000000000000000000000000000000000000000000000000000000000000000000000000000000000000000000000000000000000000000000000000000000000000000000000000000000000000000000000000000000000000000000000000000000000000000000000000000000000000000000000000000000000000000000000000000000000000000000000000000000000000000000000000000000000000000000000000000000000000000000000000000000000000000000000000000000000000000000000000000000000000000000000000000000000000000000000000000000000000000000000000000000000000000000000000000000000000000000000000000000000000000000000000000000000000000000000000000000000000000000000000000000000000000000000000000000000000000000000000000000000000000000000000000000000000000000000000000000000000000000000000000000000000000000000000000000000000000000000000000000000000000000000000000000000000000000000000000000000000000000000000000000000000000000000000000000000000000000000000000000000000000000000000000000000000000000000000000000000000000000000000000000000000000000000000000000000000000000000000000000000000000000000000000000000000000000000000000000000000000000000000000000000000000000000000000000000000000000000000000000000000000000000000000000000000000000000000000000000000000000000000000000000000000000000000000000000000000000000000000000000000000000000000000000000000000000000000000000000000000000000000000000000000000000000000000000000000000000000000000000000000000000000000000000000000000000000000000000000000000000000000000000000000000000000000000000000000000000000000000000000000000000000000000000000000000000000000000000000000000000000000000000000000000000000000000000000000000000000000000000000000000000000000000000000000000000000000000000000000000000000000000000000000000000000000000000000000000000000000000000000000000000000000000000000000000000000000000000000000000000000000000000000000000000000000000000000000000000000000000000000000000000000000000000000000000000000000000000000000000000000000000000000000000000000000000000000000000000000000000000000000000000000000000000000000000000000000000000000000000000000000)), ("WHOLE", (.tup [(.int 1), (.int 1)]))]
    bs := ["abs", "bool", "enumerate", "int", "isinstance", "len", "max", "range", "str", "tuple", "zip"]
    gcd := true
    las := [l_0, l_1, l_2, l_3, l_4]}
theorem prg_eq : M.prg = prg := rfl
theorem okD : M.dfs.all M.dfB = true := by decide +kernel
theorem okK : (M.laT.map (·.1)).Nodup := by decide +kernel
theorem okL : (List.range M.las.length).all (fun k => match M.las[k]? with | some L => M.laB k L | none => false) = true := by decide +kernel
theorem ok : M.Ok where
  df := fun d hd => List.all_eq_true.mp okD d hd
  keys := okK
  la := fun k L e => by
    have z := List.all_eq_true.mp okL k (List.mem_range.mpr (List.getElem?_eq_some_iff.mp e).1)
    simp only [e] at z
    exact z
  top := by decide +kernel
  cf := by decide +kernel
abbrev R : PySem.W.OpenRow := PySem.W.OpenLaw.row PySem.Challenge.rw_onepool_k69_whole_the_most_a_keeper_lose
def lo0 : List PySem.Str := ["PoolError", "InvalidFraction", "InvalidSize", "Refused", "is_integer", "is_paper_of", "fr", "added", "lessened", "multiplied", "divided", "lesser", "is_frac", "is_frac_below", "is_light", "told_frac", "need_above_all", "squared", "held_of", "worth_by", "loss_told", "kept_worth", "keeper_loss", "part_lost", "most_loss", "_law_box", "_law_take", "_law_pick", "_law_is", "_law_all"]
def lo1 : List PySem.Str := ["_law_error", "_law_fr", "_law_add", "_law_sub", "_law_mul", "_law_div", "_law_lt", "_law_lost", "_law_one", "BEYOND", "LIGHT", "WHOLE"]
def lo : List PySem.Str := lo0 ++ (lo1)
end Lw
set_option linter.all false
set_option maxRecDepth 100000
set_option maxHeartbeats 0
namespace Lw
open PySem L2 Mi
theorem run (w : World) : HandSHeadRun.RunEqI R (PySem.W.view R.prog [0, 48]) (hookM 5 M) (obM 5 M) 4000 lo w := by
  unfold HandSHeadRun.RunEqI; kernel_rfl
end Lw
set_option linter.all false
set_option maxRecDepth 100000
set_option maxHeartbeats 4000000
set_option exponentiation.threshold 100000
namespace Lw
open Mi
section
variable {n : Nat} {h : Hd} {p q r s t w : Rat}
theorem fr2 : FrOk prg 0 2 1 := frOk_0 rfl
theorem fr27 : FrOk prg 0 27 1 := frOk_1 rfl
theorem c_added (hb : bt p + bt q ≤ 8000) : (evN prg 0 (n + 2)).cf 3 [fq p, fq q] h = .ok (fq (p + q)) h := added_ok rfl fr2 hb
theorem c_lessened (hb : bt p + bt q ≤ 8000) : (evN prg 0 (n + 2)).cf 4 [fq p, fq q] h = .ok (fq (p - q)) h := lessened_ok rfl fr2 hb
theorem c_multiplied (hb : bt p + bt q ≤ 8000) : (evN prg 0 (n + 2)).cf 5 [fq p, fq q] h = .ok (fq (p * q)) h := multiplied_ok rfl fr2 hb
theorem c_divided (hb : bt p + bt q ≤ 8000) (hq : 0 < q) : (evN prg 0 (n + 2)).cf 6 [fq p, fq q] h = .ok (fq (p / q)) h := divided_ok rfl fr2 hb hq
theorem c_lesser (hb : bt p + bt q ≤ 8000) : (evN prg 0 (n + 1)).cf 7 [fq p, fq q] h = .ok (.bl (decide (p < q))) h := lesser_ok rfl hb
theorem c_squared (hb : bt p ≤ 4000) : (evN prg 0 (n + 3)).cf 13 [fq p] h = .ok (fq (p * p)) h := squared_ok rfl rfl fr2 hb
theorem l_add (hb : bt p + bt q ≤ 8000) : (evN prg 0 (n + 2)).cf 28 [fq p, fq q] h = .ok (fq (p + q)) h := added_ok rfl fr27 hb
theorem l_sub (hb : bt p + bt q ≤ 8000) : (evN prg 0 (n + 2)).cf 29 [fq p, fq q] h = .ok (fq (p - q)) h := lessened_ok rfl fr27 hb
theorem l_mul (hb : bt p + bt q ≤ 8000) : (evN prg 0 (n + 2)).cf 30 [fq p, fq q] h = .ok (fq (p * q)) h := multiplied_ok rfl fr27 hb
theorem l_div (hb : bt p + bt q ≤ 8000) (hq : 0 < q) : (evN prg 0 (n + 2)).cf 31 [fq p, fq q] h = .ok (fq (p / q)) h := divided_ok rfl fr27 hb hq
theorem l_lt (hb : bt p + bt q ≤ 8000) : (evN prg 0 (n + 1)).cf 32 [fq p, fq q] h = .ok (.bl (decide (p < q))) h := lesser_ok rfl hb
/-- may be passed -/
def Lt40 (q : Rat) : Prop := q.num.natAbs < 10 ^ 40 ∧ q.den < 10 ^ 40
theorem c_light (hq : Lt40 q) : (evN prg 0 (n + 4)).cf 10 [fq q] h = .ok (.bl true) h := is_light_fq rfl rfl rfl rfl rfl (L := 10 ^ 40) rfl hq.1 hq.2
theorem c_told (hb : bt q ≤ 9000) : (evN prg 0 (n + 1)).cf 11 [fq q] h = .ok (fq q) h := by
  refine told_frac_ok rfl (L := 10 ^ 3000) (show prg.gc[1]? = some (.int ((10 ^ 3000 : Nat) : Int)) from congrArg (fun z : Int => some (D.int z)) (by decide +kernel)) ?_ ?_
  · exact Nat.lt_of_lt_of_le (Nat.lt_of_lt_of_le (num_lt q) (Nat.pow_le_pow_right (by decide) hb)) (by decide +kernel)
  · exact Nat.lt_of_lt_of_le (Nat.lt_of_lt_of_le (den_lt q) (Nat.pow_le_pow_right (by decide) hb)) (by decide +kernel)
theorem num_pos (hq : 0 < q) : ¬ q.num ≤ 0 := by
  have h1 : q ≠ 0 := fun z => by rw [z] at hq; exact Rat.lt_irrefl hq
  have h2 := num_ne h1
  have h3 := Rat.num_nonneg.mpr (Rat.le_of_lt hq)
  omega
def needB : MS := (.sq (.ifS (.or (.not (.tr (.call 10 (.cn (.va 2) .nl)))) (.cmp .le (.ix (.v 2) (.c (.int 0))) (.c (.int 0)))) (.sq (.rais 0 (.cn (.v 1) .nl)) .skip) .skip) .skip)
theorem need_step {a b c : Option D} {k : Int} (hq : Lt40 q) (hp : 0 < q) : stepF (evN prg 0 (n + 4)) 0 (.tp (.cn (.nm 1) (.cn (.nm 2) .nl))) needB (.tup [.int k, fq q]) [a, b, c] h = .nx [a, some (.int k), some (fq q)] h := by
  rw [stepF_d]
  simp [needB, c_light hq, num_pos hp]
theorem need_loop {a : Option D} {st : Hd → Bool} (hst : st h = true) : ∀ (qs : List Rat) (k : Int) (b c : Option D), (∀ q ∈ qs, Lt40 q ∧ 0 < q) →
    ∃ b' c', forE (stepF (evN prg 0 (n + 4)) 0 (.tp (.cn (.nm 1) (.cn (.nm 2) .nl))) needB) st (enumD k (qs.map fq)) [a, b, c] h = .nx [a, b', c'] h
  | [], k, b, c, _ => ⟨b, c, by simp [enumD, hst]⟩
  | q :: qs, k, b, c, hq => by
    obtain ⟨b', c', e⟩ := need_loop (a := a) hst qs (k + 1) (some (.int k)) (some (fq q)) fun x hx => hq x (List.mem_cons_of_mem _ hx)
    refine ⟨b', c', ?_⟩
    obtain ⟨h1, h2⟩ := hq q List.mem_cons_self
    rw [List.map_cons, enumD, forE_nx hst (need_step h1 h2)]
    exact e
theorem c_need (qs : List Rat) (hq : ∀ q ∈ qs, Lt40 q ∧ 0 < q) : (evN prg 0 (n + 5)).cf 12 [.tup (qs.map fq)] h = .ok (.tup (qs.map fq)) h := by
  rw [ev_cf (F := ⟨1, 3, b_need_above_all 10 0⟩) rfl rfl]
  obtain ⟨b', c', e⟩ := need_loop (n := n) (h := h) (a := some (.tup (qs.map fq))) (st := staysB h [.tup (qs.map fq)]) rfl qs 0 none none hq
  have e0 : b_need_above_all 10 0 = (.sq (.forS (.tp (.cn (.nm 1) (.cn (.nm 2) .nl))) (.it1 .enum (.cn (.v 0) .nl)) needB) (.sq (.ret (.v 0)) .skip)) := rfl
  rw [e0]
  simp
  rw [e]
  simp
theorem c_need3 (h1 : Lt40 p ∧ 0 < p) (h2 : Lt40 q ∧ 0 < q) (h3 : Lt40 r ∧ 0 < r) : (evN prg 0 (n + 5)).cf 12 [.tup [fq p, fq q, fq r]] h = .ok (.tup [fq p, fq q, fq r]) h := c_need [p, q, r] (by simp [h1, h2, h3])
theorem c_need4 (h1 : Lt40 p ∧ 0 < p) (h2 : Lt40 q ∧ 0 < q) (h3 : Lt40 r ∧ 0 < r) (h4 : Lt40 s ∧ 0 < s) : (evN prg 0 (n + 5)).cf 12 [.tup [fq p, fq q, fq r, fq s]] h = .ok (.tup [fq p, fq q, fq r, fq s]) h := c_need [p, q, r, s] (by simp [h1, h2, h3, h4])
/-! ### the def's values -/
/-- what is lost, by the program -/
def plost (r s : Rat) : Rat := (1 - s / r) * (1 - s / r) / (1 + s / r * (s / r))
theorem sq_pos1 (x : Rat) : 0 < 1 + x * x := by
  have : 0 ≤ x * x := by
    rcases Rat.le_total (a := 0) (b := x) with z | z
    · exact Rat.mul_nonneg z z
    · have := Rat.mul_nonneg (a := -x) (b := -x) (by grind) (by grind)
      grind
  grind
theorem bt_one : bt 1 = 1 := by decide
theorem bt_two : bt 2 = 2 := by decide
theorem bt_sr {B : Nat} (hr : bt r ≤ 100) (hs : bt s ≤ B) : bt (s / r) ≤ B + 100 := by have := bt_div s r; omega
theorem c_part (hr : bt r ≤ 100) (hs : bt s ≤ 300) (h0 : 0 < r) : (evN prg 0 (n + 4)).cf 19 [fq r, fq s] h = .ok (fq (plost r s)) h := by
  rw [ev_cf (F := ⟨2, 3, b_part_lost⟩) rfl rfl]
  have b1 := bt_sr hr hs
  have b2 : bt (1 - s / r) ≤ 402 := by have := bt_sub 1 (s / r); rw [bt_one] at this; omega
  have b3 : bt ((1 - s / r) * (1 - s / r)) ≤ 804 := by have := bt_mul (1 - s / r) (1 - s / r); omega
  have b4 : bt (s / r * (s / r)) ≤ 800 := by have := bt_mul (s / r) (s / r); omega
  have b5 : bt (1 + s / r * (s / r)) ≤ 802 := by have := bt_add 1 (s / r * (s / r)); rw [bt_one] at this; omega
  have e1 : (evN prg 0 (n + 3)).gc 2 = fq 1 := gc_get rfl
  have d1 : (evN prg 0 (n + 3)).cf 6 [fq s, fq r] h = .ok (fq (s / r)) h := c_divided (by omega) h0
  have d2 : (evN prg 0 (n + 3)).cf 4 [fq 1, fq (s / r)] h = .ok (fq (1 - s / r)) h := c_lessened (by rw [bt_one]; omega)
  have d3 : (evN prg 0 (n + 3)).cf 13 [fq (1 - s / r)] h = .ok (fq ((1 - s / r) * (1 - s / r))) h := c_squared (by omega)
  have d4 : (evN prg 0 (n + 3)).cf 13 [fq (s / r)] h = .ok (fq (s / r * (s / r))) h := c_squared (by omega)
  have d5 : (evN prg 0 (n + 3)).cf 3 [fq 1, fq (s / r * (s / r))] h = .ok (fq (1 + s / r * (s / r))) h := c_added (by rw [bt_one]; omega)
  have d6 : (evN prg 0 (n + 3)).cf 6 [fq ((1 - s / r) * (1 - s / r)), fq (1 + s / r * (s / r))] h = .ok (fq (plost r s)) h := c_divided (by omega) (sq_pos1 _)
  simp [b_part_lost, d1, e1, d2, d3, d4, d5, d6]
end
end Lw
set_option maxHeartbeats 1000000
namespace Lw
/-- what is lost, by the law -/
def lost (r s : Rat) : Rat := (r + s * s / r - 2 * s) / (r + s * s / r)
theorem div_of {a b c : Rat} (hb : b ≠ 0) (h : a = c * b) : a / b = c := by
  rw [h]
  exact Rat.mul_div_cancel hb
theorem lost_n {r s : Rat} (hr : 0 < r) (hs : 0 < s) : 0 < r * r + s * s := by
  have := Rat.mul_pos hr hr
  have := Rat.mul_pos hs hs
  grind
theorem lost_eq {r s : Rat} (hr : 0 < r) (hs : 0 < s) : lost r s = 1 - 2 * r * s / (r * r + s * s) := by
  have h1 := lost_n hr hs
  have h2 : r + s * s / r = (r * r + s * s) / r := by grind
  unfold lost
  rw [h2]
  grind
theorem plost_eq {r s : Rat} (hr : 0 < r) (hs : 0 < s) : plost r s = lost r s := by
  have h1 := lost_n hr hs
  have h2 : 1 + s / r * (s / r) = (r * r + s * s) / (r * r) := by grind
  rw [lost_eq hr hs]
  unfold plost
  rw [h2]
  have h3 : (r * r + s * s) / (r * r) ≠ 0 := by
    have := Rat.mul_pos hr hr
    intro z
    have e : (r * r + s * s) = (r * r + s * s) / (r * r) * (r * r) := (Rat.div_mul_cancel (by grind)).symm
    rw [z] at e
    grind
  refine div_of h3 ?_
  have h4 : (1 - 2 * r * s / (r * r + s * s)) * ((r * r + s * s) / (r * r)) = (r * r + s * s - 2 * r * s) / (r * r) := by grind
  rw [h4]
  have h5 : r * r ≠ 0 := by have := Rat.mul_pos hr hr; grind
  refine (div_of h5 ?_).symm
  have h6 : s / r * r = s := Rat.div_mul_cancel (by grind)
  generalize s / r = z at h6
  grind
theorem lost_lt {r s : Rat} (hr : 0 < r) (hs : 0 < s) : lost r s < 1 := by
  have h1 := lost_n hr hs
  rw [lost_eq hr hs]
  have h2 : 0 < 2 * r * s / (r * r + s * s) := by
    have := Rat.mul_pos hr hs
    rw [Rat.lt_div_iff h1]
    grind
  grind
/-- the told quotient -/
theorem told_eq {r s : Rat} (hr : 0 < r) (hs : 0 < s) : (3 / 7 * ((1 * r - s) * (1 * r - s)) / r) / (3 / 7 * r * (1 * 1) + 3 / 7 / r * (s * s)) = lost r s := by
  have h1 := lost_n hr hs
  have h2 : 3 / 7 * r * (1 * 1) + 3 / 7 / r * (s * s) = 3 / 7 * ((r * r + s * s) / r) := by grind
  rw [h2, lost_eq hr hs]
  grind
theorem lost_mono1 {r x y : Rat} (hr : 0 < r) (hx : 0 < x) (hxy : x ≤ y) (hy : y ≤ r) : lost r y ≤ lost r x := by
  have hy0 : 0 < y := by grind
  have h1 := lost_n hr hx
  have h2 := lost_n hr hy0
  rw [lost_eq hr hx, lost_eq hr hy0]
  have key : r * x / (r * r + x * x) ≤ r * y / (r * r + y * y) := by
    have e : r * y / (r * r + y * y) - r * x / (r * r + x * x) = r * ((y - x) * (r * r - x * y)) / ((r * r + x * x) * (r * r + y * y)) := by grind
    have p1 : 0 ≤ y - x := by grind
    have p2 : 0 ≤ r * r - x * y := by
      have a := Rat.mul_le_mul_of_nonneg_left hy (Rat.le_of_lt hx)
      have b := Rat.mul_le_mul_of_nonneg_right (show x ≤ r by grind) (Rat.le_of_lt hr)
      grind
    have p3 := Rat.mul_pos h1 h2
    have p4 := Rat.mul_nonneg (Rat.le_of_lt hr) (Rat.mul_nonneg p1 p2)
    have p5 : 0 ≤ r * ((y - x) * (r * r - x * y)) / ((r * r + x * x) * (r * r + y * y)) := by
      rw [Rat.div_def]
      exact Rat.mul_nonneg p4 (Rat.le_of_lt (Rat.inv_pos.mpr p3))
    grind
  grind
theorem lost_mono2 {r x y : Rat} (hr : 0 < r) (hx : r ≤ x) (hxy : x ≤ y) : lost r x ≤ lost r y := by
  have hx0 : 0 < x := by grind
  have hy0 : 0 < y := by grind
  have h1 := lost_n hr hx0
  have h2 := lost_n hr hy0
  rw [lost_eq hr hx0, lost_eq hr hy0]
  have key : r * y / (r * r + y * y) ≤ r * x / (r * r + x * x) := by
    have e : r * x / (r * r + x * x) - r * y / (r * r + y * y) = r * ((y - x) * (x * y - r * r)) / ((r * r + x * x) * (r * r + y * y)) := by grind
    have p1 : 0 ≤ y - x := by grind
    have p2 : 0 ≤ x * y - r * r := by
      have a := Rat.mul_le_mul_of_nonneg_left (show r ≤ y by grind) (Rat.le_of_lt hx0)
      have b := Rat.mul_le_mul_of_nonneg_right hx (Rat.le_of_lt hr)
      grind
    have p3 := Rat.mul_pos h1 h2
    have p4 := Rat.mul_nonneg (Rat.le_of_lt hr) (Rat.mul_nonneg p1 p2)
    have p5 : 0 ≤ r * ((y - x) * (x * y - r * r)) / ((r * r + x * x) * (r * r + y * y)) := by
      rw [Rat.div_def]
      exact Rat.mul_nonneg p4 (Rat.le_of_lt (Rat.inv_pos.mpr p3))
    grind
  grind
theorem lost_max {r x y s : Rat} (hr : 0 < r) (hx : 0 < x) (h1 : x ≤ s) (h2 : s ≤ y) : lost r s ≤ (if lost r x < lost r y then lost r y else lost r x) := by
  rcases Rat.le_total (a := s) (b := r) with z | z
  · have := lost_mono1 hr hx h1 z
    split <;> grind
  · have := lost_mono2 hr z h2
    split <;> grind
end Lw
set_option linter.all false
set_option maxRecDepth 100000
set_option maxHeartbeats 4000000
set_option exponentiation.threshold 100000
namespace Lw
open Mi
section
variable {n : Nat} {h : Hd} {p q r s t w : Rat}
def r37 : Rat := 3 / 7
theorem r37_pos : 0 < r37 := by decide +kernel
theorem r37_lt : Lt40 r37 := by unfold Lt40; decide +kernel
theorem r37_bt : bt r37 = 3 := by decide +kernel
theorem one_lt : Lt40 1 := by unfold Lt40; decide +kernel
theorem bt_lt40 {q : Rat} (h : Lt40 q) : bt q ≤ 133 := bt_of (Nat.lt_of_lt_of_le h.1 (by decide)) (Nat.lt_of_lt_of_le h.2 (by decide)) (by decide)
theorem c_loss (h1 : Lt40 w ∧ 0 < w) (h2 : Lt40 r ∧ 0 < r) (h3 : Lt40 p ∧ 0 < p) (h4 : Lt40 s ∧ 0 < s) : (evN prg 0 (n + 6)).cf 18 [fq w, fq r, fq p, fq s] h = .ok (fq (w * ((p * r - s) * (p * r - s)) / r)) h := by
  have b1 := bt_lt40 h1.1
  have b2 := bt_lt40 h2.1
  have b3 := bt_lt40 h3.1
  have b4 := bt_lt40 h4.1
  have b5 : bt (p * r) ≤ 266 := by have := bt_mul p r; omega
  have b6 : bt (p * r - s) ≤ 400 := by have := bt_sub (p * r) s; omega
  have b7 : bt ((p * r - s) * (p * r - s)) ≤ 800 := by have := bt_mul (p * r - s) (p * r - s); omega
  have b8 : bt (w * ((p * r - s) * (p * r - s))) ≤ 933 := by have := bt_mul w ((p * r - s) * (p * r - s)); omega
  have b9 : bt (w * ((p * r - s) * (p * r - s)) / r) ≤ 1066 := by have := bt_div (w * ((p * r - s) * (p * r - s))) r; omega
  have d1 : (evN prg 0 (n + 4)).cf 5 [fq p, fq r] h = .ok (fq (p * r)) h := c_multiplied (by omega)
  have d2 : (evN prg 0 (n + 4)).cf 4 [fq (p * r), fq s] h = .ok (fq (p * r - s)) h := c_lessened (by omega)
  have d3 : (evN prg 0 (n + 4)).cf 13 [fq (p * r - s)] h = .ok (fq ((p * r - s) * (p * r - s))) h := c_squared (by omega)
  have d4 : (evN prg 0 (n + 4)).cf 5 [fq w, fq ((p * r - s) * (p * r - s))] h = .ok (fq (w * ((p * r - s) * (p * r - s)))) h := c_multiplied (by omega)
  have d5 : (evN prg 0 (n + 4)).cf 6 [fq (w * ((p * r - s) * (p * r - s))), fq r] h = .ok (fq (w * ((p * r - s) * (p * r - s)) / r)) h := c_divided (by omega) h2.2
  have d6 : (evN prg 0 (n + 5)).cf 16 [fq w, fq r, fq p, fq s] h = .ok (fq (w * ((p * r - s) * (p * r - s)) / r)) h := by
    rw [ev_cf (F := ⟨4, 4, b_loss_told 6 5 13 4⟩) rfl rfl]
    simp [b_loss_told, d1, d2, d3, d4, d5]
  rw [ev_cf (F := ⟨4, 4, b_keeper_loss 12 11 16⟩) rfl rfl]
  have d7 := c_need4 (n := n) (h := h) h1 h2 h3 h4
  have d8 : (evN prg 0 (n + 5)).cf 11 [fq (w * ((p * r - s) * (p * r - s)) / r)] h = .ok (fq (w * ((p * r - s) * (p * r - s)) / r)) h := c_told (by omega)
  simp [b_keeper_loss, d6, d7, d8, sizeMax]
theorem c_kept (h1 : Lt40 w ∧ 0 < w) (h2 : Lt40 r ∧ 0 < r) (h3 : Lt40 p ∧ 0 < p) (h4 : Lt40 s ∧ 0 < s) : (evN prg 0 (n + 6)).cf 17 [fq w, fq r, fq p, fq s] h = .ok (fq (w * r * (p * p) + w / r * (s * s))) h := by
  have b1 := bt_lt40 h1.1
  have b2 := bt_lt40 h2.1
  have b3 := bt_lt40 h3.1
  have b4 := bt_lt40 h4.1
  have b5 : bt (w * r) ≤ 266 := by have := bt_mul w r; omega
  have b6 : bt (w / r) ≤ 266 := by have := bt_div w r; omega
  have b7 : bt (p * p) ≤ 266 := by have := bt_mul p p; omega
  have b8 : bt (s * s) ≤ 266 := by have := bt_mul s s; omega
  have b9 : bt (w * r * (p * p)) ≤ 532 := by have := bt_mul (w * r) (p * p); omega
  have b10 : bt (w / r * (s * s)) ≤ 532 := by have := bt_mul (w / r) (s * s); omega
  have b11 : bt (w * r * (p * p) + w / r * (s * s)) ≤ 1065 := by have := bt_add (w * r * (p * p)) (w / r * (s * s)); omega
  have d1 : (evN prg 0 (n + 4)).cf 5 [fq w, fq r] h = .ok (fq (w * r)) h := c_multiplied (by omega)
  have d2 : (evN prg 0 (n + 4)).cf 6 [fq w, fq r] h = .ok (fq (w / r)) h := c_divided (by omega) h2.2
  have d3 : (evN prg 0 (n + 4)).cf 13 [fq p] h = .ok (fq (p * p)) h := c_squared (by omega)
  have d4 : (evN prg 0 (n + 4)).cf 13 [fq s] h = .ok (fq (s * s)) h := c_squared (by omega)
  have d5 : (evN prg 0 (n + 4)).cf 5 [fq (w * r), fq (p * p)] h = .ok (fq (w * r * (p * p))) h := c_multiplied (by omega)
  have d6 : (evN prg 0 (n + 4)).cf 5 [fq (w / r), fq (s * s)] h = .ok (fq (w / r * (s * s))) h := c_multiplied (by omega)
  have d7 : (evN prg 0 (n + 4)).cf 3 [fq (w * r * (p * p)), fq (w / r * (s * s))] h = .ok (fq (w * r * (p * p) + w / r * (s * s))) h := c_added (by omega)
  have d8 : (evN prg 0 (n + 5)).cf 14 [fq w, fq r] h = .ok (.tup [fq (w * r), fq (w / r)]) h := by
    rw [ev_cf (F := ⟨2, 2, b_held_of 5 6⟩) rfl rfl]
    simp [b_held_of, d1, d2, sizeMax]
  have d9 : (evN prg 0 (n + 5)).cf 15 [.tup [fq (w * r), fq (w / r)], fq p, fq s] h = .ok (fq (w * r * (p * p) + w / r * (s * s))) h := by
    rw [ev_cf (F := ⟨3, 3, b_worth_by 3 5 13⟩) rfl rfl]
    simp [b_worth_by, d3, d4, d5, d6, d7]
  rw [ev_cf (F := ⟨4, 4, b_kept_worth 12 11 15 14⟩) rfl rfl]
  have d10 := c_need4 (n := n) (h := h) h1 h2 h3 h4
  have d11 : (evN prg 0 (n + 5)).cf 11 [fq (w * r * (p * p) + w / r * (s * s))] h = .ok (fq (w * r * (p * p) + w / r * (s * s))) h := c_told (by omega)
  simp [b_kept_worth, d8, d9, d10, d11, sizeMax]
theorem bt_plost (hr : bt r ≤ 100) (hs : bt s ≤ 300) : bt (plost r s) ≤ 1606 := by
  have b1 := bt_sr hr hs
  have b2 : bt (1 - s / r) ≤ 402 := by have := bt_sub 1 (s / r); rw [bt_one] at this; omega
  have b3 : bt ((1 - s / r) * (1 - s / r)) ≤ 804 := by have := bt_mul (1 - s / r) (1 - s / r); omega
  have b4 : bt (s / r * (s / r)) ≤ 800 := by have := bt_mul (s / r) (s / r); omega
  have b5 : bt (1 + s / r * (s / r)) ≤ 802 := by have := bt_add 1 (s / r * (s / r)); rw [bt_one] at this; omega
  have := bt_div ((1 - s / r) * (1 - s / r)) (1 + s / r * (s / r))
  unfold plost
  omega
theorem c_most (h1 : Lt40 r ∧ 0 < r) (h2 : Lt40 s ∧ 0 < s) (h3 : Lt40 t ∧ 0 < t) (b1 : bt r ≤ 100) (b2 : bt s ≤ 100) (b3 : bt t ≤ 100) (hst : ¬ t < s) :
    (evN prg 0 (n + 6)).cf 20 [fq r, fq s, fq t] h = .ok (fq (if plost r s < plost r t then plost r t else plost r s)) h := by
  have d1 : (evN prg 0 (n + 5)).cf 7 [fq t, fq s] h = .ok (.bl (decide (t < s))) h := c_lesser (by omega)
  have p1 := bt_plost b1 (show bt s ≤ 300 by omega)
  have p2 := bt_plost b1 (show bt t ≤ 300 by omega)
  have d2 : (evN prg 0 (n + 5)).cf 19 [fq r, fq s] h = .ok (fq (plost r s)) h := c_part b1 (by omega) h1.2
  have d3 : (evN prg 0 (n + 5)).cf 19 [fq r, fq t] h = .ok (fq (plost r t)) h := c_part b1 (by omega) h1.2
  have d4 : (evN prg 0 (n + 5)).cf 7 [fq (plost r s), fq (plost r t)] h = .ok (.bl (decide (plost r s < plost r t))) h := c_lesser (by omega)
  have d5 : (evN prg 0 (n + 5)).cf 11 [fq (plost r s)] h = .ok (fq (plost r s)) h := c_told (by omega)
  have d6 : (evN prg 0 (n + 5)).cf 11 [fq (plost r t)] h = .ok (fq (plost r t)) h := c_told (by omega)
  have d7 := c_need3 (n := n) (h := h) h1 h2 h3
  rw [ev_cf (F := ⟨3, 4, b_most_loss⟩) rfl rfl]
  by_cases z : plost r s < plost r t
  · simp [b_most_loss, d1, d2, d3, d4, d5, d6, d7, hst, z, sizeMax]
  · simp [b_most_loss, d1, d2, d3, d4, d5, d6, d7, hst, z, sizeMax]
/-- refused -/
theorem c_most_x (h1 : Lt40 r ∧ 0 < r) (h2 : Lt40 s ∧ 0 < s) (h3 : Lt40 t ∧ 0 < t) (b1 : bt r ≤ 100) (b2 : bt s ≤ 100) (b3 : bt t ≤ 100) (hst : t < s) :
    (evN prg 0 (n + 6)).cf 20 [fq r, fq s, fq t] h = .ex ⟨2, [.int (-1)]⟩ h := by
  have d1 : (evN prg 0 (n + 5)).cf 7 [fq t, fq s] h = .ok (.bl (decide (t < s))) h := c_lesser (by omega)
  have d7 := c_need3 (n := n) (h := h) h1 h2 h3
  rw [ev_cf (F := ⟨3, 4, b_most_loss⟩) rfl rfl]
  have d8 : (evN prg 0 (n + 5)).nw 2 [.int (-1)] h = .ex ⟨2, [.int (-1)]⟩ h := ev_nw rfl rfl
  simp [b_most_loss, d1, d7, d8, hst, sizeMax]
/-! ### the law's own -/
theorem fq2 : D.tup [.int 2, .int 1] = fq 2 := rfl
theorem bt_k (hr : bt r ≤ 100) (hs : bt s ≤ 300) : bt (s * s) ≤ 600 ∧ bt (s * s / r) ≤ 700 ∧ bt (r + s * s / r) ≤ 801 ∧ bt (2 * s) ≤ 302 ∧ bt (r + s * s / r - 2 * s) ≤ 1104 ∧ bt (lost r s) ≤ 1905 := by
  have b1 := bt_mul s s
  have b2 := bt_div (s * s) r
  have b3 := bt_add r (s * s / r)
  have b4 := bt_mul 2 s
  rw [bt_two] at b4
  have b5 := bt_sub (r + s * s / r) (2 * s)
  have b6 := bt_div (r + s * s / r - 2 * s) (r + s * s / r)
  unfold lost
  omega
theorem kept_pos (h1 : 0 < r) (h2 : 0 < s) : 0 < r + s * s / r := by
  have : 0 < s * s / r := by
    rw [Rat.lt_div_iff h1]
    have := Rat.mul_pos h2 h2
    grind
  grind
theorem l_lost (hr : bt r ≤ 100) (hs : bt s ≤ 300) (h1 : 0 < r) (h2 : 0 < s) : (evN prg 0 (n + 3)).cf 33 [fq r, fq s] h = .ok (fq (lost r s)) h := by
  obtain ⟨b1, b2, b3, b4, b5, b6⟩ := bt_k hr hs
  have d1 : (evN prg 0 (n + 2)).cf 30 [fq s, fq s] h = .ok (fq (s * s)) h := l_mul (by omega)
  have d2 : (evN prg 0 (n + 2)).cf 31 [fq (s * s), fq r] h = .ok (fq (s * s / r)) h := l_div (by omega) h1
  have d3 : (evN prg 0 (n + 2)).cf 28 [fq r, fq (s * s / r)] h = .ok (fq (r + s * s / r)) h := l_add (by omega)
  have d4 : (evN prg 0 (n + 2)).cf 30 [fq 2, fq s] h = .ok (fq (2 * s)) h := l_mul (by rw [bt_two]; omega)
  have d5 : (evN prg 0 (n + 2)).cf 29 [fq (r + s * s / r), fq (2 * s)] h = .ok (fq (r + s * s / r - 2 * s)) h := l_sub (by omega)
  have d6 : (evN prg 0 (n + 2)).cf 31 [fq (r + s * s / r - 2 * s), fq (r + s * s / r)] h = .ok (fq (lost r s)) h := l_div (by omega) (kept_pos h1 h2)
  rw [ev_cf (F := ⟨2, 3, b__law_lost⟩) rfl rfl]
  simp [b__law_lost, d1, d2, d3, sizeMax, fq2, d4, d5, d6]
end
end Lw
set_option linter.all false
set_option maxRecDepth 100000
set_option maxHeartbeats 8000000
set_option exponentiation.threshold 100000
namespace Lw
open Mi
section
variable {n b : Nat} {h : Hd} {p q r s t w : Rat}
def fracE : ME := (.call 27 (.cn (.vl (.bin .add (.c (.int 1)) (.call 22 (.cn (.va 0) (.cn (.va 1) .nl))))) (.cn (.vl (.bin .add (.c (.int 1)) (.call 22 (.cn (.va 0) (.cn (.va 1) .nl))))) .nl)))
/-- a drawn fraction -/
structure Dr (q : Rat) : Prop where
  pos : 0 < q
  lt : Lt40 q
  bt : bt q ≤ 67
theorem dr_of {u l : Int} (hu : 0 < u) (hl : 0 < l) (h1 : u ≤ 10 ^ 20) (h2 : l ≤ 10 ^ 20) : Dr (Rat.divInt u l) := by
  obtain ⟨a1, a2⟩ := divInt_num_le u l (by omega)
  refine ⟨?_, ⟨?_, ?_⟩, ?_⟩
  · rw [Rat.divInt_eq_div]
    rw [Rat.lt_div_iff (by exact_mod_cast hl)]
    simp
    exact_mod_cast hu
  · have : u.natAbs ≤ 10 ^ 20 := by omega
    exact Nat.lt_of_le_of_lt (Nat.le_trans a1 this) (by decide)
  · have : l.natAbs ≤ 10 ^ 20 := by omega
    exact Nat.lt_of_le_of_lt (Nat.le_trans a2 this) (by decide)
  · refine bt_divInt (by omega) ?_ ?_ (by decide)
    · exact Nat.lt_of_le_of_lt (show u.natAbs ≤ 10 ^ 20 by omega) (by decide)
    · exact Nat.lt_of_le_of_lt (show l.natAbs ≤ 10 ^ 20 by omega) (by decide)
theorem frac_draw {ρ : Loc} {H : Int} (hb : Bx b h) (h0 : 0 < H) (h1 : H ≤ 10 ^ 20) (g0 : getL ρ 0 = some (.ref b)) (g1 : getL ρ 1 = some (.int H)) :
    ∃ q h', Dr q ∧ Bx b h' ∧ Only b h h' ∧ evE (evN prg 0 (n + 1)) fracE ρ h = .ok (fq q) h' := by
  have hs : H.natAbs < 2 ^ 8000 := Nat.lt_of_le_of_lt (show H.natAbs ≤ 10 ^ 20 by omega) (by decide +kernel)
  obtain ⟨x, ha, x1, x2, b1, o1, e1⟩ := take_ok (fu := 0) (n := n) (P := prg) (f := 22) rfl hb h0 hs
  obtain ⟨y, hc, y1, y2, b2, o2, e2⟩ := take_ok (fu := 0) (n := n) (P := prg) (f := 22) rfl b1 h0 hs
  refine ⟨Rat.divInt (1 + x) (1 + y), hc, dr_of (by omega) (by omega) (by omega) (by omega), b2, o1.trans o2, ?_⟩
  have e3 := fr27 n (1 + x) (1 + y) hc (by omega) (Nat.lt_of_le_of_lt (show (1 + y).natAbs ≤ 10 ^ 20 by omega) (by decide +kernel))
  simp [fracE, g0, g1, e1, e2, e3]
theorem frac_step {H k : Int} (hb : Bx b h) (h0 : 0 < H) (h1 : H ≤ 10 ^ 20) :
    ∃ q h', Dr q ∧ Bx b h' ∧ Only b h h' ∧ cmpS (evN prg 0 (n + 1)) (.nm 5) (.tr (.c (.bl true))) fracE [5] [some (.ref b), some (.int H), none, none, none, none, none, none, none, none, none, none, none] (.int k) h = .ok (some (fq q)) h' := by
  obtain ⟨q, h', a, b1, o1, e⟩ := frac_draw (n := n) (ρ := [some (.ref b), some (.int H), none, none, none, some (.int k), none, none, none, none, none, none, none]) hb h0 h1 (by simp) (by simp)
  refine ⟨q, h', a, b1, o1, ?_⟩
  rw [cmpS_d]
  simp [e]
theorem fq_lit {q : Rat} {a : Int} {b : Nat} (h1 : q.num = a) (h2 : q.den = b) : D.tup [.int a, .int b] = fq q := by
  unfold fq
  rw [h1, h2]
def c13 : Rat := 1 / 3
def c12 : Rat := 1 / 2
def c910 : Rat := 9 / 10
theorem t0 : D.tup [.int 0, .int 1] = fq 0 := rfl
theorem t1 : D.tup [.int 1, .int 1] = fq 1 := rfl
theorem t13 : D.tup [.int 1, .int 3] = fq c13 := fq_lit (b := 3) (by decide +kernel) (by decide +kernel)
theorem t12 : D.tup [.int 1, .int 2] = fq c12 := fq_lit (b := 2) (by decide +kernel) (by decide +kernel)
theorem t910 : D.tup [.int 9, .int 10] = fq c910 := fq_lit (b := 10) (by decide +kernel) (by decide +kernel)
theorem t37 : D.tup [.int 3, .int 7] = fq r37 := fq_lit (b := 7) (by decide +kernel) (by decide +kernel)
/-- the turn of the loop over parts -/
def partB : MS := (.sq (.set (.nm 11) (.call 28 (.cn (.va 6) (.cn (.vl (.call 30 (.cn (.va 10) (.cn (.vl (.call 29 (.cn (.va 7) (.cn (.va 6) .nl)))) .nl)))) .nl)))) (.sq (.ifS (.cmp .lt (.bf .max (.cn (.v 11) .nl)) (.bin .pow (.c (.int 10)) (.c (.int 40)))) (.sq (.set (.nm 12) (.call 31 (.cn (.vl (.call 18 (.cn (.vl (.tup (.cn (.c (.int 3)) (.cn (.c (.int 7)) .nl)))) (.cn (.va 2) (.cn (.vl (.tup (.cn (.c (.int 1)) (.cn (.c (.int 1)) .nl)))) (.cn (.va 11) .nl)))))) (.cn (.vl (.call 17 (.cn (.vl (.tup (.cn (.c (.int 3)) (.cn (.c (.int 7)) .nl)))) (.cn (.va 2) (.cn (.vl (.tup (.cn (.c (.int 1)) (.cn (.c (.int 1)) .nl)))) (.cn (.va 11) .nl)))))) .nl)))) (.sq (.ifS (.or (.cmp .ne (.v 12) (.call 33 (.cn (.va 2) (.cn (.va 11) .nl)))) (.tr (.call 32 (.cn (.va 9) (.cn (.va 12) .nl))))) (.sq (.ret (.c (.bl false))) .skip) .skip) .skip)) .skip) .skip))
theorem fq_max {q : Rat} {h : Hd} : bfD h .max [fq q] = some (.int (if q.num < q.den then q.den else q.num)) := bf_maxt2
theorem part_turn {r lo tp c : Rat} (hr : Dr r) (hlo : Dr lo) (htp : Dr tp) (hle : lo ≤ tp) (c0 : 0 ≤ c) (c1 : c ≤ 1) (cb : bt c ≤ 5) {sc hi a3 a4 a5 a8 a10 a11 a12 : Option D} :
    ∃ x y z, stepF (evN prg 0 (n + 7)) 0 (.nm 10) partB (fq c) [sc, hi, some (fq r), a3, a4, a5, some (fq lo), some (fq tp), a8, some (fq (if lost r lo < lost r tp then lost r tp else lost r lo)), a10, a11, a12] h =
      .nx [sc, hi, some (fq r), a3, a4, a5, some (fq lo), some (fq tp), a8, some (fq (if lost r lo < lost r tp then lost r tp else lost r lo)), x, y, z] h := by
  have hb1 := hr.bt
  have hb2 := hlo.bt
  have hb3 := htp.bt
  have e1 : bt (tp - lo) ≤ 135 := by have := bt_sub tp lo; omega
  have e2 : bt (c * (tp - lo)) ≤ 140 := by have := bt_mul c (tp - lo); omega
  have e3 : bt (lo + c * (tp - lo)) ≤ 208 := by have := bt_add lo (c * (tp - lo)); omega
  have g1 : 0 ≤ c * (tp - lo) := Rat.mul_nonneg c0 (by grind)
  have g2 : c * (tp - lo) ≤ tp - lo := by
    have := Rat.mul_le_mul_of_nonneg_right c1 (show 0 ≤ tp - lo by grind)
    grind
  have spos : 0 < lo + c * (tp - lo) := by have := hlo.pos; grind
  have s1 : lo ≤ lo + c * (tp - lo) := by grind
  have s2 : lo + c * (tp - lo) ≤ tp := by grind
  have d1 : (evN prg 0 (n + 7)).cf 29 [fq tp, fq lo] h = .ok (fq (tp - lo)) h := l_sub (by omega)
  have d2 : (evN prg 0 (n + 7)).cf 30 [fq c, fq (tp - lo)] h = .ok (fq (c * (tp - lo))) h := l_mul (by omega)
  have d3 : (evN prg 0 (n + 7)).cf 28 [fq lo, fq (c * (tp - lo))] h = .ok (fq (lo + c * (tp - lo))) h := l_add (by omega)
  generalize lo + c * (tp - lo) = s at *
  by_cases hm : (if s.num < s.den then (s.den : Int) else s.num) < 10000000000000000000000000000000000000000
  · have hs40 : Lt40 s := by
      have hn := Rat.num_nonneg.mpr (Rat.le_of_lt spos)
      split at hm
      · exact ⟨by omega, by omega⟩
      · exact ⟨by omega, by omega⟩
    have f1 : (evN prg 0 (n + 7)).cf 18 [fq r37, fq r, fq 1, fq s] h = .ok (fq (r37 * ((1 * r - s) * (1 * r - s)) / r)) h := c_loss ⟨r37_lt, r37_pos⟩ ⟨hr.lt, hr.pos⟩ ⟨one_lt, by decide⟩ ⟨hs40, spos⟩
    have f2 : (evN prg 0 (n + 7)).cf 17 [fq r37, fq r, fq 1, fq s] h = .ok (fq (r37 * r * (1 * 1) + r37 / r * (s * s))) h := c_kept ⟨r37_lt, r37_pos⟩ ⟨hr.lt, hr.pos⟩ ⟨one_lt, by decide⟩ ⟨hs40, spos⟩
    have v1 : bt (r37 * ((1 * r - s) * (1 * r - s)) / r) ≤ 1000 := by
      have a1 := bt_mul 1 r
      rw [bt_one] at a1
      have a2 := bt_sub (1 * r) s
      have a3 := bt_mul (1 * r - s) (1 * r - s)
      have a4 := bt_mul r37 ((1 * r - s) * (1 * r - s))
      have a5 := bt_div (r37 * ((1 * r - s) * (1 * r - s))) r
      rw [r37_bt] at a4
      omega
    have v2 : bt (r37 * r * (1 * 1) + r37 / r * (s * s)) ≤ 1000 := by
      have a1 := bt_mul r37 r
      have a2 := bt_mul (r37 * r) (1 * 1)
      have a3 := bt_div r37 r
      have a4 := bt_mul s s
      have a5 := bt_mul (r37 / r) (s * s)
      have a6 := bt_add (r37 * r * (1 * 1)) (r37 / r * (s * s))
      have a7 : bt (1 * 1) = 1 := by decide +kernel
      rw [r37_bt] at a1 a3
      omega
    have kp : 0 < r37 * r * (1 * 1) + r37 / r * (s * s) := by
      have q1 : 0 < r37 * r := Rat.mul_pos r37_pos hr.pos
      have q2 : 0 ≤ r37 / r * (s * s) := by
        have q3 : 0 < r37 / r := by rw [Rat.lt_div_iff hr.pos]; have := r37_pos; grind
        exact Rat.le_of_lt (Rat.mul_pos q3 (Rat.mul_pos spos spos))
      grind
    have f3 : (evN prg 0 (n + 7)).cf 31 [fq (r37 * ((1 * r - s) * (1 * r - s)) / r), fq (r37 * r * (1 * 1) + r37 / r * (s * s))] h = .ok (fq (lost r s)) h := by
      have := l_div (n := n + 5) (h := h) (p := r37 * ((1 * r - s) * (1 * r - s)) / r) (q := r37 * r * (1 * 1) + r37 / r * (s * s)) (by omega) kp
      rw [show r37 * ((1 * r - s) * (1 * r - s)) / r / (r37 * r * (1 * 1) + r37 / r * (s * s)) = lost r s from told_eq hr.pos spos] at this
      exact this
    have f4 : (evN prg 0 (n + 7)).cf 33 [fq r, fq s] h = .ok (fq (lost r s)) h := l_lost (by omega) (by omega) hr.pos spos
    obtain ⟨_, _, _, _, _, u1⟩ := bt_k (r := r) (s := s) (by omega) (by omega)
    obtain ⟨_, _, _, _, _, u2⟩ := bt_k (r := r) (s := lo) (by omega) (by omega)
    obtain ⟨_, _, _, _, _, u3⟩ := bt_k (r := r) (s := tp) (by omega) (by omega)
    have u4 : bt (if lost r lo < lost r tp then lost r tp else lost r lo) ≤ 1905 := by split <;> omega
    have f5 : (evN prg 0 (n + 7)).cf 32 [fq (if lost r lo < lost r tp then lost r tp else lost r lo), fq (lost r s)] h = .ok (.bl false) h := by
      have := l_lt (n := n + 6) (h := h) (p := if lost r lo < lost r tp then lost r tp else lost r lo) (q := lost r s) (by omega)
      rw [this]
      have mx := lost_max (x := lo) (y := tp) (s := s) hr.pos hlo.pos s1 s2
      have : ¬ (if lost r lo < lost r tp then lost r tp else lost r lo) < lost r s := Rat.not_lt.mpr mx
      simp [this]
    generalize (if lost r lo < lost r tp then lost r tp else lost r lo) = due at *
    generalize r37 * ((1 * r - s) * (1 * r - s)) / r = X at *
    generalize r37 * r * (1 * 1) + r37 / r * (s * s) = Y at *
    exact ⟨some (fq c), some (fq s), some (fq (lost r s)), by
      rw [stepF_d]
      simp [partB, d1, d2, d3, fq_max, hm, t1, t37, sizeMax, f1, f2, f3, f4, f5]⟩
  · generalize (if lost r lo < lost r tp then lost r tp else lost r lo) = due at *
    exact ⟨some (fq c), some (fq s), a12, by
      rw [stepF_d]
      simp [partB, d1, d2, d3, fq_max, hm]⟩
end
end Lw
set_option linter.all false
set_option maxRecDepth 100000
set_option maxHeartbeats 8000000
set_option exponentiation.threshold 100000
namespace Lw
open Mi
section
variable {n b : Nat} {h : Hd} {p q r s t w : Rat}
theorem plost_if (h0 : 0 < r) (h1 : 0 < s) (h2 : 0 < t) : (if plost r s < plost r t then plost r t else plost r s) = (if lost r s < lost r t then lost r t else lost r s) := by
  rw [plost_eq h0 h1, plost_eq h0 h2]
/-- the loop over parts -/
theorem parts_ok {r lo tp : Rat} (hr : Dr r) (hlo : Dr lo) (htp : Dr tp) (hle : lo ≤ tp) {sc hi a3 a4 a5 a8 : Option D} {st : Hd → Bool} (hst : st h = true) : ∀ (cs : List Rat), (∀ c ∈ cs, 0 ≤ c ∧ c ≤ 1 ∧ bt c ≤ 5) → ∀ a10 a11 a12,
    ∃ x y z, forE (stepF (evN prg 0 (n + 7)) 0 (.nm 10) partB) st (cs.map fq) [sc, hi, some (fq r), a3, a4, a5, some (fq lo), some (fq tp), a8, some (fq (if lost r lo < lost r tp then lost r tp else lost r lo)), a10, a11, a12] h =
      .nx [sc, hi, some (fq r), a3, a4, a5, some (fq lo), some (fq tp), a8, some (fq (if lost r lo < lost r tp then lost r tp else lost r lo)), x, y, z] h
  | [], _, a10, a11, a12 => ⟨a10, a11, a12, by simp [hst]⟩
  | c :: cs, hc, a10, a11, a12 => by
    obtain ⟨k1, k2, k3⟩ := hc c List.mem_cons_self
    obtain ⟨x, y, z, e⟩ := part_turn (n := n) (h := h) hr hlo htp hle k1 k2 k3 (sc := sc) (hi := hi) (a3 := a3) (a4 := a4) (a5 := a5) (a8 := a8) (a10 := a10) (a11 := a11) (a12 := a12)
    obtain ⟨x', y', z', e'⟩ := parts_ok hr hlo htp hle hst cs (fun k hk => hc k (List.mem_cons_of_mem _ hk)) x y z
    refine ⟨x', y', z', ?_⟩
    rw [List.map_cons, forE_nx hst e]
    exact e'
/-- what stands behind the parting of low and top -/
def tailB : MS := (.sq (.set (.nm 8) (.lst (.cn (.call 33 (.cn (.va 2) (.cn (.va 6) .nl))) (.cn (.call 33 (.cn (.va 2) (.cn (.va 7) .nl))) .nl)))) (.sq (.set (.nm 9) (.ite (.tr (.call 32 (.cn (.vl (.ix (.v 8) (.c (.int 0)))) (.cn (.vl (.ix (.v 8) (.c (.int 1)))) .nl)))) (.ix (.v 8) (.c (.int 1))) (.ix (.v 8) (.c (.int 0))))) (.sq (.ifS (.or (.not (.tr (.call 24 (.cn (.vl (.tup (.cn (.call 20 (.cn (.va 2) (.cn (.va 6) (.cn (.va 7) .nl)))) (.cn (.call 20 (.cn (.va 2) (.cn (.va 6) (.cn (.va 7) .nl)))) .nl)))) (.cn (.vl (.tup (.cn (.v 9) (.cn (.v 9) .nl)))) .nl))))) (.not (.tr (.call 32 (.cn (.va 9) (.cn (.vl (.tup (.cn (.c (.int 1)) (.cn (.c (.int 1)) .nl)))) .nl)))))) (.sq (.ret (.c (.bl false))) .skip) .skip) (.sq (.forS (.nm 10) (.it1 .val (.cn (.lst (.cn (.tup (.cn (.c (.int 0)) (.cn (.c (.int 1)) .nl))) (.cn (.tup (.cn (.c (.int 1)) (.cn (.c (.int 3)) .nl))) (.cn (.tup (.cn (.c (.int 1)) (.cn (.c (.int 2)) .nl))) (.cn (.tup (.cn (.c (.int 9)) (.cn (.c (.int 10)) .nl))) (.cn (.tup (.cn (.c (.int 1)) (.cn (.c (.int 1)) .nl))) .nl)))))) .nl)) partB) (.sq (.ifS (.and (.tr (.call 32 (.cn (.va 6) (.cn (.va 7) .nl)))) (.not (.tr (.call 24 (.cn (.vl (.call 26 (.cn (.lam 1 [2, 7, 6]) .nl))) (.cn (.vl (.tup (.cn (.c (.str [114, 101, 102, 117, 115, 101, 100])) (.cn (.neg (.c (.int 1))) .nl)))) .nl)))))) (.sq (.ret (.c (.bl false))) .skip) .skip) (.sq (.ret (.call 24 (.cn (.vl (.call 20 (.cn (.va 2) (.cn (.va 2) (.cn (.va 2) .nl))))) (.cn (.vl (.tup (.cn (.c (.int 0)) (.cn (.c (.int 1)) .nl)))) .nl)))) .skip))))))
theorem is_ok {d : D} (h1 : okIs d = true) (h2 : dpI d ≤ 2) : (evN prg 0 (n + 3)).cf 24 [d, d] h = .ok (.bl true) h := law_is_ok (P := prg) (f := 24) rfl 2 d n h h1 h2
theorem plost_self (h0 : 0 < r) : plost r r = 0 := by
  have : r / r = 1 := by rw [Rat.div_def]; exact Rat.mul_inv_cancel r (by grind)
  unfold plost
  rw [this]
  decide +kernel
theorem err_x {ds : List D} {k : Nat} {cs : List D} (hn : noXs cs = true) (e : (evN prg 0 (n + 1)).cl k cs [] h = .ex ⟨2, ds⟩ h) {d : D} (hd : ds = [d]) : (evN prg 0 (n + 2)).cf 26 [.clo k cs] h = .ok (.tup [.str [114, 101, 102, 117, 115, 101, 100], d]) h := by
  subst hd
  rw [ev_cf (F := ⟨1, 2, b__law_error⟩) rfl rfl]
  have e2 : evH (evN prg 0 (n + 1)) 0 (.hc 0 (some 1) (.sq (.ret (.tup (.cn (.c (.str [102, 114, 97, 99, 116, 105, 111, 110])) (.cn (.fle 1 0 0) .nl)))) .skip) (.hc 2 (some 1) (.sq (.ret (.tup (.cn (.c (.str [114, 101, 102, 117, 115, 101, 100])) (.cn (.fle 1 2 0) .nl)))) .skip) .hn)) ⟨2, [d]⟩ [some (.clo k cs), none] h = evH (evN prg 0 (n + 1)) 0 (.hc 2 (some 1) (.sq (.ret (.tup (.cn (.c (.str [114, 101, 102, 117, 115, 101, 100])) (.cn (.fle 1 2 0) .nl)))) .skip) .hn) ⟨2, [d]⟩ [some (.clo k cs), none] h := evH_ne (show (2 : Nat) ≠ 0 by decide)
  simp [b__law_error, hn, e, e2, sizeMax]
theorem tail_ok {r lo tp : Rat} (hr : Dr r) (hlo : Dr lo) (htp : Dr tp) (hle : lo ≤ tp) {sc hi a3 a4 a5 a8 a9 a10 a11 a12 : Option D} :
    evS (evN prg 0 (n + 9)) 0 tailB [sc, hi, some (fq r), a3, a4, a5, some (fq lo), some (fq tp), a8, a9, a10, a11, a12] h = .rt (.bl true) h := by
  have hb1 := hr.bt
  have hb2 := hlo.bt
  have hb3 := htp.bt
  obtain ⟨_, _, _, _, _, u2⟩ := bt_k (r := r) (s := lo) (by omega) (by omega)
  obtain ⟨_, _, _, _, _, u3⟩ := bt_k (r := r) (s := tp) (by omega) (by omega)
  have d1 : (evN prg 0 (n + 9)).cf 33 [fq r, fq lo] h = .ok (fq (lost r lo)) h := l_lost (by omega) (by omega) hr.pos hlo.pos
  have d2 : (evN prg 0 (n + 9)).cf 33 [fq r, fq tp] h = .ok (fq (lost r tp)) h := l_lost (by omega) (by omega) hr.pos htp.pos
  have d3 : (evN prg 0 (n + 9)).cf 32 [fq (lost r lo), fq (lost r tp)] h = .ok (.bl (decide (lost r lo < lost r tp))) h := l_lt (by omega)
  have d4 : (evN prg 0 (n + 9)).cf 20 [fq r, fq lo, fq tp] h = .ok (fq (if lost r lo < lost r tp then lost r tp else lost r lo)) h := by
    have := c_most (n := n + 3) (h := h) (r := r) (s := lo) (t := tp) ⟨hr.lt, hr.pos⟩ ⟨hlo.lt, hlo.pos⟩ ⟨htp.lt, htp.pos⟩ (by omega) (by omega) (by omega) (Rat.not_lt.mpr hle)
    rw [plost_if hr.pos hlo.pos htp.pos] at this
    exact this
  have d5 : (evN prg 0 (n + 9)).cf 24 [.tup [fq (if lost r lo < lost r tp then lost r tp else lost r lo), fq (if lost r lo < lost r tp then lost r tp else lost r lo)], .tup [fq (if lost r lo < lost r tp then lost r tp else lost r lo), fq (if lost r lo < lost r tp then lost r tp else lost r lo)]] h = .ok (.bl true) h :=
    is_ok (n := n + 6) (by simp [okIs, okIss, sizeMax]) (by simp [dpI, dpIs])
  have d6 : (evN prg 0 (n + 9)).cf 32 [fq (if lost r lo < lost r tp then lost r tp else lost r lo), fq 1] h = .ok (.bl true) h := by
    have := l_lt (n := n + 8) (h := h) (p := if lost r lo < lost r tp then lost r tp else lost r lo) (q := 1) (by rw [bt_one]; split <;> omega)
    rw [this]
    have l1 := lost_lt hr.pos hlo.pos
    have l2 := lost_lt hr.pos htp.pos
    have : (if lost r lo < lost r tp then lost r tp else lost r lo) < 1 := by split <;> assumption
    simp [this]
  obtain ⟨x, y, z, d7⟩ := parts_ok (n := n + 2) (h := h) hr hlo htp hle (sc := sc) (hi := hi) (a3 := a3) (a4 := a4) (a5 := a5) (a8 := some (.lst [fq (lost r lo), fq (lost r tp)])) (st := staysB h [.lst [fq 0, fq c13, fq c12, fq c910, fq 1]]) rfl [0, c13, c12, c910, 1] (by
    intro c hc
    simp only [List.mem_cons, List.not_mem_nil, or_false] at hc
    rcases hc with rfl | rfl | rfl | rfl | rfl <;> exact ⟨by decide +kernel, by decide +kernel, by decide +kernel⟩) a10 a11 a12
  simp only [List.map_cons, List.map_nil] at d7
  have d8 : (evN prg 0 (n + 9)).cf 32 [fq lo, fq tp] h = .ok (.bl (decide (lo < tp))) h := l_lt (by omega)
  have d9 : (evN prg 0 (n + 9)).cf 20 [fq r, fq r, fq r] h = .ok (fq 0) h := by
    have := c_most (n := n + 3) (h := h) (r := r) (s := r) (t := r) ⟨hr.lt, hr.pos⟩ ⟨hr.lt, hr.pos⟩ ⟨hr.lt, hr.pos⟩ (by omega) (by omega) (by omega) Rat.lt_irrefl
    rw [plost_self hr.pos] at this
    simpa using this
  have d10 : (evN prg 0 (n + 9)).cf 24 [fq 0, fq 0] h = .ok (.bl true) h := is_ok (n := n + 6) rfl (by simp)
  by_cases hlt : lo < tp
  · have x0 : (evN prg 0 (n + 7)).cf 20 [fq r, fq tp, fq lo] h = .ex ⟨2, [.int (-1)]⟩ h := c_most_x (n := n + 1) ⟨hr.lt, hr.pos⟩ ⟨htp.lt, htp.pos⟩ ⟨hlo.lt, hlo.pos⟩ (by omega) (by omega) (by omega) hlt
    have x1 : (evN prg 0 (n + 7 + 1)).cl 1 [fq r, fq tp, fq lo] [] h = .ex ⟨2, [.int (-1)]⟩ h := by
      rw [ev_cl (n := n + 7) (P := prg) (L := l_1) rfl rfl rfl]
      simp [l_1, x0]
    have x2 : (evN prg 0 (n + 9)).cf 26 [.clo 1 [fq r, fq tp, fq lo]] h = .ok (.tup [.str [114, 101, 102, 117, 115, 101, 100], .int (-1)]) h := err_x (n := n + 7) (by simp) x1 rfl
    have x3 : (evN prg 0 (n + 9)).cf 24 [.tup [.str [114, 101, 102, 117, 115, 101, 100], .int (-1)], .tup [.str [114, 101, 102, 117, 115, 101, 100], .int (-1)]] h = .ok (.bl true) h := is_ok (n := n + 6) rfl (by decide)
    by_cases hx : lost r lo < lost r tp
    · simp only [if_pos hx] at *
      simp [tailB, d1, d2, d3, hx, d4, d5, sizeMax, t1, d6, t0, t13, t12, t910]
      rw [d7]
      simp [d8, hlt, x2, x3, sizeMax, d9, d10, t0]
    · simp only [if_neg hx] at *
      simp [tailB, d1, d2, d3, hx, d4, d5, sizeMax, t1, d6, t0, t13, t12, t910]
      rw [d7]
      simp [d8, hlt, x2, x3, sizeMax, d9, d10, t0]
  · by_cases hx : lost r lo < lost r tp
    · simp only [if_pos hx] at *
      simp [tailB, d1, d2, d3, hx, d4, d5, sizeMax, t1, d6, t0, t13, t12, t910]
      rw [d7]
      simp [d8, hlt, sizeMax, d9, d10, t0]
    · simp only [if_neg hx] at *
      simp [tailB, d1, d2, d3, hx, d4, d5, sizeMax, t1, d6, t0, t13, t12, t910]
      rw [d7]
      simp [d8, hlt, sizeMax, d9, d10, t0]
end
end Lw
set_option linter.all false
set_option maxRecDepth 100000
set_option maxHeartbeats 8000000
set_option exponentiation.threshold 100000
namespace Lw
open Mi
section
variable {n b : Nat} {h : Hd}
theorem one_ok (hb : Bx b h) : ∃ h', Bx b h' ∧ Only b h h' ∧ (evN prg 0 (n + 10)).cf 34 [.ref b] h = .ok (.bl true) h' := by
  obtain ⟨d, h1, hd, b1, o1, e1⟩ := pick_ok (fu := 0) (n := n + 7) (P := prg) (f := 23) (f1 := 22) rfl rfl hb (ds := [.int 9, .int 1000000, .int 100000000000000000000]) (by simp) (by simp)
  obtain ⟨H, rfl, H0, H1⟩ : ∃ H : Int, d = .int H ∧ 0 < H ∧ H ≤ 10 ^ 20 := by
    simp only [List.mem_cons, List.not_mem_nil, or_false] at hd
    rcases hd with rfl | rfl | rfl
    · exact ⟨9, rfl, by decide, by decide⟩
    · exact ⟨1000000, rfl, by decide, by decide⟩
    · exact ⟨100000000000000000000, rfl, by decide, by decide⟩
  obtain ⟨q1, h2, r1, b2, o2, e2⟩ := frac_step (n := n + 8) (k := 0) b1 H0 H1
  obtain ⟨q2, h3, r2, b3, o3, e3⟩ := frac_step (n := n + 8) (k := 1) b2 H0 H1
  obtain ⟨q3, h4, r3, b4, o4, e4⟩ := frac_step (n := n + 8) (k := 2) b3 H0 H1
  obtain ⟨t, h5, t0, t1, b5, o5, e5⟩ := take_ok (fu := 0) (n := n + 8) (P := prg) (f := 22) rfl b4 (m := 4) (by decide) (by decide +kernel)
  have ec : compE (cmpS (evN prg 0 (n + 9)) (.nm 5) (.tr (.c (.bl true))) fracE [5] [some (.ref b), some (.int H), none, none, none, none, none, none, none, none, none, none, none]) (staysB h1 [.int 3]) (rangeD 0 3) h1 = .ok [fq q1, fq q2, fq q3] h4 := by
    simp [rangeD, compE_1, e2, e3, e4]
  refine ⟨h5, b5, ((((o1.trans o2).trans o3).trans o4).trans o5), ?_⟩
  rw [ev_cf (F := ⟨1, 13, b__law_one⟩) rfl rfl]
  have e0 : b__law_one = (.sq (.set (.nm 1) (.call 23 (.cn (.va 0) (.cn (.vl (.lst (.cn (.c (.int 9)) (.cn (.bin .pow (.c (.int 10)) (.c (.int 6))) (.cn (.bin .pow (.c (.int 10)) (.c (.int 20))) .nl))))) .nl)))) (.sq (.set (.tp (.cn (.nm 2) (.cn (.nm 3) (.cn (.nm 4) .nl)))) (.lc (.nm 5) (.it1 .range (.cn (.c (.int 3)) .nl)) (.tr (.c (.bl true))) fracE [5])) (.sq (.ifS (.cmp .eq (.call 22 (.cn (.va 0) (.cn (.vl (.c (.int 4))) .nl))) (.c (.int 0))) (.sq (.set (.nm 3) (.v 2)) .skip) .skip) (.sq (.set (.tp (.cn (.nm 6) (.cn (.nm 7) .nl))) (.ite (.tr (.call 32 (.cn (.va 4) (.cn (.va 3) .nl)))) (.tup (.cn (.v 4) (.cn (.v 3) .nl))) (.tup (.cn (.v 3) (.cn (.v 4) .nl))))) tailB)))) := rfl
  rw [e0]
  have ew : walkD h1 .range [.int 3] = some (rangeD 0 3) := wk_rng (by decide)
  have s1 : (rangeD 0 3).length = 3 := rfl
  simp [sizeMax, e1, ew, s1]
  rw [ec]
  have w1 := r1.bt
  have w2 := r2.bt
  have w3 := r3.bt
  have l1 : (evN prg 0 (n + 9)).cf 32 [fq q3, fq q2] h5 = .ok (.bl (decide (q3 < q2))) h5 := l_lt (by omega)
  have l2 : (evN prg 0 (n + 9)).cf 32 [fq q3, fq q1] h5 = .ok (.bl (decide (q3 < q1))) h5 := l_lt (by omega)
  by_cases ht : t = 0
  · by_cases hq : q3 < q1
    · simp [e5, ht, l2, hq, sizeMax]
      rw [tail_ok r1 r3 r1 (Rat.le_of_lt hq)]
      rfl
    · simp [e5, ht, l2, hq, sizeMax]
      rw [tail_ok r1 r1 r3 (Rat.not_lt.mp hq)]
      rfl
  · by_cases hq : q3 < q2
    · simp [e5, ht, l1, hq, sizeMax]
      rw [tail_ok r1 r3 r2 (Rat.le_of_lt hq)]
      rfl
    · simp [e5, ht, l1, hq, sizeMax]
      rw [tail_ok r1 r2 r3 (Rat.not_lt.mp hq)]
      rfl
/-- the turns of the law -/
def turnB : MS := (.sq (.ifS (.not (.tr (.call 34 (.cn (.va 1) .nl)))) (.sq (.ret (.c (.bl false))) .skip) .skip) .skip)
theorem turns_ok {st : Hd → Bool} (hst : ∀ h, st h = true) {a3 a4 a5 : Option D} {sc : Option D} : ∀ (ds : List D) (h : Hd) (x : Option D), Bx b h → ∃ y h', Bx b h' ∧ forE (stepF (evN prg 0 (n + 10)) 0 (.nm 2) turnB) st ds [sc, some (.ref b), x, a3, a4, a5] h = .nx [sc, some (.ref b), y, a3, a4, a5] h'
  | [], h, x, hb => ⟨x, h, hb, by simp [hst]⟩
  | d :: ds, h, x, hb => by
    obtain ⟨h1, b1, o1, e1⟩ := one_ok (n := n) hb
    obtain ⟨y, h2, b2, e2⟩ := turns_ok hst ds h1 (some d) b1
    refine ⟨y, h2, b2, ?_⟩
    rw [forE_nx (hst h) (ρ1 := [sc, some (.ref b), some d, a3, a4, a5]) (h1 := h1)]
    · exact e2
    · rw [stepF_d]
      simp [turnB, e1]
/-- what stands behind the turns: written things alone -/
def endB : MS := (.sq (.set (.nm 3) (.lst (.cn (.c .non) (.cn (.c (.int 1)) (.cn (.tup (.cn (.c (.int 0)) (.cn (.c (.int 1)) .nl))) (.cn (.tup (.cn (.neg (.c (.int 1))) (.cn (.c (.int 2)) .nl))) (.cn (.tup (.cn (.c (.int 2)) (.cn (.c (.int 4)) .nl))) (.cn (.tup (.cn (.c (.int 1)) (.cn (.c (.int 0)) .nl))) (.cn (.lst (.cn (.c (.int 1)) (.cn (.c (.int 2)) .nl))) (.cn (.tup (.cn (.c (.bl true)) (.cn (.c (.int 1)) .nl))) (.cn (.tup (.cn (.bin .pow (.c (.int 10)) (.c (.int 40))) (.cn (.c (.int 1)) .nl))) (.cn (.tup (.cn (.c (.int 1)) (.cn (.bin .pow (.c (.int 10)) (.c (.int 40))) .nl))) .nl)))))))))))) (.sq (.ifS (.or (.not (.tr (.call 25 (.cn (.lam 3 []) (.cn (.va 3) (.cn (.vl (.tup (.cn (.c (.str [102, 114, 97, 99, 116, 105, 111, 110])) (.cn (.c (.int 0)) .nl)))) .nl)))))) (.not (.tr (.call 25 (.cn (.lam 2 []) (.cn (.va 3) (.cn (.vl (.tup (.cn (.c (.str [102, 114, 97, 99, 116, 105, 111, 110])) (.cn (.c (.int 1)) .nl)))) .nl))))))) (.sq (.ret (.c (.bl false))) .skip) .skip) (.sq (.ifS (.not (.tr (.call 25 (.cn (.lam 4 []) (.cn (.va 3) (.cn (.vl (.tup (.cn (.c (.str [102, 114, 97, 99, 116, 105, 111, 110])) (.cn (.c (.int 2)) .nl)))) .nl)))))) (.sq (.ret (.c (.bl false))) .skip) .skip) (.sq (.set (.nm 4) (.tup (.cn (.call 20 (.cn (.vl (.tup (.cn (.c (.int 1)) (.cn (.c (.int 1)) .nl)))) (.cn (.vl (.tup (.cn (.c (.int 1)) (.cn (.c (.int 2)) .nl)))) (.cn (.vl (.tup (.cn (.c (.int 2)) (.cn (.c (.int 1)) .nl)))) .nl)))) (.cn (.call 20 (.cn (.vl (.tup (.cn (.c (.int 1)) (.cn (.c (.int 1)) .nl)))) (.cn (.vl (.tup (.cn (.c (.int 1)) (.cn (.c (.int 2)) .nl)))) (.cn (.vl (.tup (.cn (.c (.int 1)) (.cn (.c (.int 1)) .nl)))) .nl)))) (.cn (.call 20 (.cn (.vl (.tup (.cn (.c (.int 2)) (.cn (.c (.int 1)) .nl)))) (.cn (.vl (.tup (.cn (.c (.int 2)) (.cn (.c (.int 1)) .nl)))) (.cn (.vl (.tup (.cn (.c (.int 6)) (.cn (.c (.int 1)) .nl)))) .nl)))) (.cn (.call 20 (.cn (.vl (.tup (.cn (.c (.int 1)) (.cn (.c (.int 1)) .nl)))) (.cn (.vl (.tup (.cn (.c (.int 1)) (.cn (.bin .pow (.c (.int 10)) (.c (.int 30))) .nl)))) (.cn (.vl (.tup (.cn (.c (.int 1)) (.cn (.c (.int 1)) .nl)))) .nl)))) .nl)))))) (.sq (.set (.nm 5) (.bin .pow (.c (.int 10)) (.c (.int 30)))) (.sq (.ret (.call 24 (.cn (.va 4) (.cn (.vl (.tup (.cn (.tup (.cn (.c (.int 1)) (.cn (.c (.int 5)) .nl))) (.cn (.tup (.cn (.c (.int 1)) (.cn (.c (.int 5)) .nl))) (.cn (.tup (.cn (.c (.int 2)) (.cn (.c (.int 5)) .nl))) (.cn (.call 27 (.cn (.vl (.bin .mul (.bin .sub (.v 5) (.c (.int 1))) (.bin .sub (.v 5) (.c (.int 1))))) (.cn (.vl (.bin .add (.bin .mul (.v 5) (.v 5)) (.c (.int 1)))) .nl))) .nl)))))) .nl)))) .skip))))))
def isT : RS → Bool
  | .rt (.bl true) _ => true
  | _ => false
end
end Lw
set_option linter.all false
set_option maxRecDepth 100000
set_option maxHeartbeats 8000000
set_option exponentiation.threshold 100000
namespace Lw
open Mi
theorem end_ok (h : Hd) (sc y a3 a4 a5 : Option D) (b : Nat) : evS (evN prg 0 20) 0 endB [sc, some (.ref b), y, a3, a4, a5] h = .rt (.bl true) h := by
  kernel_rfl
end Lw
set_option linter.all false
set_option maxRecDepth 100000
set_option maxHeartbeats 8000000
set_option exponentiation.threshold 100000
namespace Lw
open Mi
theorem law_ok (ns : List Int) (hl : ns.length ≤ 63) : ∃ h', (evN prg 0 21).cf 35 [.ref 0] [.rol (ns.map .int)] = .ok (.bl true) h' := by
  obtain ⟨b, h1, hb, e1⟩ := box_ok (P := prg) (fu := 0) (n := 19) (f := 21) (s := 90071) (c := 37561) (r := 0) (h := [.rol (ns.map .int)]) rfl (ns := ns) rfl hl
  obtain ⟨y, h2, b2, e2⟩ := turns_ok (n := 10) (b := b) (st := staysB h1 [.int 14]) (fun _ => rfl) (sc := some (.ref 0)) (a3 := none) (a4 := none) (a5 := none) (rangeD 0 14) h1 none hb
  refine ⟨h2, ?_⟩
  rw [ev_cf (F := ⟨1, 6, b_law⟩) (n := 20) rfl rfl]
  have e0 : b_law = (.sq (.set (.nm 1) (.call 21 (.cn (.va 0) .nl))) (.sq (.forS (.nm 2) (.it1 .range (.cn (.c (.int 14)) .nl)) turnB) endB)) := rfl
  rw [e0]
  have ew : walkD h1 .range [.int 14] = some (rangeD 0 14) := wk_rng (by decide)
  simp [e1, ew]
  rw [e2]
  simp [end_ok]
end Lw
set_option maxHeartbeats 4000000
set_option maxRecDepth 100000
namespace Lw
open Mi
theorem plain : M.Law 35 21 0 := fun ns hl _ => by
  rw [prg_eq]
  exact law_ok ns hl
end Lw
open PySem PySem.W PySem.Calls PyProof.Rows
set_option maxRecDepth 100000 in
set_option maxHeartbeats 8000000 in
theorem PySem.Challenge.cw_onepool_k69_whole_the_most_a_keeper_lose_holds : PySem.Challenge.rw_onepool_k69_whole_the_most_a_keeper_lose.Holds := by
  w_on; o_law
  refine HandSHeadRun.head_imp (r := OpenLaw.row PySem.Challenge.rw_onepool_k69_whole_the_most_a_keeper_lose) (q := (PySem.W.view (OpenLaw.row PySem.Challenge.rw_onepool_k69_whole_the_most_a_keeper_lose).prog [0, 48])) (H := Mi.hookM 5 Lw.M) (ob := Mi.obM 5 Lw.M) (M := 4000) (loose := Lw.lo) (d := HandSHeadRun.topDef (OpenLaw.row PySem.Challenge.rw_onepool_k69_whole_the_most_a_keeper_lose).prog 48) (kwd := []) Mi.obM_eq
    Lw.run (by kernel_rfl) (by kernel_rfl) (by kernel_rfl) (by rfl) (by first | assumption | decide +kernel) (by decide +kernel) ⟨rfl, rfl, rfl, rfl, rfl, by decide +kernel⟩ ?hw ?hc
  case hw => w_witness2
  case hc => exact Mi.walk_M (l := PySem.Challenge.rw_onepool_k69_whole_the_most_a_keeper_lose) (fi := 35) rfl Lw.ok rfl rfl (by kernel_rfl) rfl (by kernel_rfl) (by decide) Lw.plain
